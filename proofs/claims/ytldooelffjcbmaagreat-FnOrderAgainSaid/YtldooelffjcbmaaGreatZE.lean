/- Part 5 of the proof: the engine, codes, walks and plain laws, each named where it stands. -/
import Derived.Test.YtldooelffjcbmaaGreatZD
open Nat (reduceEqDiff reduceAdd reduceLeDiff reduceLT)
set_option linter.unusedVariables false
set_option linter.unusedSimpArgs false
set_option maxRecDepth 4000
namespace Go.AE.Y
attribute [local go_sem] cond_true cond_false Bool.not_true Bool.not_false
open Go.Proofs.Tryz
variable {H H0:Heap}{K:V→Heap→Prop}{E B Lg:List (Nat×Obj)}{q:CodeD}
theorem CodeD.ok.gd (h:q.ok):q.gd:=⟨h.b0,h.b1,fun y hy=>by
 obtain⟨b,hb,rfl⟩:=List.mem_iff_getElem.1 hy
 exact (h.bs b hb).nxl,h.fts⟩
theorem CodeD.ok.fitB (h:q.ok):Qeb q.blocks.length (gnx q)=true:=by
 have h1:(List.range q.blocks.length).all (fun i=>(gnx q i).all fun x=>decide (0≤x∧x≤(q.blocks.length:Int)-1))=true:=by
  simp only[List.all_eq_true,List.mem_range,decide_eq_true_eq]
  intro b hb x hx
  rw[Qwo hb]at hx
  have:=(h.bs b hb).nx x hx
  omega
 have h2:decide (0<q.blocks.length)=true:=decide_eq_true h.b0
 simp only[Qeb,h1,Bool.true_and]
 first|exact h2|simpa using h.b0
theorem CodeD.ok.rchPk (h:q.ok):Pk q (rchL q.blocks.length (nxN (gnx q))):=by
 have hb0:=h.b0
 have hb1:=h.b1
 refine⟨?_,?_,fun x hx=>?_,fun x hx v hv=>?_⟩
 ·have:=List.length_filter_le (Q8y (nxN (gnx q)) (-1)) (List.range q.blocks.length)
  rw[List.length_range]at this
  rw[rchL];omega
 ·obtain⟨m,hm⟩:∃m,q.blocks.length=m+1:=⟨q.blocks.length-1,by omega⟩
  have h0:Q8y (nxN (gnx q)) (-1) 0=true:=rchB_iff.2 (.refl (by omega))
  rw[rchL,hm,List.range_succ_eq_map,List.filter_cons,h0]
  rfl
 ·rw[rchL,List.mem_filter,List.mem_range]at hx
  exact hx.1
 ·rw[rchL,List.mem_filter,List.mem_range]at hx⊢
  have hvx:=hv
  rw[Qwo hx.1]at hvx
  have:=(h.bs x hx.1).nx v hvx
  refine⟨by omega,rchB_iff.2 (.step (rchB_iff.1 hx.2) (List.mem_map.2 ⟨v,hv,rfl⟩) (by omega))⟩
def zRow (v:Int):List C:=[.int .i64 1,.int .i64 v,.sl true 1 [],.int .i64 0]
def zIns (v:Int):InsD:=⟨1,v,[],0⟩
end Go.AE.Y

namespace Go.AE.Y
def mix {α:Type}(f:α→α)(is:List α)(k:Nat):List α:=(is.take k).map f++is.drop k
theorem Qj1 {α:Type}(f:α→α)(is:List α)(k:Nat):(mix f is k).length=is.length:=by
 simp only[mix,List.length_append,List.length_map,List.length_take,List.length_drop];omega
theorem Qbdr {α:Type}{f:α→α}{is:List α}{i:Nat}(h:i<is.length)(h2:i<(mix f is i).length):(mix f is i)[i]=is[i]:=by
 have hl:((is.take i).map f).length=i:=by rw[List.length_map,List.length_take];omega
 simp only[mix]
 rw[List.getElem_append_right (by omega)]
 simp only[hl,Nat.sub_self,List.getElem_drop,Nat.add_zero]
theorem Qa06 {α:Type}{f:α→α}{is:List α}{i:Nat}(h:i<is.length):(mix f is i).set i (f is[i])=mix f is (i+1):=by
 have hl:((is.take i).map f).length=i:=by rw[List.length_map,List.length_take];omega
 rw[mix,mix,List.set_append_right _ _ (by omega),hl,Nat.sub_self,List.drop_eq_getElem_cons h,List.set_cons_zero,List.take_succ_eq_append_getElem h,List.map_append,List.append_assoc]
 rfl
theorem Qaqz {α:Type}(f:α→α)(is:List α):mix f is 0=is:=by simp[mix]
theorem Qa05 {α:Type}(f:α→α)(is:List α){i:Nat}(h:is.length≤i):mix f is i=is.map f:=by
 rw[mix,List.take_of_length_le h,List.drop_of_length_le h,List.append_nil]
def twoB (ns:List Int):Bool:=ns.any fun v=>v != ns.headD 0
def shV (nx:Nat→List Int)(n b:Nat)(v:Int):Bool:=twoB (nx b)&&decide (1<(Q1 nx v n).length)
def shL (nx:Nat→List Int)(n b:Nat):List Int:=(nx b).filter (shV nx n b)
def newL (nx:Nat→List Int)(n m:Nat):List (Nat×Int):=(List.range m).flatMap fun b=>(shL nx n b).map fun v=>(b,v)
def offN (nx:Nat→List Int)(n b:Nat):Nat:=n+(newL nx n b).length
def spV (nx:Nat→List Int)(n b:Nat)(v:Int):Int:=if shV nx n b v=true then ((offN nx n b+(shL nx n b).idxOf v:Nat):Int)else v
def spX (nx:Nat→List Int)(n b:Nat):List Int:=if b<n then (nx b).map (spV nx n b)else match (newL nx n n)[b-n]? with
 |some e=>[e.2]
 |none=>[]
def org (nx:Nat→List Int)(n j:Nat):Nat:=if j<n then j else match (newL nx n n)[j-n]? with
 |some e=>e.1
 |none=>0
structure SpF (nx:Nat→List Int)(n:Nat):Prop where
 len:∀b,b<n→(nx b).length≤2
 rng:∀b,b<n→∀v∈nx b,1≤v∧v<n
theorem Qbgi {ns:List Int}(h:ns.length≤2):(twoB ns=true→∃a c,ns=[a,c]∧a≠c)∧(twoB ns=false→ns=[]∨∃a,ns=[a]∨ns=[a,a]):=by
 match ns with
 |[]=>simp[twoB]
 |[a]=>simp[twoB]
 |[a,c]=>
  simp only[twoB,List.any_cons,List.any_nil,List.headD_cons]
  by_cases h:c=a
  ·subst h;simp
  ·refine⟨fun _=>⟨a,c,rfl,fun e=>h e.symm⟩,fun hh=>?_⟩
   simp[h]at hh
 |_::_::_::_=>simp only[List.length_cons]at h;omega
variable {nx:Nat→List Int}{n:Nat}
theorem SpF.nd (F:SpF nx n){b:Nat}(hb:b<n):(shL nx n b).Nodup:=by
 cases ht:twoB (nx b)with
 |true=>
  obtain⟨a,c,e,hne⟩:=(Qbgi (F.len b hb)).1 ht
  refine List.Nodup.sublist List.filter_sublist ?_
  rw[e];simp[hne]
 |false=>
  have:shL nx n b=[]:=by
   rw[shL,List.filter_eq_nil_iff]
   intro v _;simp[shV,ht]
  rw[this];exact List.nodup_nil
theorem mem_newL {m b:Nat}{v:Int}:(b,v)∈newL nx n m↔b<m∧v∈nx b∧shV nx n b v=true:=by
 simp only[newL,List.mem_flatMap,List.mem_range,List.mem_map,shL,List.mem_filter,Prod.mk.injEq]
 constructor
 ·rintro⟨b',h1,v',⟨h2,h3⟩,rfl,rfl⟩;exact⟨h1,h2,h3⟩
 ·rintro⟨h1,h2,h3⟩;exact⟨b,h1,v,⟨h2,h3⟩,rfl,rfl⟩
theorem Qbl0 {l:List Int}(hl:l.Nodup){aa:List Int}(h:aa.length=l.length):l.map (fun w=>aa.getD (l.idxOf w) 0)=aa:=by
 refine List.ext_getElem (by rw[List.length_map,h]) fun i h1 h2=>?_
 have hi:i<l.length:=by rw[List.length_map]at h1;exact h1
 rw[List.getElem_map]
 have:l.idxOf l[i]=i:=List.Nodup.idxOf_getElem hl i hi
 rw[this,List.getD_eq_getElem?_getD,List.getElem?_eq_getElem h2];rfl
theorem Qabp (nx:Nat→List Int)(b:Int)(n:Nat):(Q1 nx b n).Nodup:=by
 rw[Q1,List.nodup_iff_pairwise_ne,List.pairwise_map]
 exact List.Pairwise.imp (fun hne he=>hne (Int.ofNat.inj he)) (List.Nodup.sublist List.filter_sublist List.nodup_range)
theorem preds_mem {nx:Nat→List Int}{b w:Int}{n:Nat}:w∈Q1 nx b n↔∃j:Nat,j<n∧b∈nx j∧w=j:=by
 simp only[Q1,List.mem_map,List.mem_filter,List.mem_range,List.contains_iff_mem]
 constructor
 ·rintro⟨j,⟨h1,h2⟩,rfl⟩;exact⟨j,h1,h2,rfl⟩
 ·rintro⟨j,h1,h2,rfl⟩;exact⟨j,⟨h1,h2⟩,rfl⟩
def spA (q:CodeD)(b:Nat)(aa:List Int):List Int:=(Q1 (spX (gnx q) q.blocks.length) (b:Int) (offN (gnx q) q.blocks.length q.blocks.length)).map fun w=>aa.getD ((Q1 (gnx q) (b:Int) q.blocks.length).idxOf ((org (gnx q) q.blocks.length w.toNat:Nat):Int)) 0
def spP (q:CodeD)(b:Nat)(p:PhiD):PhiD:=⟨p.to,spA q b p.args⟩
def spB (q:CodeD)(b:Nat):BlkD:=⟨(Qaj q b).phis.map (spP q b),(Qaj q b).ins,(Qaj q b).jump,(Qaj q b).on,spX (gnx q) q.blocks.length b⟩
def goB (v:Int):BlkD:=⟨[],[],1,0,[v]⟩
def spD (q:CodeD):CodeD:=⟨q.params,q.regs,(List.range q.blocks.length).map (spB q)++(newL (gnx q) q.blocks.length q.blocks.length).map fun e=>goB e.2⟩
def palB (q:CodeD):Prop:=∀b (h:b<q.blocks.length),∀p∈(q.blocks[b]'h).phis,p.args.length=(Q1 (gnx q) (b:Int) q.blocks.length).length
theorem Qbci {q:CodeD}{b:Nat}(h:q.blocks.length≤b):gnx q b=[]:=by
 rw[gnx,List.getD_eq_getElem?_getD,List.getElem?_eq_none (by simpa using h)];rfl
def hasS (q:CodeD):Bool:=(List.range q.blocks.length).any fun b=>(gnx q b).any (shV (gnx q) q.blocks.length b)
variable {q:CodeD}
theorem CodeD.ok.palB (h:q.ok):palB q:=fun b hb p hp=>(h.bs b hb).pal p hp
end Go.AE.Y

namespace Go.AE.Y
attribute [local go_sem] cond_true cond_false Bool.not_true Bool.not_false
attribute [local instance] Classical.propDecidable
open Go.Proofs.Tryz
variable {H H0:Heap}{K:V→Heap→Prop}
def nwA (q:CodeD)(P:List Int)(l:List Nat)(i:Nat)(args:List Int):List Int:=
 (Q1 (pkN q P l) (i:Int) l.length).map fun w=>args.getD ((Q1 (gnx q) ((l.getD i 0:Nat):Int) q.blocks.length).idxOf ((l.getD w.toNat 0:Nat):Int)) 0
def nwP (q:CodeD)(P:List Int)(l:List Nat)(i:Nat)(p:PhiD):PhiD:=⟨p.to,nwA q P l i p.args⟩
structure PkZ (q:CodeD)(P:List Int)(l:List Nat)(i:Nat)(ks:List KBlk):Prop where
 n:ks.length=l.length
 b:∀j (h:j<ks.length),PkB q P (l.getD j 0) ks[j].y
 ok:∀b∈ks,b.ok
 a:∀j (h:j<ks.length),j<i→ks[j].y.phis=(Qaj q (l.getD j 0)).phis.map (nwP q P l j)
 u:∀j (h:j<ks.length),i≤j→ks[j].y.phis=(Qaj q (l.getD j 0)).phis
variable {q:CodeD}{P:List Int}{l:List Nat}{ks:List KBlk}
theorem PkZ.step {i:Nat}(hS:PkZ q P l i ks)(hi:i<ks.length){ph:List PhiD}{pl:List (Nat×Obj)}(h1:ph.map PhiD.to=(Qaj q (l.getD i 0)).phis.map PhiD.to)(h2:ph=(Qaj q (l.getD i 0)).phis.map (nwP q P l i))(hg:Gr pl 2 (Q2 ph) ks[i].pc) :
  PkZ q P l (i+1) (ks.set i ⟨⟨ph,ks[i].y.ins,ks[i].y.jump,ks[i].y.on,ks[i].y.next⟩,ks[i].pc,pl⟩):=by
 have hb:=hS.b i hi
 refine⟨by rw[List.length_set];exact hS.n,fun j h=>?_,fun w hw=>?_,fun j h hj=>?_,fun j h hj=>?_⟩
 ·have h':j<ks.length:=by simpa using h
  rw[List.getElem_set]
  split
  ·rename_i e;subst e;exact⟨hb.j,hb.o,hb.i,hb.n,h1⟩
  ·exact hS.b j h'
 ·rcases List.mem_or_eq_of_mem_set hw with h|rfl
  ·exact hS.ok w h
  ·exact hg
 ·have h':j<ks.length:=by simpa using h
  rw[List.getElem_set]
  split
  ·rename_i e;subst e;exact h2
  ·exact hS.a j h' (by omega)
 ·have h':j<ks.length:=by simpa using h
  rw[List.getElem_set]
  split
  ·omega
  ·exact hS.u j h' (by omega)
def pkX (q:CodeD)(P:List Int)(l:List Nat)(i:Nat):BlkD:=⟨(Qaj q (l.getD i 0)).phis.map (nwP q P l i),(Qaj q (l.getD i 0)).ins,(Qaj q (l.getD i 0)).jump,(Qaj q (l.getD i 0)).on,(pkY q P (l.getD i 0)).next⟩
def pkD (q:CodeD)(P:List Int)(l:List Nat):CodeD:=⟨q.params,q.regs,(List.range l.length).map (pkX q P l)⟩
theorem Qbdu (ho:q.ok)(hp:Pk q l)(hP:Q31 q.blocks.length l P){j:Nat}(hj:j<l.length){p:PhiD}(h:p∈(Qaj q (l.getD j 0)).phis.map (nwP q P l j)):PkA q P l j p:=by
 obtain⟨p0,h0,rfl⟩:=List.mem_map.1 h
 obtain⟨g0,g1,g2⟩:=hp.get hj
 have hyo:=ho.bs _ g2
 rw[g0,Qa8 g2]at h0
 refine⟨by rw[nwP,nwA,List.length_map],fun v hv=>?_⟩
 obtain⟨w,hw,rfl⟩:=List.mem_map.1 hv
 obtain⟨j',hj',rfl,hmo⟩:=hp.preds ho hP hj hw
 have e:l.getD ((j':Int)).toNat 0=l[j']:=by rw[Int.toNat_natCast];exact (hp.get hj').1
 rw[e,g0]
 have hal:=hyo.pal p0 h0
 have hix:(Q1 (gnx q) ((l[j]:Nat):Int) q.blocks.length).idxOf ((l[j']:Nat):Int)<p0.args.length:=by
  rw[hal];exact List.idxOf_lt_length_of_mem hmo
 exact hyo.pargs p0 h0 _ (Q0s hix)
set_option maxHeartbeats 8000000 in
theorem Qa89 {H0 H:Heap}{E:List (Nat×Obj)}{Q:X→Env→Heap→Prop}{e:Env}{fl fl2:Bool}{x4 x6 zb:Nat}{ks0:List KBlk}(ho:q.ok)(hp:Pk q l)(hP:Q31 q.blocks.length l P)(hS:PkZ q P l 0 ks0)
  (kn:Kn H0 H E ([(x4,.st [.int .i64 0,.int .i64 0,.sl true 5 []]),(x6,.st [.int .i64 q.params,.int .i64 q.regs,.vsl zb 5 0 l.length]),(zb,.vec 5 (ks0.map KBlk.row))]++ks0.flatMap KBlk.pl))
  (l1:lk 1 e=.c (.sl fl2 1 (Q9 l))) (l2:lk 2 e=.c (.pp [.int .i64 q.params,.int .i64 q.regs,.sl fl 5 (Qp q.blocks)])) (l4:lk 4 e=.c (.ptr x4 0)) (l6:lk 6 e=.c (.ptr x6 0))
  (hQ:∀(e:Env) (H':Heap) (ks:List KBlk),PkZ q P l l.length ks→Kn H0 H' E ([(x4,.st [.int .i64 q.params,.int .i64 q.regs,.vsl zb 5 0 l.length]),(x6,.st [.int .i64 q.params,.int .i64 q.regs,.vsl zb 5 0 l.length]),(zb,.vec 5 (ks.map KBlk.row))]++ks.flatMap KBlk.pl)→
   lk 4 e=.c (.ptr x4 0)→Q .ret e H'):Qac prog Q61 Q e H:=by
 have hb1:=ho.b1
 have hln:=hp.n
 obtain⟨X4,hX4⟩:∃o,o=Obj.st [.int .i64 0,.int .i64 0,.sl true 5 []]:=⟨_,rfl⟩
 obtain⟨X6,hX6⟩:∃o,o=Obj.st [.int .i64 q.params,.int .i64 q.regs,.vsl zb 5 0 l.length]:=⟨_,rfl⟩
 rw[←hX4,←hX6]at kn
 refine Q3 ?_
 refine Qa ?_
 simp only[go_sem,l1,l2,l4,l6]
 refine Qh (Qe (Qx (fun m e1 H1=>∃(i:Nat) (ks:List KBlk),m=l.length-i∧i≤l.length∧PkZ q P l i ks∧
  Kn H0 H1 E ([(x4,X4),(x6,X6),(zb,.vec 5 (ks.map KBlk.row))]++ks.flatMap KBlk.pl)∧
  lk 1 e1=.c (.sl fl2 1 (Q9 l))∧lk 2 e1=.c (.pp [.int .i64 q.params,.int .i64 q.regs,.sl fl 5 (Qp q.blocks)])∧lk 4 e1=.c (.ptr x4 0)∧lk 6 e1=.c (.ptr x6 0)∧lk 10 e1=.c (.int .i64 i)) l.length ?_ ?_))
 ·exact⟨0,ks0,by omega,by omega,hS,kn,rfl,rfl,rfl,rfl,rfl⟩
 ·clear kn hS l1 l2 l4 l6
  rintro m e1 H1 ⟨i,ks,hm,hi,hS,kn,l1,l2,l4,l6,l10⟩
  have hkl:=hS.n
  refine Q3 ?_
  refine Qa ?_
  simp only[go_sem,l1,l2,l4,l6,l10,Qad]
  try intro _
  refine Qh (Qf rfl ?_ ?_)
  ·intro hc
   have hlt:i<l.length:=by simpa using hc
   have hki:i<ks.length:=by omega
   obtain⟨b,hb⟩:∃b,l[i]=b:=⟨_,rfl⟩
   have hbm:b∈l:=by rw[←hb];exact List.getElem_mem hlt
   have hbn:=hp.lt b hbm
   have hgd:l.getD i 0=b:=by simp[List.getD_eq_getElem?_getD,hlt,hb]
   obtain⟨kb,hkb⟩:∃kb,ks[i]=kb:=⟨_,rfl⟩
   have hkbo:Gr kb.pl 2 (Q2 kb.y.phis) kb.pc:=by rw[←hkb];exact hS.ok _ (List.getElem_mem hki)
   have hkbB:PkB q P b kb.y:=by have:=hS.b i hki;rw[hgd,hkb]at this;exact this
   have hkbU:kb.y.phis=(Qaj q b).phis:=by have:=hS.u i hki (Nat.le_refl _);rw[hgd,hkb]at this;exact this
   have hyo:=ho.bs b hbn
   have hil:=ho.il b hbn
   rw[←Qa8 hbn]at hyo hil
   obtain⟨R,hR⟩:∃R,(ks.eraseIdx i).flatMap KBlk.pl=R:=⟨_,rfl⟩
   have hflat:(ks.flatMap KBlk.pl).Perm (kb.pl++R):=by rw[←hR,←hkb];exact Qci hki
   obtain⟨RW,hRW⟩:∃RW,ks.map KBlk.row=RW:=⟨_,rfl⟩
   have hRWl:RW.length=l.length:=by rw[←hRW,List.length_map,hkl]
   have hRWg:RW.getD i []=[kb.pc,.sl false 4 (Qav kb.y.ins),.int .i64 kb.y.jump,.int .i64 kb.y.on,.sl false 1 (Qd kb.y.next)]:=by
    rw[←hRW,List.getD_eq_getElem?_getD]
    simp only[List.getElem?_map,List.getElem?_eq_getElem hki,hkb,Option.map_some,Option.getD_some]
    exact kb.row_eq
   have hRWt:RW.take l.length=RW:=List.take_of_length_le (by omega)
   rw[hRW]at kn
   have hx6:H1 x6=X6:=(kn.get (x6,X6) (by simp)).1
   rw[hX6]at hx6
   refine Qi ?_
   try simp only[go_sem]
   refine Qh (Qe ?_)
   refine Qag ?_
   simp only[go_sem,l1,l2,l4,l6,l10,hlt,Qad,Qbl _ _ hlt,hgd]
   refine Q0y (nx:=gnx q) (.mk' _ _ _ _) rfl (Qi8 H1 q fl).x fun H2 hu=>?_
   have kn:=kn.call0 hu
   simp only[go_sem,Q2f,Ql]
   obtain⟨olds,hol⟩:∃o,Q1 (gnx q) (b:Int) q.blocks.length=o:=⟨_,rfl⟩
   rw[hol]
   have hx6:H2 x6=X6:=(kn.get (x6,X6) (by simp)).1
   rw[hX6]at hx6
   have hzb:H2 zb=.vec 5 RW:=(kn.get (zb,.vec 5 RW) (by simp)).1
   refine Qa ?_
   simp only[go_sem,l1,l2,l4,l6,l10,hx6]
   refine Q0y (nx:=pkN q P l) (vslc hzb hRWl.symm) rfl (fun j hj=>?_) fun H3 hu=>?_
   ·have hj':j<ks.length:=by omega
    have hj2:j<l.length:=by omega
    have hjB:=hS.b j hj'
    rw[(hp.get hj2).1]at hjB
    refine⟨ks[j].pc,.sl false 4 (Qav ks[j].y.ins),.int .i64 ks[j].y.jump,.int .i64 ks[j].y.on,false,?_⟩
    rw[←hRW,List.getD_eq_getElem?_getD]
    simp only[List.getElem?_map,List.getElem?_eq_getElem hj',Option.map_some,Option.getD_some]
    rw[Q1a hj2,←hjB.n]
    exact KBlk.row_eq _
   have kn:=kn.call0 hu
   rw[hRWl]
   obtain⟨news,hnw⟩:∃o,Q1 (pkN q P l) (i:Int) l.length=o:=⟨_,rfl⟩
   rw[hnw]
   have hnl:news.length≤l.length:=by rw[←hnw];exact Qb0 _ _ _
   simp only[go_sem,Q2g]
   refine Qa ?_
   simp only[go_sem]
   have kn:Kn H0 H3 E (([(x4,X4),(x6,X6),(zb,.vec 5 RW)]++R)++kb.pl):=kn.perm (Qm fun f hf h0 hc hp=>by
    have:=hp _ _ hflat
    simp only[hf]at this⊢;omega)
   refine Qe (Qx (fun m e1 H1=>∃(k:Nat) (ph:List PhiD) (pl:List (Nat×Obj)),m=ph.length-k∧k≤ph.length∧ph=mix (nwP q P l i) (Qaj q b).phis k∧Gr pl 2 (Q2 ph) kb.pc∧
    Kn H0 H1 E (([(x4,X4),(x6,X6),(zb,.vec 5 RW)]++R)++pl)∧
    lk 1 e1=.c (.sl fl2 1 (Q9 l))∧lk 2 e1=.c (.pp [.int .i64 q.params,.int .i64 q.regs,.sl fl 5 (Qp q.blocks)])∧lk 4 e1=.c (.ptr x4 0)∧lk 6 e1=.c (.ptr x6 0)∧lk 10 e1=.c (.int .i64 i)∧lk 11 e1=.c (.sl false 1 (Qd olds))∧lk 12 e1=.c (.sl false 1 (Qd news))∧lk 13 e1=.c (.int .i64 k)) kb.y.phis.length ?_ ?_)
   ·exact⟨0,kb.y.phis,kb.pl,by omega,by omega,by rw[hkbU,Qaqz],hkbo,kn,rfl,rfl,rfl,rfl,rfl,rfl,rfl,rfl⟩
   ·clear kn hx6 hzb hflat hu l1 l2 l4 l6 l10
    rintro m2 e2 H4 ⟨k,ph,pl,hm2,hk,hphe,hgr,kn,l1,l2,l4,l6,l10,l11,l12,l13⟩
    have hphl:ph.length=(Qaj q b).phis.length:=by rw[hphe,Qj1]
    have hx6:H4 x6=X6:=(kn.get (x6,X6) (by simp)).1
    rw[hX6]at hx6
    have hzb:H4 zb=.vec 5 RW:=(kn.get (zb,.vec 5 RW) (by simp)).1
    have hpw:=hgr.isOw
    have hpok:=eq_true (hgr.get kn).1
    have hplen:=hgr.lenC
    rw[Qy]at hplen
    refine Q3 ?_
    refine Qa ?_
    simp only[go_sem,l1,l2,l4,l6,l10,l11,l12,l13,hx6,hzb,hRWl,hRWt,hRWg,hlt,hpw,hpok,hplen,Nat.zero_add,Nat.le_refl]
    try intro _
    refine Qh (Qf rfl ?_ ?_)
    ·intro hc2
     have hlt2:k<ph.length:=by simpa using hc2
     obtain⟨z,hpc,hpl⟩:∃z,kb.pc=.vsl z 2 0 ph.length∧pl=[(z,.vec 2 (Q2 ph))]:=by
      rcases hgr with ⟨_,h,_⟩|⟨y,h1,h2⟩
      ·have:=congrArg List.length h;rw[Qy]at this;simp only[List.length_nil]at this;omega
      ·exact⟨y,by rw[h1,Qy],h2⟩
     rw[hpc]at hRWg
     rw[hpl]at kn
     clear hpw hpok hplen
     obtain⟨p,hpk⟩:∃p,ph[k]=p:=⟨_,rfl⟩
     have hk0:k<(Qaj q b).phis.length:=by omega
     have hp0:(Qaj q b).phis[k]=p:=by
      rw[←hpk]
      subst hphe
      exact (Qbdr hk0 hlt2).symm
     have hpm:p∈(Qaj q b).phis:=by rw[←hp0];exact List.getElem_mem hk0
     obtain⟨NA,hNA⟩:∃NA,nwA q P l i p.args=NA:=⟨_,rfl⟩
     have hNl:NA.length=news.length:=by rw[←hNA,nwA,List.length_map,hnw]
     have hpal:p.args.length=olds.length:=by rw[←hol];exact hyo.pal p hpm
     have hpargs:=hyo.pargs p hpm
     have hptk:(Q2 ph).take ph.length=Q2 ph:=List.take_of_length_le (by rw[Qy];omega)
     have hpg:(Q2 ph).getD k []=[.int .i64 p.to,.sl false 1 (Qd p.args)]:=by rw[Qa3 _ _ hlt2,hpk];rfl
     refine Qi ?_
     try simp only[go_sem]
     refine Qh (Qe ?_)
     refine Qa ?_
     simp only[go_sem]
     refine Q3 ?_
     refine Qa ?_
     simp only[go_sem]
     refine Qh (Qe (Qx (fun m e1 H1=>∃(j:Nat) (av:List Int) (t:C) (Lg:List (Nat×Obj)),m=news.length-j∧j≤news.length∧av=NA.take j∧Gr Lg 1 (Qd av) t∧
      Kn H0 H1 E (([(x4,X4),(x6,X6),(zb,.vec 5 RW)]++R++[(z,.vec 2 (Q2 ph))])++Lg)∧
      lk 1 e1=.c (.sl fl2 1 (Q9 l))∧lk 2 e1=.c (.pp [.int .i64 q.params,.int .i64 q.regs,.sl fl 5 (Qp q.blocks)])∧lk 4 e1=.c (.ptr x4 0)∧lk 6 e1=.c (.ptr x6 0)∧lk 10 e1=.c (.int .i64 i)∧lk 11 e1=.c (.sl false 1 (Qd olds))∧lk 12 e1=.c (.sl false 1 (Qd news))∧lk 13 e1=.c (.int .i64 k)∧
      lk 14 e1=.c t∧lk 15 e1=.c (.int .i64 j)) news.length ?_ ?_))
     ·exact⟨0,[],_,[],by omega,by omega,by simp,.nil 1,by simpa using kn,rfl,rfl,rfl,rfl,rfl,rfl,rfl,rfl,rfl,rfl⟩
     ·clear kn hx6 hzb l1 l2 l4 l6 l10 l11 l12 l13
      rintro m3 e3 H5 ⟨j,av,t,Lg,hm3,hj,hav,hgt,kn,l1,l2,l4,l6,l10,l11,l12,l13,l14,l15⟩
      have htw:=hgt.isOw
      have hasl:av.length=j:=by rw[hav,List.length_take];omega
      refine Q3 ?_
      refine Qa ?_
      simp only[go_sem,l1,l2,l4,l6,l10,l11,l12,l13,l14,l15,htw,Qc]
      try intro _
      refine Qh (Qf rfl ?_ ?_)
      ·intro hc3
       have hlt3:j<news.length:=by simpa using hc3
       have hnm:news[j]∈Q1 (pkN q P l) (i:Int) l.length:=by rw[hnw];exact List.getElem_mem hlt3
       obtain⟨j',hj',hnj,hmo⟩:=hp.preds ho hP hlt hnm
       rw[hb,hol]at hmo
       have hgd3:news.getD j 0=(j':Int):=by rw[←hnj];simp[List.getD_eq_getElem?_getD,hlt3]
       have hgd4:l.getD j' 0=l[j']:=by simp[List.getD_eq_getElem?_getD,hj']
       have hx6:H5 x6=X6:=(kn.get (x6,X6) (by simp)).1
       rw[hX6]at hx6
       have hzb:H5 zb=.vec 5 RW:=(kn.get (zb,.vec 5 RW) (by simp)).1
       have hz:H5 z=.vec 2 (Q2 ph):=(kn.get (z,.vec 2 (Q2 ph)) (by simp)).1
       refine Qi ?_
       try simp only[go_sem]
       refine Qh (Qe ?_)
       refine Qbt ?_
       simp only[go_sem,hx6,hzb,hz,hRWl,hRWt,hRWg,hlt,hlt2,hptk,hpg,Qy,hlt3,Qc,Qt _ _ hlt3,hgd3,hj',Qad,Qbl _ _ hj',hgd4,htw,Nat.zero_add,Nat.le_refl]
       refine Qbll (ns:=olds) (.mk' _ _ _ _) rfl fun r hr=>?_
       obtain⟨a,ha⟩:∃a,olds.idxOf ((l[j']:Nat):Int)=a:=⟨_,rfl⟩
       have ra:r=(a:Int):=by rw[←ha];exact hr.idx hmo
       have hal:a<olds.length:=by rw[←ha];exact List.idxOf_lt_length_of_mem hmo
       have hNj:j<NA.length:=by omega
       have hNv:NA[j]=p.args.getD a 0:=by
        subst hNA
        simp only[nwA,List.getElem_map,hgd,hol]
        have e:(Q1 (pkN q P l) (i:Int) l.length)[j]'(by rw[hnw];exact hlt3)=(j':Int):=by
         subst hnw;exact hnj
        rw[e,Int.toNat_natCast,hgd4,ha]
       have hal2:a<p.args.length:=by omega
       simp only[go_sem,Q2i,ra,hx6,hzb,hz,hRWl,hRWt,hRWg,hlt,hlt2,hptk,hpg,Qy,hal2,Qc,Qt _ _ hal2,htw,Nat.zero_add,Nat.le_refl]
       refine kn.growR (new:=Qd [p.args.getD a 0]) hgt (.mk' _ _ _ _) (Qr _) (by simp only[Qc,LIM,List.length_cons,List.length_nil];omega) fun t2 Lg2 H6 hgt2 ht2 kn=>?_
       simp only[go_sem,Q2h,ht2]
       refine Qv ?_
       simp only[go_sem,ht2]
       refine⟨Qq (by omega) (by omega),?_⟩
       show ∃m,_
       refine⟨news.length-(j+1),by omega,j+1,av++[p.args.getD a 0],t2,Lg2,rfl,by omega,by rw[hav,List.take_succ_eq_append_getElem hNj,hNv],by rw[Qb5];exact hgt2,kn,rfl,rfl,rfl,rfl,rfl,rfl,rfl,rfl,rfl,by simp[lk]⟩
      ·intro hc3
       have hje:j=news.length:=by have:news.length≤j:=(by simpa using hc3);omega
       have hav:av=NA:=by rw[hav,List.take_of_length_le (by omega)]
       subst hav
       have hset0:=Qa06 (f:=nwP q P l i) hk0
       rw[hp0,nwP,hNA]at hset0
       refine Qw ?_
       simp only[go_sem,X.next]
       obtain⟨S,hSL,hSB,hfz,kn⟩:=kn.freeze0
       have hft:FrzC H5 S t (.sl false 1 (Qd av)):=Gr.frzM hgt hSL (FrzR.same (Qr _))
       refine c_gh (Qet S (Qaqb ?_) hfz) (e':=[(1,.c (.sl fl2 1 (Q9 l))),(2,.c (.pp [.int .i64 q.params,.int .i64 q.regs,.sl fl 5 (Qp q.blocks)])),(4,.c (.ptr x4 0)),(6,.c (.ptr x6 0)),(10,.c (.int .i64 i)),(11,.c (.sl false 1 (Qd olds))),(12,.c (.sl false 1 (Qd news))),(13,.c (.int .i64 k)),(14,.c (.sl false 1 (Qd av)))]) ?_
       ·simp only[List.forall_mem_cons,l1,l2,l4,l6,l10,l11,l12,l13,l14]
        exact⟨.c _ _ (.same _ rfl),.c _ _ (.same _ rfl),.c _ _ (.same _ rfl),.c _ _ (.same _ rfl),.c _ _ (.same _ rfl),.c _ _ (.same _ rfl),.c _ _ (.same _ rfl),.c _ _ (.same _ rfl),.c _ _ hft,by simp⟩
       generalize H5.frz S=H6 at *
       have hx6:H6 x6=X6:=(kn.get (x6,X6) (by simp)).1
       rw[hX6]at hx6
       have hzb:H6 zb=.vec 5 RW:=(kn.get (zb,.vec 5 RW) (by simp)).1
       have hz:H6 z=.vec 2 (Q2 ph):=(kn.get (z,.vec 2 (Q2 ph)) (by simp)).1
       have hset:(Q2 ph).set k [.int .i64 p.to,.sl false 1 (Qd av)]=Q2 (ph.set k ⟨p.to,av⟩):=Qa88 ph k ⟨p.to,av⟩
       refine Qv ?_
       simp only[go_sem,hx6,hzb,hz,hRWl,hRWt,hRWg,hlt,hlt2,hptk,hpg,hset,Qy,Nat.zero_add,Nat.le_refl]
       intro H7 h7
       have kn:Kn H0 H7 E (([(x4,X4),(x6,X6),(zb,.vec 5 RW)]++R)++[(z,.vec 2 (Q2 (ph.set k ⟨p.to,av⟩)))]):=by
        have:=kn.stL ([(x4,X4),(x6,X6),(zb,Obj.vec 5 RW)]++R).length (x:=z) (o:=.vec 2 (Q2 ph)) (by simp) h7
        simpa using this
       refine Qv ?_
       simp only[go_sem]
       refine⟨Qq (by omega) (by omega),?_⟩
       show ∃m,_
       refine⟨ph.length-(k+1),by omega,k+1,ph.set k ⟨p.to,av⟩,_,by rw[List.length_set],by rw[List.length_set];omega,by rw[hphe];exact hset0,?_,kn,rfl,rfl,rfl,rfl,rfl,rfl,rfl,by simp[lk]⟩
       rw[hpc];exact .mk _ _ _ (by rw[Qy,List.length_set])
    ·intro hc2
     have hge:ph.length≤k:=by simpa using hc2
     refine Qw ?_
     simp only[go_sem,X.next]
     refine Qv ?_
     simp only[go_sem,l1,l2,l4,l6,l10]
     refine⟨Qq (by omega) (by omega),?_⟩
     show ∃m,_
     have hpe:ph=(Qaj q b).phis.map (nwP q P l i):=by rw[hphe,Qa05 _ _ (by omega)]
     have hst:=hS.step hki (ph:=ph) (pl:=pl) (by rw[hgd,hpe,List.map_map];rfl) (by rw[hgd];exact hpe) (by rw[hkb];exact hgr)
     have hrw:=PkS.rows (ks:=ks) (ph:=ph) (pl:=pl) hki
     have hs2:=Qci (f:=KBlk.pl) (l:=ks.set i ⟨⟨ph,ks[i].y.ins,ks[i].y.jump,ks[i].y.on,ks[i].y.next⟩,ks[i].pc,pl⟩) (i:=i) (by rw[List.length_set];exact hki)
     rw[List.getElem_set_self,List.eraseIdx_set_eq,hR]at hs2
     generalize ks.set i ⟨⟨ph,ks[i].y.ins,ks[i].y.jump,ks[i].y.on,ks[i].y.next⟩,ks[i].pc,pl⟩=ks' at *
     have kn:Kn H0 H4 E ([(x4,X4),(x6,X6),(zb,.vec 5 (ks'.map KBlk.row))]++ks'.flatMap KBlk.pl):=by
      rw[hrw,hRW]
      refine kn.perm (Qm fun f hf h0 hc hp=>?_)
      have:=hp _ _ hs2
      simp only[hf]at this⊢;omega
     exact⟨l.length-(i+1),by omega,i+1,ks',rfl,by omega,hst,kn,rfl,rfl,rfl,rfl,by simp[lk]⟩
  ·intro hc
   have hie:i=l.length:=by have:l.length≤i:=(by simpa using hc);omega
   subst hie
   refine Qw ?_
   simp only[go_sem,X.next]
   have hx4:=kn.l 0 rfl
   have hx6:=kn.l 1 rfl
   rw[hX6]at hx6
   rw[hX4]at hx4
   refine Qa ?_
   simp only[go_sem,l4,l6,hx4,hx6]
   intro H2 h2
   have kn:=kn.stL 0 rfl h2
   refine Qk ?_
   refine hQ _ _ ks hS ?_ (by simp[lk])
   rw[hX6]at kn
   exact kn
set_option maxHeartbeats 8000000 in
theorem Qao3 {q:CodeD}{fl fl2:Bool}{l:List Nat}(ho:q.ok)(hp:Pk q l)
  (hK:∀(d:CodeD) z H',PkR q d→(∃P,Q31 q.blocks.length l P∧d=pkD q P l)→Kn H H' [] [(z,.vec 5 (Qp d.blocks))]→K (.ag [.int .i64 d.params,.int .i64 d.regs,.vsl z 5 0 d.blocks.length]) H') :
  Qo prog Qup [.ag [.int .i64 q.params,.int .i64 q.regs,.sl fl 5 (Qp q.blocks)],.c (.sl fl2 1 (Q9 l))] H K:=by
 have hb1:=ho.b1
 have hln:=hp.n
 have hl0:0<l.length:=by
  have:=hp.z
  cases l with
  |nil=>simp at this
  |cons=>simp
 refine Qcw ?_
 refine Qb Qai Qbdd ?_
 refine Qa ?_
 simp only[go_sem]
 intro x4 hx4 H1 h1
 have kn:=(Kn.start0 H).al hx4 h1
 refine Qa ?_
 simp only[go_sem,Ql]
 try intro _
 refine Qa8l (n:=q.blocks.length) (by omega) (by omega) hp.lt fun P H2 hP hu=>?_
 have kn:=kn.call0 hu
 simp only[go_sem,Q62]
 refine Qa ?_
 simp only[go_sem]
 intro x6 hx6 H3 h3
 have kn:=kn.al hx6 h3
 have hx6:=kn.l 1 rfl
 simp only[go_sem,Q63,hx6]
 intro H4 h4
 have kn:Kn H H4 [] [(x4,.st [.int .i64 0,.int .i64 0,.sl true 5 []]),(x6,.st [.int .i64 q.params,.int .i64 q.regs,.sl true 5 []])]:=kn.stL 1 rfl h4
 refine Q3 ?_
 refine Qa ?_
 simp only[go_sem]
 refine Qh (Qe (Qx (fun m e1 H1=>∃(ks:List KBlk) (bc:C) (bl:List (Nat×Obj)),m=l.length-ks.length∧ks.length≤l.length∧ks.map KBlk.y=(l.take ks.length).map (pkY q P)∧(∀b∈ks,b.ok)∧Gr bl 5 (ks.map KBlk.row) bc∧
  Kn H H1 [] (([(x4,.st [.int .i64 0,.int .i64 0,.sl true 5 []]),(x6,.st [.int .i64 q.params,.int .i64 q.regs,bc])]++ks.flatMap KBlk.pl)++bl)∧
  lk 1 e1=.c (.sl fl2 1 (Q9 l))∧lk 2 e1=.c (.pp [.int .i64 q.params,.int .i64 q.regs,.sl fl 5 (Qp q.blocks)])∧lk 4 e1=.c (.ptr x4 0)∧lk 5 e1=.c (.sl false 1 (Qd P))∧lk 6 e1=.c (.ptr x6 0)∧lk 7 e1=.c (.int .i64 ks.length)) l.length ?_ ?_))
 ·exact⟨[],_,[],by simp,by simp,by simp,by simp,.nil 5,by simpa using kn,rfl,rfl,rfl,rfl,rfl,rfl⟩
 ·clear kn hx6
  rintro m e1 H5 ⟨ks,bc,bl,hm,hkl,hky,hko,hgr,kn,l1,l2,l4,l5,l6,l7⟩
  have hbw:=hgr.isOw
  refine Q3 ?_
  refine Qa ?_
  simp only[go_sem,l1,l2,l4,l5,l6,l7,Qad]
  try intro _
  refine Qh (Qf rfl ?_ ?_)
  ·intro hc
   have hlt:ks.length<l.length:=by simpa using hc
   obtain⟨b,hb⟩:∃b,l[ks.length]=b:=⟨_,rfl⟩
   have hbm:b∈l:=by rw[←hb];exact List.getElem_mem hlt
   have hbn:=hp.lt b hbm
   have hgd:l.getD ks.length 0=b:=by simp[List.getD_eq_getElem?_getD,hlt,hb]
   refine Qi ?_
   try simp only[go_sem]
   refine Qh (Qe ?_)
   refine Qag ?_
   simp only[go_sem,hlt,Qad,Qbl _ _ hlt,hgd,hbn,Ql,Qax _ _ hbn,BlkD.take5,BlkD.allOw,BlkD.len5]
   refine Q0x (ho.sg.bs _ (List.getElem_mem hbn)) fun o H6 k2 hok hod _=>?_
   have kn:=kn.comp0 k2
   rw[←Qa8 hbn]at hod
   have how:=o.noOw hok
   have hpw:=hok.p.isOw
   have hiw:=hok.i.isOw
   simp only[go_sem,Q65]
   intro x8 hx8 H7 h7
   have kn:=(kn.al hx8 h7).perm List.perm_append_comm
   have hx8:=kn.l 0 rfl
   simp only[go_sem,Q64,hx8,o.row_eq,hlt,Qad,Qbl _ _ hlt,hgd,hbn,Ql,Qax _ _ hbn,BlkD.take5,BlkD.allOw,BlkD.len5]
   intro H8 h8
   have kn:Kn H H8 [] ([(o.nx.y,.vec 1 (Qd o.nx.ns))]++([(x8,.st [o.pc,o.ic,.int .i64 o.jump,.int .i64 o.on,.vsl o.nx.y 1 0 o.nx.ns.length])]++(([(x4,.st [.int .i64 0,.int .i64 0,.sl true 5 []]),(x6,.st [.int .i64 q.params,.int .i64 q.regs,bc])]++ks.flatMap KBlk.pl)++bl)++o.rest)):=
    (kn.stL 0 rfl h8).perm (Qm fun f hf h0 hc hp=>by
     show f ([(x8,_)]++(_++_))=_
     simp only[o.lg_eq,hf];omega)
   clear hx8
   have hns:o.nx.ns=(Qaj q b).next:=by rw[←hod];rfl
   have hns2:o.nx.ns.length≤2:=by rw[hns,Qa8 hbn];exact (ho.bs b hbn).nxl
   refine Q3 ?_
   refine Qa ?_
   simp only[go_sem]
   refine Qh (Qe (Qx (fun m e1 H1=>∃(k:Nat) (ns:List Int),m=o.nx.ns.length-k∧k≤o.nx.ns.length∧ns=(o.nx.ns.take k).map (fun v=>P.getD v.toNat 0)++o.nx.ns.drop k∧
    Kn H H1 [] ([(o.nx.y,.vec 1 (Qd ns))]++([(x8,.st [o.pc,o.ic,.int .i64 o.jump,.int .i64 o.on,.vsl o.nx.y 1 0 o.nx.ns.length])]++(([(x4,.st [.int .i64 0,.int .i64 0,.sl true 5 []]),(x6,.st [.int .i64 q.params,.int .i64 q.regs,bc])]++ks.flatMap KBlk.pl)++bl)++o.rest))∧
    lk 1 e1=.c (.sl fl2 1 (Q9 l))∧lk 2 e1=.c (.pp [.int .i64 q.params,.int .i64 q.regs,.sl fl 5 (Qp q.blocks)])∧lk 4 e1=.c (.ptr x4 0)∧lk 5 e1=.c (.sl false 1 (Qd P))∧lk 6 e1=.c (.ptr x6 0)∧lk 7 e1=.c (.int .i64 ks.length)∧lk 8 e1=.c (.ptr x8 0)∧lk 9 e1=.c (.int .i64 k)) o.nx.ns.length ?_ ?_))
   ·exact⟨0,o.nx.ns,by omega,by omega,by simp,kn,rfl,rfl,rfl,rfl,rfl,rfl,rfl,rfl⟩
   ·clear kn
    rintro m2 e2 H9 ⟨k,ns,hm2,hk,hnse,kn,l1,l2,l4,l5,l6,l7,l8,l9⟩
    have hnl:ns.length=o.nx.ns.length:=by rw[hnse];simp;omega
    have hx8:H9 x8=.st [o.pc,o.ic,.int .i64 o.jump,.int .i64 o.on,.vsl o.nx.y 1 0 o.nx.ns.length]:=(kn.get (x8,.st [o.pc,o.ic,.int .i64 o.jump,.int .i64 o.on,.vsl o.nx.y 1 0 o.nx.ns.length]) (by simp)).1
    have hy:=kn.l 0 rfl
    refine Q3 ?_
    refine Qa ?_
    simp only[go_sem,l1,l2,l4,l5,l6,l7,l8,l9,hx8,hpw,hiw,hy,Qc,hnl,Nat.zero_add,Nat.le_refl]
    try intro _
    refine Qh (Qf rfl ?_ ?_)
    ·intro hc2
     have hlt2:k<o.nx.ns.length:=by simpa using hc2
     obtain⟨w,hw⟩:∃w,o.nx.ns[k]=w:=⟨_,rfl⟩
     have hwm:w∈(Qaj q b).next:=by rw[←hns,←hw];exact List.getElem_mem hlt2
     obtain⟨w1,w2,_⟩:=hp.to ho hP hbm hwm
     have hgd2:ns.getD k 0=w:=by
      rw[hnse,List.getD_eq_getElem?_getD,List.getElem?_append_right (by rw[List.length_map,List.length_take];exact Nat.min_le_left _ _)]
      simp[hlt2,hw,Nat.min_eq_left (Nat.le_of_lt hlt2)]
     have hkn:k<ns.length:=by omega
     have htk:(Qd ns).take o.nx.ns.length=Qd ns:=List.take_of_length_le (by rw[Qc];omega)
     have hstep:=Qbil (f:=fun v=>P.getD v.toNat 0) hlt2
     rw[hw]at hstep
     have hwe:w=(w.toNat:Int):=by omega
     refine Qi ?_
     try simp only[go_sem]
     refine Qh (Qe ?_)
     refine Qbt ?_
     generalize hr:w.toNat=r at *
     simp only[go_sem,hx8,hpw,hiw,hy,htk,hlt2,Qc,hnl,Qt _ _ hkn,hgd2,hwe,w2,Qt _ _ w2,Quw,Nat.zero_add,Nat.le_refl]
     intro H10 h10
     have kn:=kn.stL 0 rfl h10
     refine Qv ?_
     simp only[go_sem,l9]
     refine⟨Qq (by omega) (by omega),?_⟩
     show ∃m,_
     exact⟨o.nx.ns.length-(k+1),by omega,k+1,ns.set k (P.getD r 0),rfl,by omega,by rw[hnse];exact hstep,kn,rfl,rfl,rfl,rfl,rfl,rfl,rfl,rfl⟩
    ·intro hc2
     have hge:o.nx.ns.length≤k:=by simpa using hc2
     rw[List.take_of_length_le hge,List.drop_eq_nil_of_le hge,List.append_nil]at hnse
     refine Qw ?_
     simp only[go_sem,X.next]
     obtain⟨o2,ho2⟩:∃o2:OBlk,o2=⟨o.phis,o.pc,o.pl,o.ins,o.ic,o.il,o.jump,o.on,⟨ns,o.nx.y⟩⟩:=⟨_,rfl⟩
     have hok2:o2.ok:=by rw[ho2];exact⟨hok.p,hok.i,hok.a⟩
     have hd2:o2.d=pkY q P b:=by
      rw[ho2,pkY,←hod]
      simp only[OBlk.d,hnse]
     have hpc2:o2.pc=o.pc:=by rw[ho2]
     have kn:Kn H H9 [] ([(x8,.st o2.row)]++((([(x4,.st [.int .i64 0,.int .i64 0,.sl true 5 []]),(x6,.st [.int .i64 q.params,.int .i64 q.regs,bc])]++ks.flatMap KBlk.pl)++bl)++o2.lg)):=by
      have er:o2.row=[o.pc,o.ic,.int .i64 o.jump,.int .i64 o.on,.vsl o.nx.y 1 0 o.nx.ns.length]:=by rw[ho2,OBlk.row_eq,hnl]
      have el:o2.lg=[(o.nx.y,.vec 1 (Qd ns))]++o.rest:=by rw[ho2];rfl
      rw[er,el]
      exact kn.perm (Qm fun f hf h0 hc hp=>by simp only[hf];omega)
     obtain⟨S,H10,pl,hfz,hgp,kn⟩:=OBlk.gh hok2 kn
     rw[hd2,hpc2]at hgp kn
     refine c_gh (Qet S (Qaqb ?_) hfz) (e':=[(1,.c (.sl fl2 1 (Q9 l))),(2,.c (.pp [.int .i64 q.params,.int .i64 q.regs,.sl fl 5 (Qp q.blocks)])),(4,.c (.ptr x4 0)),(5,.c (.sl false 1 (Qd P))),(6,.c (.ptr x6 0)),(7,.c (.int .i64 ks.length)),(8,.c (.ptr x8 0))]) ?_
     ·simp only[List.forall_mem_cons,l1,l2,l4,l5,l6,l7,l8]
      exact⟨.c _ _ (.same _ rfl),.c _ _ (.same _ rfl),.c _ _ (.same _ rfl),.c _ _ (.same _ rfl),.c _ _ (.same _ rfl),.c _ _ (.same _ rfl),.c _ _ (.same _ rfl),by simp⟩
     clear hfz hx8 hy
     have kn:Kn H H10 [] (([(x6,.st [.int .i64 q.params,.int .i64 q.regs,bc])]++([(x8,.st (kRow (pkY q P b) o.pc))]++([(x4,.st [.int .i64 0,.int .i64 0,.sl true 5 []])]++(ks.flatMap KBlk.pl++pl))))++bl):=
      kn.perm (Qm fun f hf h0 hc hp=>by
       have e:∀(a b:Nat×Obj),f [a,b]=f [a]+f [b]:=fun a b=>hc a [b]
       simp only[hf,e];omega)
     have hx6:=kn.l 0 rfl
     have hx8:=kn.l 1 rfl
     obtain⟨kb,hkb⟩:∃kb:KBlk,kb=⟨pkY q P b,o.pc,pl⟩:=⟨_,rfl⟩
     have hkbr:kRow (pkY q P b) o.pc=kb.row:=by rw[hkb];rfl
     have hkbo:kb.ok:=by rw[hkb];exact hgp
     have hkw:=KBlk.noOw hkbo
     rw[hkbr]at hx8 kn
     have hkl5:kb.row.length=5:=rfl
     have hkt5:kb.row.take 5=kb.row:=rfl
     have hka:(kb.row.all fun c=>!c.isOw)=true:=hkw
     refine Qv ?_
     simp only[go_sem,hx6,hx8,hbw,hkl5,hkt5,hka]
     refine kn.growR (new:=[kb.row]) hgr (.mk' _ _ _ _) (by intro r hr;simp only[List.mem_singleton]at hr;rw[hr];exact hkw) (by simp only[List.length_map,LIM,List.length_cons,List.length_nil];omega) fun bc2 bl2 H11 hgr2 hbw2 kn=>?_
     have hx6:=kn.l 0 rfl
     simp only[go_sem,Q66,hx6,hbw2]
     intro H12 h12
     have kn:Kn H H12 [] ((([(x4,.st [.int .i64 0,.int .i64 0,.sl true 5 []]),(x6,.st [.int .i64 q.params,.int .i64 q.regs,bc2])]++(ks++[kb]).flatMap KBlk.pl)++bl2)++[(x8,.st kb.row)]):=
      (kn.stL 0 rfl h12).perm (Qm fun f hf h0 hc hp=>by
       have e:∀(a b:Nat×Obj),f [a,b]=f [a]+f [b]:=fun a b=>hc a [b]
       have ek:kb.pl=pl:=by rw[hkb]
       show f ([(x6,_)]++([(x8,_)]++([(x4,_)]++(ks.flatMap KBlk.pl++pl)))++bl2)=_
       simp only[List.flatMap_append,List.flatMap_cons,List.flatMap_nil,List.append_nil,ek,hf,e];omega)
     refine Qv ?_
     simp only[go_sem]
     refine⟨Qq (by omega) (by omega),?_⟩
     show ∃m,_
     refine⟨l.length-(ks.length+1),by omega,ks++[kb],bc2,bl2,by simp,by simp only[List.length_append,List.length_cons,List.length_nil];omega,?_,fun w hw=>?_,by rw[List.map_append];exact hgr2,kn.drop,rfl,rfl,rfl,rfl,rfl,by simp[lk]⟩
     ·simp only[List.length_append,List.length_cons,List.length_nil,Nat.zero_add]
      rw[List.map_append,hky,List.take_succ_eq_append_getElem hlt,List.map_append,hb,hkb];rfl
     ·rcases List.mem_append.1 hw with hw|hw
      ·exact hko w hw
      ·simp only[List.mem_singleton]at hw;rw[hw];exact hkbo
  ·intro hc
   have hke:ks.length=l.length:=by have:l.length≤ks.length:=(by simpa using hc);omega
   rw[hke,List.take_length]at hky
   obtain⟨zb,rfl,rfl⟩:∃z,bc=.vsl z 5 0 l.length∧bl=[(z,.vec 5 (ks.map KBlk.row))]:=by
    rcases hgr with ⟨_,h,_⟩|⟨y,h1,h2⟩
    ·have:=congrArg List.length h;simp only[List.length_map,List.length_nil]at this;omega
    ·exact⟨y,by rw[h1,List.length_map,hke],h2⟩
   have hS:PkZ q P l 0 ks:=by
    have hg:∀j (h:j<ks.length),ks[j].y=pkY q P (l.getD j 0):=fun j h=>by
     have hj:j<l.length:=by omega
     have h1:(ks.map KBlk.y)[j]? = some ks[j].y:=by simp[h]
     rw[hky]at h1
     simp only[List.getElem?_map,List.getElem?_eq_getElem hj,Option.map_some]at h1
     rw[(hp.get hj).1];exact (Option.some.inj h1).symm
    exact⟨hke,fun j h=>by rw[hg j h];exact⟨rfl,rfl,rfl,rfl,rfl⟩,hko,fun j h h0=>by omega,fun j h _=>by rw[hg j h];rfl⟩
   have kn:Kn H H5 [] ([(x4,.st [.int .i64 0,.int .i64 0,.sl true 5 []]),(x6,.st [.int .i64 q.params,.int .i64 q.regs,.vsl zb 5 0 l.length]),(zb,.vec 5 (ks.map KBlk.row))]++ks.flatMap KBlk.pl):=
    kn.perm (Qm fun f hf h0 hc hp=>by
     have e2:∀(a b:Nat×Obj),f [a,b]=f [a]+f [b]:=fun a b=>hc a [b]
     have e3:∀(a b c:Nat×Obj),f [a,b,c]=f [a]+f [b]+f [c]:=fun a b c=>by rw[hc a [b,c],e2];omega
     simp only[hf,e2,e3];omega)
   clear hky hko hke hgr
   refine Qw ?_
   simp only[go_sem,X.next]
   refine Qa89 (fl:=fl) (fl2:=fl2) ho hp hP hS kn rfl rfl rfl rfl fun e6 H6 ks hS kn l4=>?_
   have hx4:=kn.l 0 rfl
   simp only[go_sem,Q0,Q5,Qavi,List.mem_singleton,forall_eq,RS.op,l4,hx4]
   obtain⟨d,hd⟩:∃d:CodeD,d=⟨q.params,q.regs,ks.map KBlk.y⟩:=⟨_,rfl⟩
   have hdl:d.blocks.length=l.length:=by rw[hd];simpa using hS.n
   have hR:=Qbnv (d:=d) ho hp hP (by rw[hd]) (by rw[hd]) hdl fun j h=>by
    have hj:j<ks.length:=by rw[hS.n];omega
    have e:d.blocks[j]=ks[j].y:=by subst hd;simp
    rw[e]
    refine⟨hS.b j hj,fun p hp2=>?_⟩
    rw[hS.a j hj (by omega)]at hp2
    exact Qbdu ho hp hP (by omega) hp2
   have hde:d=pkD q P l:=by
    rw[hd,pkD]
    congr 1
    refine List.ext_getElem (by simp[hS.n]) fun j h1 h2=>?_
    have hj:j<ks.length:=by simpa using h1
    simp only[List.getElem_map,List.getElem_range]
    have hB:=hS.b j hj
    have hA:=hS.a j hj (by have:=hS.n;omega)
    rw[pkX]
    obtain⟨y,hy⟩:∃y,ks[j].y=y:=⟨_,rfl⟩
    rw[hy]at hB hA⊢
    cases y
    simp only at hA
    obtain⟨e1,e2,e3,e4,_⟩:=hB
    simp only at e1 e2 e3 e4
    rw[hA,e1,e2,e3,e4]
   have kn:Kn H H6 [] ([(zb,.vec 5 (ks.map KBlk.row))]++(([(x4,.st [.int .i64 q.params,.int .i64 q.regs,.vsl zb 5 0 l.length])]++[(x6,.st [.int .i64 q.params,.int .i64 q.regs,.vsl zb 5 0 l.length])])++ks.flatMap KBlk.pl)):=
    kn.perm (Qm fun f hf h0 hc hp=>by
     have e3:∀(a b c:Nat×Obj),f [a,b,c]=f [a]+f [b]+f [c]:=fun a b c=>by rw[hc a [b,c],hc b [c]];omega
     simp only[hf,e3];omega)
   obtain⟨S,hSL,hSB,hfz,kn⟩:=kn.freeze0
   have hz:=hSB (zb,.vec 5 (ks.map KBlk.row)) (by simp)
   have hrows:FrzR H6 S (ks.map KBlk.row) (Qp d.blocks):=by
    rw[hd]
    show FrzR H6 S (ks.map KBlk.row) (Qp (ks.map KBlk.y))
    rw[Qp,List.map_map]
    refine Qut ks fun k hk=>?_
    refine .cons (Gr.frzM (hS.ok k hk) (fun p hp=>hSL p (List.mem_append_right _ (List.mem_flatMap.2 ⟨k,hk,hp⟩))) (FrzR.same (Qmr _))) (.cons (Qg rfl) (.cons (Qg rfl) (.cons (Qg rfl) (.cons (Qg rfl) .nil))))
   have hno:∀r∈ks.map KBlk.row,Go.AE.noOw r=true:=fun r hr=>by
    obtain⟨k,hk,rfl⟩:=List.mem_map.1 hr
    exact KBlk.noOw (hS.ok k hk)
   refine⟨S,.ag [.int .i64 q.params,.int .i64 q.regs,.vsl zb 5 0 l.length],_,FrzL.ag (.cons (Qg rfl) (.cons (Qg rfl) (.cons (.same _ rfl) .nil))),hfz.set (o:=.vec 5 (Qp d.blocks)) hz.2 (by rw[hz.1];exact .vecR hrows hno),?_⟩
   have:=hK d zb _ hR ⟨P,hP,hde⟩ (kn.setL (o':=.vec 5 (Qp d.blocks)) 0 rfl (by simp))
   rw[hdl,hR.p,hR.r]at this
   exact this
end Go.AE.Y

namespace Go.AE.Y
variable {g g':Nat→List Nat}{xs:List Nat}{S S' S'':List Bool}{o o' o'':List Nat}
theorem Dfs.det (h:Dfs g xs S o S' o'):∀{S'':List Bool} {o'':List Nat},Dfs g xs S o S'' o''→S''=S'∧o''=o':=by
 induction h with
 |nil S o=>intro S'' o'' h;cases h;exact⟨rfl,rfl⟩
 |skip h1 h2 ih=>
  intro S'' o'' h
  cases h with
  |skip k1 k2=>exact ih k2
  |go k1 k2 k3=>rw[h1]at k1;simp at k1
 |go h1 h2 h3 ih1 ih2=>
  intro S'' o'' h
  cases h with
  |skip k1 k2=>rw[h1]at k1;simp at k1
  |go k1 k2 k3=>
   obtain⟨e1,e2⟩:=ih1 k2
   subst e1;subst e2
   exact ih2 k3
def SAg (l:List Nat)(S T:List Bool):Prop:=∀x∈l,T.getD (l.idxOf x) false=S.getD x false
theorem Qbck {l:List Nat}{x y:Nat}(hx:x∈l)(hy:y∈l)(h:l.idxOf x=l.idxOf y):x=y:=by
 have h1:=List.getElem_idxOf (List.idxOf_lt_length_of_mem hx)
 have h2:=List.getElem_idxOf (List.idxOf_lt_length_of_mem hy)
 rw[←h1,←h2]
 simp only[h]
theorem Dfs.ren {l:List Nat}(hg:∀x∈l,g' (l.idxOf x)=(g x).map l.idxOf)(hc:∀x∈l,∀y∈g x,y∈l)(h:Dfs g xs S o S' o') :
  (∀x∈xs,x∈l)→(∀x∈l,x<S.length)→∀T:List Bool,T.length=l.length→SAg l S T→
  ∃T',Dfs g' (xs.map l.idxOf) T (o.map l.idxOf) T' (o'.map l.idxOf)∧T'.length=l.length∧SAg l S' T':=by
 induction h with
 |nil S o=>exact fun _ _ T hT hA=>⟨T,.nil _ _,hT,hA⟩
 |skip h1 h2 ih=>
  intro hx hl T hT hA
  obtain⟨T',d,e1,e2⟩:=ih (fun x h=>hx x (List.mem_cons_of_mem _ h)) hl T hT hA
  exact⟨T',.skip (by rw[hA _ (hx _ List.mem_cons_self)];exact h1) d,e1,e2⟩
 |@go x xs S S1 S' o o1 o' h1 h2 h3 ih1 ih2=>
  intro hx hl T hT hA
  have hxl:=hx x List.mem_cons_self
  have hxi:=List.idxOf_lt_length_of_mem hxl
  obtain⟨T1,d1,e1,a1⟩:=ih1 (hc x hxl) (fun y hy=>by rw[List.length_set];exact hl y hy) (T.set (l.idxOf x) true) (by rw[List.length_set];exact hT) (fun y hy=>by
   rw[Qg6,Qg6]
   by_cases e:y=x
   ·subst e
    rw[if_pos ⟨rfl,by omega⟩,if_pos ⟨rfl,hl y hy⟩]
   ·rw[if_neg (fun h=>e (Qbck hy hxl h.1)),if_neg (fun h=>e h.1)]
    exact hA y hy)
  have hS1:=h2.len
  rw[List.length_set]at hS1
  obtain⟨T',d2,e2,a2⟩:=ih2 (fun y h=>hx y (List.mem_cons_of_mem _ h)) (fun y hy=>by rw[hS1];exact hl y hy) T1 e1 a1
  refine⟨T',.go (o1:=o1.map l.idxOf) (S1:=T1) (by rw[hA x hxl];exact h1) ?_ ?_,e2,a2⟩
  ·rw[hg x hxl];exact d1
  ·rw[List.map_append]at d2;exact d2
theorem Dfs.nodup (h:Dfs g xs S o S' o'):(∀x,x<S.length→∀y∈g x,y<S.length)→(∀x∈xs,x<S.length)→(∀y∈o,S.getD y false=true)→o.Nodup→o'.Nodup:=by
 induction h with
 |nil S o=>exact fun _ _ _ h=>h
 |skip h1 h2 ih=>exact fun hg hx ho hn=>ih hg (fun y hy=>hx y (List.mem_cons_of_mem _ hy)) ho hn
 |@go x xs S S1 S' o o1 o' h1 h2 h3 ih1 ih2=>
  intro hg hx ho hn
  have hxl:=hx x List.mem_cons_self
  have hS1:=h2.len
  rw[List.length_set]at hS1
  have hg1:∀z,z<(S.set x true).length→∀y∈g z,y<(S.set x true).length:=by rw[List.length_set];exact hg
  have hx1:∀y∈g x,y<(S.set x true).length:=by rw[List.length_set];exact hg x hxl
  have ho1:∀y∈o,(S.set x true).getD y false=true:=fun y hy=>by
   rw[Qg6];split
   ·rfl
   ·exact ho y hy
  have hn1:=ih1 hg1 hx1 ho1 hn
  obtain⟨t,e,a1,a2,a3,a4⟩:=h2.adds hg1 hx1
  have hxo:x∉o1:=fun hm=>by
   rw[e]at hm
   rcases List.mem_append.1 hm with hm|hm
   ·have:=ho x hm;rw[h1]at this;simp at this
   ·obtain⟨z,_,hr⟩:=a4 x hm
    refine hr.snd ?_
    rw[Qg6,if_pos ⟨rfl,hxl⟩]
  refine ih2 (by rw[hS1];exact hg) (fun y hy=>by rw[hS1];exact hx y (List.mem_cons_of_mem _ hy)) (fun y hy=>?_) ?_
  ·rcases List.mem_append.1 hy with hy|hy
   ·rw[e]at hy
    rw[a1]
    rcases List.mem_append.1 hy with hy|hy
    ·exact .inl (ho1 y hy)
    ·exact .inr hy
   ·rw[List.mem_singleton]at hy;subst hy
    refine h2.mono y ?_
    rw[Qg6,if_pos ⟨rfl,hxl⟩]
  ·rw[List.nodup_append]
   refine⟨hn1,by simp,fun a ha b hb he=>?_⟩
   rw[List.mem_singleton]at hb
   subst hb;subst he
   exact hxo ha
theorem Dfs.ex {n:Nat}(hg:∀x,x<n→∀y∈g x,y<n):∀(u:Nat) (xs:List Nat) (S:List Bool) (o:List Nat),S.length=n→n-cnt S≤u→(∀x∈xs,x<n)→∃S' o',Dfs g xs S o S' o'
 |u,[],S,o,_,_,_=>⟨S,o,.nil _ _⟩
 |u,x::xs,S,o,hS,hu,hx=>by
  cases hs:S.getD x false with
  |true=>
   obtain⟨S',o',h⟩:=Dfs.ex hg u xs S o hS hu fun y hy=>hx y (List.mem_cons_of_mem _ hy)
   exact⟨S',o',.skip hs h⟩
  |false=>
   have hxn:=hx x List.mem_cons_self
   have h1:=Qym (S:=S) (x:=x) (by omega) hs
   have h2:=Q0i (S.set x true)
   rw[List.length_set]at h2
   cases u with
   |zero=>omega
   |succ u=>
    obtain⟨S1,o1,d1⟩:=Dfs.ex hg u (g x) (S.set x true) o (by rw[List.length_set];exact hS) (by omega) (hg x hxn)
    have hl:=d1.len
    rw[List.length_set]at hl
    have h3:=d1.count (by rw[List.length_set,hS];exact hg) (by rw[List.length_set,hS];exact hg x hxn)
    have h4:=d1.olen
    obtain⟨S',o',d2⟩:=Dfs.ex hg u xs S1 (o1++[x]) (by omega) (by omega) fun y hy=>hx y (List.mem_cons_of_mem _ hy)
    exact⟨S',o',.go hs d1 d2⟩
theorem Dfs.root {x:Nat}(h:Dfs g [x] S [] S' o')(hx:S.getD x false=false):∃o1,o'=o1++[x]:=by
 cases h with
 |skip h1 _=>rw[hx]at h1;simp at h1
 |go h1 h2 h3=>cases h3;exact⟨_,rfl⟩
theorem Qbge {f:Nat→Nat}:∀{l r:List Nat},l.Nodup→(∀x∈l,x∈r)→(l.map f).sum≤(r.map f).sum
 |[],_,_,_=>by simp
 |x::l,r,hn,h=>by
  have hx:=h x List.mem_cons_self
  have hp:=List.perm_cons_erase hx
  have e:=((hp.map f).sum_nat)
  rw[e,List.map_cons,List.sum_cons,List.map_cons,List.sum_cons]
  have hn2:=List.nodup_cons.1 hn
  have:=Qbge (f:=f) hn2.2 (r:=r.erase x) fun y hy=>by
   have hyx:y≠x:=fun e=>hn2.1 (e▸hy)
   exact (List.mem_erase_of_ne hyx).2 (h y (List.mem_cons_of_mem _ hy))
  omega
end Go.AE.Y

namespace Go.AE.Y
attribute [local instance] Classical.propDecidable
variable {q:CodeD}{P P':List Int}{l:List Nat}
def plcs (n:Nat)(l:List Nat):List Int:=(List.range n).map fun x=>((l.idxOf x:Nat):Int)
theorem Qbea {n x:Nat}(h:x<n):(plcs n l).getD x 0=((l.idxOf x:Nat):Int):=by
 simp[plcs,List.getD_eq_getElem?_getD,h]
theorem Qms {n:Nat}(hl:∀x∈l,x<n):Q31 n l (plcs n l):=⟨by simp[plcs],fun x hx=>
 ⟨l.idxOf x,List.idxOf_lt_length_of_mem hx,List.getElem_idxOf _,Qbea (hl x hx)⟩⟩
def pkE (q:CodeD)(l:List Nat):CodeD:=pkD q (plcs q.blocks.length l) l
theorem Qbmb {n:Nat}(hn:l.Nodup)(hP:Q31 n l P){x:Nat}(hx:x∈l):P.getD x 0=((l.idxOf x:Nat):Int):=by
 obtain⟨i,hi,h1,h2⟩:=hP.2 x hx
 rw[h2,←h1,List.Nodup.idxOf_getElem hn i hi]
theorem Qyz (ho:q.ok)(hp:Pk q l)(hn:l.Nodup)(hP:Q31 q.blocks.length l P){b:Nat}(hb:b∈l):(pkY q P b).next=(Qaj q b).next.map fun v=>((l.idxOf v.toNat:Nat):Int):=by
 rw[pkY]
 refine List.map_congr_left fun v hv=>?_
 exact Qbmb hn hP (hp.cl b hb v (by rw[Qaue (hp.lt b hb)];exact hv))
theorem Qbma (ho:q.ok)(hp:Pk q l)(hn:l.Nodup)(hP:Q31 q.blocks.length l P)(hP':Q31 q.blocks.length l P'):pkN q P l=pkN q P' l:=by
 funext i
 by_cases hi:i<l.length
 ·rw[Q1a hi,Q1a hi,Qyz ho hp hn hP (List.getElem_mem hi),Qyz ho hp hn hP' (List.getElem_mem hi)]
 ·simp[pkN,List.getD_eq_getElem?_getD,List.getElem?_eq_none (Nat.le_of_not_lt hi)]
theorem Qbkb (ho:q.ok)(hp:Pk q l)(hn:l.Nodup)(hP:Q31 q.blocks.length l P):pkD q P l=pkE q l:=by
 have hP':=Qms hp.lt
 rw[pkE,pkD,pkD]
 congr 1
 refine List.map_congr_left fun i hi=>?_
 have hi:=List.mem_range.1 hi
 have hm:=List.getElem_mem hi
 rw[pkX,pkX,(hp.get hi).1,Qyz ho hp hn hP hm,Qyz ho hp hn hP' hm]
 have:nwP q P l i=nwP q (plcs q.blocks.length l) l i:=by
  funext p
  rw[nwP,nwP,nwA,nwA,Qbma ho hp hn hP hP']
 rw[this]
theorem Qdf (q:CodeD)(l:List Nat):(pkE q l).blocks.length=l.length:=by simp[pkE,pkD]
theorem Q58 {i:Nat}(h:i<(pkE q l).blocks.length):(pkE q l).blocks[i]=pkX q (plcs q.blocks.length l) l i:=by simp[pkE,pkD]
theorem Qbcj (hp:Pk q l):gnx (pkE q l)=pkN q (plcs q.blocks.length l) l:=by
 funext i
 by_cases hi:i<l.length
 ·rw[Qwo (by rw[Qdf];exact hi),Q1a hi,Q58,pkX,(hp.get hi).1]
 ·rw[Qbci (by rw[Qdf];omega)]
  simp[pkN,List.getD_eq_getElem?_getD,List.getElem?_eq_none (Nat.le_of_not_lt hi)]
theorem Qbo0 (ho:q.ok)(hp:Pk q l):PkR q (pkE q l):=Qbnv ho hp (Qms hp.lt) rfl rfl (Qdf q l) fun j h=>by
 have hj:j<l.length:=by rw[Qdf]at h;exact h
 rw[Q58]
 refine⟨⟨rfl,rfl,rfl,rfl,?_⟩,fun p hp2=>Qbdu ho hp (Qms hp.lt) hj hp2⟩
 rw[pkX,List.map_map];rfl
theorem Qbkc (ho:q.ok)(hp:Pk q l):(pkE q l).ok:=(Qbo0 ho hp).ok
theorem Qa7a (ho:q.ok)(hp:Pk q l)(hn:l.Nodup){x:Nat}(hx:x∈l):nxN (gnx (pkE q l)) (l.idxOf x)=(nxN (gnx q) x).map l.idxOf:=by
 have hi:=List.idxOf_lt_length_of_mem hx
 rw[nxN,Qbcj hp,Q1a hi,List.getElem_idxOf hi,Qyz ho hp hn (Qms hp.lt) hx,nxN,Qaue (hp.lt x hx),List.map_map,List.map_map]
 exact List.map_congr_left fun v _=>by simp
theorem Qbnu (hp:Pk q l):∀x∈l,∀y∈nxN (gnx q) x,y∈l:=fun x hx y hy=>by
 obtain⟨v,hv,rfl⟩:=List.mem_map.1 hy
 exact hp.cl x hx v hv
theorem Qbd9 (hp:Pk q l):0∈l∧l.idxOf 0=0:=by
 have hz:=hp.z
 cases l with
 |nil=>simp at hz
 |cons a l=>simp only[List.getElem?_cons_zero,Option.some.injEq]at hz;subst hz;simp
theorem Qbl8 (ho:q.ok)(hp:Pk q l)(hn:l.Nodup){S:List Bool}{o:List Nat}(hd:Dfs (nxN (gnx q)) [0] (List.replicate q.blocks.length false) [] S o) :
  ∃S',Dfs (nxN (gnx (pkE q l))) [0] (List.replicate (pkE q l).blocks.length false) [] S' (o.map l.idxOf):=by
 obtain⟨z1,z2⟩:=Qbd9 hp
 obtain⟨T',d,_,_⟩:=hd.ren (g':=nxN (gnx (pkE q l))) (fun x hx=>Qa7a ho hp hn hx) (Qbnu hp) (fun x hx=>by rw[List.mem_singleton]at hx;rw[hx];exact z1)
  (fun x hx=>by rw[List.length_replicate];exact hp.lt x hx) (List.replicate l.length false) (by simp) (fun x hx=>by rw[Q8,Q8])
 rw[Qdf]
 simp only[List.map_cons,List.map_nil,z2]at d
 exact⟨T',d⟩
theorem Qbd4 (ho:q.ok):pkE q (List.range q.blocks.length)=q:=by
 have hid:∀x,x<q.blocks.length→(List.range q.blocks.length).idxOf x=x:=fun x hx=>by
  have:=List.Nodup.idxOf_getElem (List.nodup_range (n:=q.blocks.length)) x (by simpa using hx)
  simpa using this
 have hp:Pk q (List.range q.blocks.length):=by
  have h0:=ho.b0
  have h1:=ho.b1
  refine⟨by simpa using h1,?_,fun x hx=>List.mem_range.1 hx,fun x hx v hv=>?_⟩
  ·rw[List.getElem?_range h0]
  ·have hx:=List.mem_range.1 hx
   rw[Qwo hx]at hv
   have:=(ho.bs x hx).nx v hv
   exact List.mem_range.2 (by omega)
 have hnd:(List.range q.blocks.length).Nodup:=List.nodup_range
 have hnx:∀b,b<q.blocks.length→(pkY q (plcs q.blocks.length (List.range q.blocks.length)) b).next=gnx q b:=fun b hb=>by
  rw[Qyz ho hp hnd (Qms hp.lt) (List.mem_range.2 hb),Qaue hb]
  refine (List.map_congr_left (g:=id) fun v hv=>?_).trans (List.map_id _)
  rw[Qa8 hb]at hv
  have:=(ho.bs b hb).nx v hv
  rw[hid _ (by omega)]
  show ((v.toNat:Nat):Int)=v
  omega
 have hg:pkN q (plcs q.blocks.length (List.range q.blocks.length)) (List.range q.blocks.length)=gnx q:=by
  funext i
  by_cases hi:i<q.blocks.length
  ·rw[Q1a (by simpa using hi),List.getElem_range,hnx i hi]
  ·rw[Qbci (by omega)]
   simp[pkN,List.getD_eq_getElem?_getD,List.getElem?_eq_none (show (List.range q.blocks.length).length≤i by simp;omega)]
 have hblk:(pkE q (List.range q.blocks.length)).blocks=q.blocks:=by
  refine List.ext_getElem (by rw[Qdf];simp) fun b h1 h2=>?_
  have hgd:(List.range q.blocks.length).getD b 0=b:=by simp[List.getD_eq_getElem?_getD,h2]
  rw[Q58,pkX,hgd,hnx b h2,Qa8 h2,Qwo h2]
  have:(q.blocks[b]).phis.map (nwP q (plcs q.blocks.length (List.range q.blocks.length)) (List.range q.blocks.length) b)=q.blocks[b].phis:=by
   refine (List.map_congr_left (g:=id) fun p hpm=>?_).trans (List.map_id _)
   rw[nwP,nwA,hg,hgd]
   have e1:(Q1 (gnx q) (b:Int) (List.range q.blocks.length).length).map (fun w=>p.args.getD ((Q1 (gnx q) (b:Int) q.blocks.length).idxOf (((List.range q.blocks.length).getD w.toNat 0:Nat):Int)) 0)=p.args:=by
    rw[List.length_range]
    refine Eq.trans (List.map_congr_left fun w hw=>?_) (Qbl0 (Qabp _ _ _) ((ho.bs b h2).pal p hpm))
    obtain⟨j,hj,_,rfl⟩:=preds_mem.1 hw
    simp[List.getD_eq_getElem?_getD,hj]
   rw[e1];rfl
  rw[this]
 cases q;simp only[pkE,pkD]at hblk⊢;rw[hblk]
theorem Qbd5 (hp:Pk q l)(hn:l.Nodup):Qma (pkE q l)≤Qma q:=by
 have h1:Qma (pkE q l)=(l.map fun b=>Qwm (Qaj q b)).sum:=by
  rw[Qma,Qfc]
  congr 1
  refine List.ext_getElem (by rw[List.length_map,Qdf,List.length_map]) fun i h1 h2=>?_
  have hi:i<l.length:=by simpa using h2
  rw[List.getElem_map,List.getElem_map,Q58,pkX,(hp.get hi).1]
  simp only[Qwm,List.length_map]
 have h2:Qma q=((List.range q.blocks.length).map fun b=>Qwm (Qaj q b)).sum:=by
  rw[Qma,Qfc]
  congr 1
  refine List.ext_getElem (by simp) fun i h1 h2=>?_
  have hi:i<q.blocks.length:=by simpa using h1
  rw[List.getElem_map,List.getElem_map,List.getElem_range,Qa8 hi]
 rw[h1,h2]
 exact Qbge hn fun x hx=>List.mem_range.2 (hp.lt x hx)
theorem Qbd8 {cs:List CodeD}{lf:CodeD→List Nat}(hg:Qa0 cs=true)(hl:∀c∈cs,Pk c (lf c)∧(lf c).Nodup):Qa0 (cs.map fun c=>pkE c (lf c))=true:=by
 obtain⟨h1,h2,h3⟩:=of_decide_eq_true hg
 obtain⟨ds,hds⟩:∃ds,(cs.map fun c=>pkE c (lf c))=ds:=⟨_,rfl⟩
 have hdl:ds.length=cs.length:=by rw[←hds,List.length_map]
 have hat:∀k (h:k<ds.length) (h':k<cs.length),ds[k]=pkE cs[k] (lf cs[k]):=fun k h h'=>by subst hds;rw[List.getElem_map]
 rw[hds]
 have hr:∀k,rgOf ds k=rgOf cs k:=fun k=>by
  by_cases hk:k<cs.length
  ·rw[Qra hk,Qra (by omega),hat k (by omega) hk];rfl
  ·simp[rgOf,List.getElem?_eq_none (show cs.length≤k by omega),List.getElem?_eq_none (show ds.length≤k by omega)]
 have hpm:∀k,pmOf ds k=pmOf cs k:=fun k=>by
  by_cases hk:k<cs.length
  ·rw[Qy0 hk,Qy0 (by omega),hat k (by omega) hk];rfl
  ·simp[pmOf,List.getElem?_eq_none (show cs.length≤k by omega),List.getElem?_eq_none (show ds.length≤k by omega)]
 refine decide_eq_true ⟨by omega,fun k hk=>?_,?_⟩
 ·have hc:k<cs.length:=by omega
  have ho:=Qdh hg hc
  obtain⟨g1,g2⟩:=h2 k hc
  obtain⟨hp,hn⟩:=hl _ (List.getElem_mem hc)
  have e:=hat k hk hc
  obtain⟨q,hq⟩:∃q,cs[k]=q:=⟨_,rfl⟩
  obtain⟨l,hll⟩:∃l,lf q=l:=⟨_,rfl⟩
  have hreg:cs[k].regs=q.regs:=by rw[hq]
  rw[hq]at ho g1 hp hn e
  rw[hll]at hp hn e
  have hb2:∀(b:Nat) (h:b<q.blocks.length),Q8r cs k b q q.blocks[b]=true:=fun b h=>by subst hq;exact g2 b h
  have hrgk:rgOf cs k=q.regs:=by rw[Qra hc,hq]
  have hpn:=hp.n
  have hl0:0<l.length:=by
   have:=hp.z
   cases l with
   |nil=>simp at this
   |cons=>simp
  refine⟨?_,fun j hj=>?_⟩
  ·have:(ds[k]).blocks.length=l.length:=by rw[e,Qdf]
   have hpa:(ds[k]).params=q.params:=by rw[e];rfl
   have hre:(ds[k]).regs=q.regs:=by rw[e];rfl
   simp only[Qu4,Bool.and_eq_true,decide_eq_true_eq,this,hpa,hre]at g1⊢
   refine⟨g1.1,by omega⟩
  ·have hbe:∀(d:CodeD) (he:ds[k]=d) (hj':j<d.blocks.length),Q8r ds k j ds[k] (ds[k].blocks[j])=Q8r ds k j d d.blocks[j]:=fun d he hj'=>by subst he;rfl
   have hj':j<(pkE q l).blocks.length:=by rw[←e];exact hj
   rw[hbe _ e hj',Q58]
   have hjl:j<l.length:=by rw[Qdf]at hj';exact hj'
   obtain⟨e1,e2,e3⟩:=hp.get hjl
   have hG:=hb2 _ e3
   rw[←Qa8 e3]at hG
   simp only[Q8r,Bool.and_eq_true,List.all_eq_true]at hG⊢
   obtain⟨⟨⟨gj,gn⟩,gi⟩,gp⟩:=hG
   have hgx:(fun i=>((pkE q l).blocks.map BlkD.next).getD i [])=pkN q (plcs q.blocks.length l) l:=Qbcj hp
   refine⟨⟨⟨?_,fun v hv=>?_⟩,fun x hx=>?_⟩,fun p hp2=>?_⟩
   ·have hx:(pkX q (plcs q.blocks.length l) l j).next.length=(Qaj q l[j]).next.length:=by rw[pkX,e1,pkY,List.length_map]
    have hx2:(pkX q (plcs q.blocks.length l) l j).jump=(Qaj q l[j]).jump:=by rw[pkX,e1]
    have hx3:(pkX q (plcs q.blocks.length l) l j).on=(Qaj q l[j]).on:=by rw[pkX,e1]
    have hx4:(pkE q l).regs=q.regs:=rfl
    simpa only[Qo8,hx,hx2,hx3,hx4]using gj
   ·rw[pkX,e1]at hv
    obtain⟨w,hw,rfl⟩:=List.mem_map.1 hv
    obtain⟨_,_,i,hi,_,h6,h7⟩:=hp.to ho (Qms hp.lt) e2 hw
    simp only[Q4o,decide_eq_true_eq,Ql,Qdf]
    rw[h6];omega
   ·rw[pkX,e1]at hx
    have:=gi x hx
    simp only[insG,insL,hr,hpm]at this⊢
    exact this
   ·have hA:=Qbdu ho hp (Qms hp.lt) hjl (by rw[pkX]at hp2;exact hp2)
    rw[pkX,e1]at hp2
    obtain⟨p0,h0,he⟩:=List.mem_map.1 hp2
    have h00:=gp p0 h0
    have hto:p.to=p0.to:=by rw[←he];rfl
    have hx4:(pkE q l).regs=q.regs:=rfl
    simp only[phiG,Bool.and_eq_true,Bool.not_eq_true',decide_eq_true_eq,decide_eq_false_iff_not]at h00⊢
    obtain⟨⟨⟨f1,_⟩,_⟩,f4⟩:=h00
    refine⟨⟨⟨fun h0=>?_,?_⟩,?_⟩,?_⟩
    ·have hz:=hp.z
     subst h0
     rw[List.getElem?_eq_getElem hjl]at hz
     exact f1 (Option.some.inj hz)
    ·rw[hgx,Ql,Qdf,hA.1]
    ·rw[hx4]
     have:=hA.2
     simp only[Qpc,List.all_eq_true,decide_eq_true_eq]
     intro v hv
     have:=this v hv
     simp only[rIn]at this
     omega
    ·rw[hx4,hto];exact f4
 ·have key:∀m,m≤cs.length→Qfc Qma (ds.take m)≤Qfc Qma (cs.take m):=fun m=>by
   induction m with
   |zero=>intro _;simp[Qfc]
   |succ m ih=>
    intro hm
    have i1:=ih (by omega)
    have hc:m<cs.length:=by omega
    have hd:m<ds.length:=by omega
    rw[Qbs hc,Qbs hd]
    obtain⟨hp,hn⟩:=hl _ (List.getElem_mem hc)
    have:=Qbd5 hp hn
    rw[hat m hd hc]
    omega
  have:=key _ (Nat.le_refl _)
  have e1:ds.take cs.length=ds:=by rw[←hdl,List.take_length]
  rw[e1,List.take_length]at this
  omega
end Go.AE.Y

namespace Go.AE.Y
open Go.Proofs.Tryz
def Qek:List Item:=[mJ 5 19]
def Qel:List Item:=fI 18 (.bsl 1 [.t 17])::xJ 19 1 14 18::Qek
def Qrv:SC:=.reg (mJ 14 5::mJ 15 1::mJ 16 7::eI 17 (.callv (.t 15) [.t 16])::Qel) [1,5,8,9,10]
def Qrw:SC:=.reg [cJ 20 .add 10 1,mJ 10 20] [1,5,8,9,10]
def Qrx:SC:=.seq (.block 1 (sR [iJ 12 1 8 10,lJ 13 12,mJ 7 13] [1,5,7,8,9,10] Qrv)) Qrw
def Qpf:SC:=sR [bJ 11 .lss 10 9] [1,5,8,9,10,11] (cX 11 0 Qrx)
def Qry:SC:=sR [mJ 21 5,mJ 4 21] [4] .ret
def Qrz:SC:=.seq (sR [mJ 8 0,nJ 9 8,zJ 10 0] [1,5,8,9,10] (bL 0 Qpf)) Qry
def Qr0:SC:=sR [fI 5 (.mv (.k (.c (.sl true 1 []))))] [0,1,5] Qrz
def Qzf:SC:=sR [fI 4 (.mv (.k (.c (.sl true 1 []))))] [0,1] Qr0
def Qh5:List RS:=[.tmp 4]
theorem Qyw:mFn prog Qcs 2 22 Qzf Qh5=true:=by kernel_rfl
def Qxh:List Item:=[mJ 3 15]
def Qxi:List Item:=[mJ 4 21,sJ 5 5 23]
def Qxj:List Item:=[mJ 6 26]
def Qxk:List Item:=[sJ 2 8 33]
def Qxl:List Item:=[mJ 9 34]
def Qarl:SC:=.reg [mJ 42 9,mJ 43 11,fJ 44 1 8,lJ 45 44,mJ 46 10,iJ 47 1 45 46,lJ 48 47,.e none none (.upd 0 (.t 42) (.t 43) (.t 48))] [1,3,4,6,8,9,17,18,19,28,29,30,35,36,37]
def Qarm:SC:=.reg [cJ 49 .add 37 1,mJ 37 49] [1,3,4,6,8,9,17,18,19,28,29,30,35,36,37]
def Qarn:SC:=.seq (.block 5 (sR [mJ 39 37,iJ 40 1 35 37,lJ 41 40,mJ 10 39,mJ 11 41] [1,3,4,6,8,9,10,11,17,18,19,28,29,30,35,36,37] Qarl)) Qarm
def Qalw:SC:=sR [bJ 38 .lss 37 36] [1,3,4,6,8,9,17,18,19,28,29,30,35,36,37,38] (cX 38 4 Qarn)
def Qxm:List Item:=[iJ 59 1 50 51,sJ 1 59 58]
def Qalk:SC:=.reg (mJ 50 3::mJ 51 4::mJ 52 3::mJ 53 4::iJ 54 1 52 53::lJ 55 54::mJ 56 9::fI 57 (.bsl 1 [.t 56])::xJ 58 1 55 57::Qxm) [1,3,4,6,17,18,19,28,29,30]
def Qall:SC:=.seq (sR [mJ 35 6,nJ 36 35,zJ 37 0] [1,3,4,6,8,9,17,18,19,28,29,30,35,36,37] (bL 4 Qalw)) Qalk
def Qalm:SC:=sR (eI 34 (.mkm)::Qxl) [1,3,4,6,8,9,17,18,19,28,29,30] Qall
def Qaln:SC:=.reg [cJ 60 .add 30 1,mJ 30 60] [1,3,4,6,17,18,19,28,29,30]
def Qalo:SC:=.seq (.block 3 (sR (iJ 32 2 28 30::tJ 33 2 32::eI 8 (.alloc [.int .i64 0,.sl true 1 []])::Qxk) [1,3,4,6,8,17,18,19,28,29,30] Qalm)) Qaln
def Qaeg:SC:=sR [bJ 31 .lss 30 29] [1,3,4,6,17,18,19,28,29,30,31] (cX 31 2 Qalo)
def Qalp:SC:=sR [fJ 27 0 5,lJ 28 27,nJ 29 28,zJ 30 0] [1,3,4,6,17,18,19,28,29,30] (bL 2 Qaeg)
def Qalq:SC:=sR (tJ 24 3 1::mJ 25 4::aJ 26 Qdw [.t 24,.t 25]::Qxj) [1,3,4,5,6,17,18,19] Qalp
def Qalr:SC:=.reg [cJ 61 .add 19 1,mJ 19 61] [1,3,17,18,19]
def Qals:SC:=.seq (.block 1 (sR (mJ 21 19::iJ 22 5 17 19::tJ 23 5 22::eI 5 (.alloc [.sl true 2 [],.sl true 4 [],.int .i64 0,.int .i64 0,.sl true 1 []])::Qxi) [1,3,4,5,17,18,19] Qalq)) Qalr
def Qaeh:SC:=sR [bJ 20 .lss 19 18] [1,3,17,18,19,20] (cX 20 0 Qals)
def Qalt:SC:=sR [mJ 62 3,mJ 2 62] [2] .ret
def Qalu:SC:=.seq (sR [fJ 16 2 1,lJ 17 16,nJ 18 17,zJ 19 0] [1,3,17,18,19] (bL 0 Qaeh)) Qalt
def Qalv:SC:=sR (fJ 12 2 1::lJ 13 12::nJ 14 13::eI 15 (.mks 1 [.sl true 1 []] (.t 14))::Qxh) [1,3] Qalu
def Qa1m:SC:=sR [vJ 1 0,fI 2 (.mv (.k (.c (.sl true 1 []))))] [1] Qalv
def Qac4:List RS:=[.tmp 2]
theorem Qa0r:mFn prog Qqo 1 63 Qa1m Qac4=true:=by kernel_rfl
def Qxx:List Item:=[mJ 5 20]
def Qxy:List Item:=[mJ 6 28,sJ 1 7 30]
def Qxz:List Item:=[hJ 34 33,.chk 36 none (.iad 5 (.t 34) (.t 35)),hJ 38 37,iJ 43 2 38 39,fJ 44 1 43,sJ 1 44 42]
def Qars:SC:=.dreg 15 [0,1,2,3,4,5,6,7,8,9,10,11,3,5,7,12,13,14] ( mJ 31 0::kJ 32 31::fJ 33 2 32::lJ 34 33::mJ 35 4::iJ 36 5 34 35::fJ 37 0 36::lJ 38 37::mJ 39 6::mJ 40 5::fI 41 (.mkf Qcc [.t 7])::aJ 42 Qcs [.t 40,.t 41]::Qxz) [0,1,4,5,12,13,24,25,26]
def Qart:SC:=.reg [cJ 45 .add 26 1,mJ 26 45] [0,1,4,5,12,13,24,25,26]
def Qaru:SC:=.seq (.block 3 (sR (mJ 28 26::iJ 29 1 24 26::lJ 30 29::eI 7 (.alloc [.mnil])::Qxy) [0,1,4,5,6,7,12,13,24,25,26] Qars)) Qart
def Qamp:SC:=sR [bJ 27 .lss 26 25] [0,1,4,5,12,13,24,25,26,27] (cX 27 2 Qaru)
def Qarv:SC:=sR [mJ 21 1,mJ 22 4,iJ 23 1 21 22,lJ 24 23,nJ 25 24,zJ 26 0] [0,1,4,5,12,13,24,25,26] (bL 2 Qamp)
def Qarw:SC:=sR (mJ 16 0::kJ 17 16::tJ 18 3 17::mJ 19 4::aJ 20 Qdw [.t 18,.t 19]::Qxx) [0,1,4,5,12,13] Qarv
def Qarx:SC:=.reg [cJ 46 .add 13 1,mJ 13 46] [0,1,12,13]
def Qamn:SC:=.seq (.block 1 (sR [mJ 15 13,mJ 4 15] [0,1,4,12,13] Qarw)) Qarx
def Qael:SC:=sR [bJ 14 .lss 13 12] [0,1,12,13,14] (cX 14 0 Qamn)
def Qa1p:SC:=sR [mJ 8 0,kJ 9 8,fJ 10 2 9,lJ 11 10,nJ 12 11,zJ 13 0] [0,1,12,13] (bL 0 Qael)
def Qac6:List RS:=[]
theorem Qa0t:mFn prog Qqp 2 47 Qa1p Qac6=true:=by kernel_rfl
def Q93:SC:=sR [lJ 4 1,mJ 5 0,fI 6 (.lup 0 (.c (.int .i64 0)) (.t 4) (.t 5)),mJ 3 6] [3] .ret
def Qamo:SC:=sR [zJ 3 0] [0,1] Q93
def Qw2:List RS:=[.tmp 3]
theorem Qajy:mFn prog Qcc 2 7 Qamo Qw2=true:=by kernel_rfl
def Qfh:List Item:=[fB 3 false]
def Qfi:List Item:=[mJ 3 7]
def Qfj:List Item:=fI 6 (.ext (.t 5) 0)::fI 7 (.ext (.t 5) 1)::sJ 1 2 6::Qfi
def Qu7:SC:=sR (tJ 4 1 1::eI 5 (.call Qg4 [.t 4,.k (.c (.fn Qer []))])::Qfj) [2,3] .ret
def Q1v:SC:=sR (vJ 1 0::eI 2 (.alloc [.sl true 3 []])::Qfh) [1,2] Qu7
def Qjd:List RS:=[.cell 2 1 true,.tmp 3]
theorem Q00:mFn prog Qbv 1 8 Q1v Qjd=true:=by kernel_rfl
def Qig:List Item:=[sJ 3 2 6]
def Qih:List Item:=.chk 3 none (.ld 3 true (.t 1))::aJ 6 Qi3 [.t 3,.t 5]::Qig
def Q18:SC:=.seq (.dreg 5 [0,1,2,0,3,4] ( tJ 3 3 1::tJ 4 3 1::aJ 5 Qca [.t 4]::Qih) [2]) .ret
def Q91:SC:=sR [vJ 1 0,eI 2 (.alloc [.int .i64 0,.int .i64 0,.sl true 5 []])] [1,2] Q18
def Qnq:List RS:=[.cell 2 3 true]
theorem Q8v:mFn prog Qer 1 7 Q91 Qnq=true:=by kernel_rfl
def Qf1:List Item:=[fB 3 false]
def Qf2:List Item:=[mJ 3 7]
def Qf3:List Item:=fI 6 (.ext (.t 5) 0)::fI 7 (.ext (.t 5) 1)::sJ 1 2 6::Qf2
def Qwi:SC:=sR (tJ 4 1 1::eI 5 (.call Quo [.t 4,.k (.c (.str [114,101,97,99,104]))])::Qf3) [2,3] .ret
def Q3t:SC:=sR (vJ 1 0::eI 2 (.alloc [.sl true 3 []])::Qf1) [1,2] Qwi
def Qjm:List RS:=[.cell 2 1 true,.tmp 3]
theorem Q06:mFn prog Qde 1 8 Q3t Qjm=true:=by kernel_rfl
def Qc7:List Item:=[sJ 1 2 5]
def Qc8:List Item:=aJ 5 Qun [.t 4]::Qc7
def Qls:SC:=sR (mJ 3 0::aJ 4 Qur [.t 3]::Qc8) [2] .ret
def Qqi:SC:=sR [eI 2 (.alloc [.sl true 3 []])] [0,2] Qls
def Qed:List RS:=[.cell 2 1 true]
theorem Qo9:mFn prog Qbx 1 6 Qqi Qed=true:=by kernel_rfl
def Qk6:List Item:=[fB 3 false]
def Qk7:List Item:=[mJ 3 7]
def Qk8:List Item:=fI 6 (.ext (.t 5) 0)::fI 7 (.ext (.t 5) 1)::sJ 1 2 6::Qk7
def Q86:SC:=sR (tJ 4 1 1::eI 5 (.call Qg4 [.t 4,.k (.c (.fn Qdv []))])::Qk8) [2,3] .ret
def Qakj:SC:=sR (vJ 1 0::eI 2 (.alloc [.sl true 3 []])::Qk6) [1,2] Q86
def Qwt:List RS:=[.cell 2 1 true,.tmp 3]
theorem Qajm:mFn prog Qdu 1 8 Qakj Qwt=true:=by kernel_rfl
def Qgb:List Item:=[sJ 3 2 6]
def Qgc:List Item:=.chk 3 none (.ld 3 true (.t 1))::aJ 6 Qi3 [.t 3,.t 5]::Qgb
def Qy4:SC:=.seq (.dreg 5 [0,1,2,0,3,4] ( tJ 3 3 1::tJ 4 3 1::aJ 5 Qdt [.t 4]::Qgc) [2]) .ret
def Q47:SC:=sR [vJ 1 0,eI 2 (.alloc [.int .i64 0,.int .i64 0,.sl true 5 []])] [1,2] Qy4
def Qku:List RS:=[.cell 2 3 true]
theorem Q4k:mFn prog Qdv 1 7 Q47 Qku=true:=by kernel_rfl
def Qlu:List Item:=[fB 3 false]
def Qlv:List Item:=[mJ 3 7]
def Qlw:List Item:=fI 6 (.ext (.t 5) 0)::fI 7 (.ext (.t 5) 1)::sJ 1 2 6::Qlv
def Qaa6:SC:=sR (tJ 4 1 1::eI 5 (.call Quo [.t 4,.k (.c (.str [111,114,100,101,114]))])::Qlw) [2,3] .ret
def Qaon:SC:=sR (vJ 1 0::eI 2 (.alloc [.sl true 3 []])::Qlu) [1,2] Qaa6
def Qw4:List RS:=[.cell 2 1 true,.tmp 3]
theorem Qaj2:mFn prog Qhz 1 8 Qaon Qw4=true:=by kernel_rfl
def Qfz:List Item:=[sJ 1 2 5]
def Qf0:List Item:=aJ 5 Qun [.t 4]::Qfz
def Qwh:SC:=sR (mJ 3 0::aJ 4 Qur [.t 3]::Qf0) [2] .ret
def Q3s:SC:=sR [eI 2 (.alloc [.sl true 3 []])] [0,2] Qwh
def Qjl:List RS:=[.cell 2 1 true]
theorem Q05:mFn prog Qdd 1 6 Q3s Qjl=true:=by kernel_rfl
def Q3n:SC:=cT 14 (sR [fB 2 true] [2] .ret) .skip
def Qik:List Item:=[sJ 1 3 16]
def Qil:List Item:=eI 3 (.alloc [.sl true 3 []])::Qik
def Qim:List Item:=[mJ 5 21]
def Qin:List Item:=sJ 1 4 20::Qim
def Qio:List Item:=mJ 17 19::fI 20 (.ext (.t 17) 0)::fI 21 (.ext (.t 17) 1)::eI 4 (.alloc [.sl true 3 []])::Qin
def Qip:List Item:=[mJ 7 26]
def Qiq:List Item:=sJ 1 6 25::Qip
def Qir:List Item:=mJ 22 24::fI 25 (.ext (.t 22) 0)::fI 26 (.ext (.t 22) 1)::eI 6 (.alloc [.sl true 3 []])::Qiq
def Qdg:List Item:=[gF 34 30 (.not (.t 33)),pT 35 30 34,mJ 36 35,gFm 37 36 5,gF 38 36 (.not (.t 37)),pT 39 36 38]
def Qgd:List Item:=[pF 47 43 46,mJ 2 47]
def Qzv:SC:=cT 39 (sR (mJ 40 5::mJ 41 7::fI 42 (.bin 1 .eql (.t 40) (.t 41))::mJ 43 42::gT 44 43 (.ld 1 true (.t 4))::gT 45 43 (.ld 1 true (.t 6))::.e (some 46) (some (43,true)) (.call Qa5 [.t 44,.t 45])::Qgd) [2] .ret) .skip
def Qge:List Item:=[mJ 9 52]
def Qgf:List Item:=sJ 1 8 51::Qge
def Qgg:List Item:=mJ 48 50::fI 51 (.ext (.t 48) 0)::fI 52 (.ext (.t 48) 1)::eI 8 (.alloc [.sl true 3 []])::Qgf
def Qgh:List Item:=[mJ 10 58,sJ 3 11 60]
def Qgi:List Item:=[.chk 70 (some (68,false)) (.ld 1 false (.t 69)),.chk 71 (some (68,false)) (.len (.t 70)),gF 78 68 (.len (.t 77)),gF 79 68 (.bin 0 .neq (.t 71) (.t 78)),pT 80 68 79]
def Qgj:List Item:=hJ 65 64::.chk 66 none (.len (.t 65))::nJ 63 62::bJ 67 .neq 63 66::mJ 68 67::gFf 69 68 2 11::gFl 70 68 69::gF 71 68 (.len (.t 70))::gFf 72 68 0 3::gFl 73 68 72::gFm 74 68 10::gF 75 68 (.iad 3 (.t 73) (.t 74))::gF 76 68 (.ld 3 true (.t 75))::.e (some 77) (some (68,false)) (.call Qca [.t 76])::Qgi
def Qzw:SC:=cT 80 (sR [fB 2 false] [2] .ret) .skip
def Qzx:SC:=.seq (.dreg 20 [0,3,4,5,1,4,5,2,6,7,8,9,10,11,12,13,14,15,16,9,10,17,18,19] ( tJ 61 3 11::fJ 64 2 11::lJ 65 64::nJ 66 65::aJ 62 Qca [.t 61]::Qgj) [3,4,8,9,54,55,56,80]) Qzw
def Qzy:SC:=.reg [cJ 81 .add 56 1,mJ 56 81] [3,4,8,9,54,55,56]
def Qzz:SC:=.seq (.block 1 (sR (mJ 58 56::iJ 59 3 54 56::tJ 60 3 59::eI 11 (.alloc [.int .i64 0,.int .i64 0,.sl true 5 []])::Qgh) [3,4,8,9,10,11,54,55,56] Qzx)) Qzy
def Qvb:SC:=sR [bJ 57 .lss 56 55] [3,4,8,9,54,55,56,57] (cX 57 0 Qzz)
def Qgk:List Item:=[gT 93 88 (.bin 0 .leq (.t 90) (.t 92)),pF 94 88 93,mJ 2 94]
def Qgl:List Item:=.chk 91 (some (88,true)) (.ld 1 true (.t 3))::.e (some 92) (some (88,true)) (.call Qe5 [.t 91])::Qgk
def Qgm:List Item:=pF 87 83 86::mJ 88 87::gT 89 88 (.ld 1 true (.t 4))::gT 91 88 (.ld 1 true (.t 3))::.e (some 90) (some (88,true)) (.call Qe5 [.t 89])::Qgl
def Qz0:SC:=.seq (.dreg 14 [0,1,2,3,4,5,6,7,9,8,9,10,11,12,13] ( mJ 82 9::mJ 83 82::gT 84 83 (.ld 1 true (.t 8))::gT 85 83 (.ld 1 true (.t 4))::.e (some 86) (some (83,true)) (.call Qdx [.t 84,.t 85])::Qgm) [2]) .ret
def Qz1:SC:=.seq (sR [fJ 53 0 4,lJ 54 53,nJ 55 54,zJ 56 0] [3,4,8,9,54,55,56] (bL 0 Qvb)) Qz0
def Qz2:SC:=sR (tJ 49 1 4::aJ 50 Qbv [.t 49]::Qgg) [3,4,8,9] Qz1
def Qz3:SC:=.seq (sR (mJ 27 5::mJ 28 7::fI 29 (.bin 1 .neq (.t 27) (.t 28))::mJ 30 29::gF 31 30 (.ld 1 true (.t 4))::gF 32 30 (.ld 1 true (.t 6))::.e (some 33) (some (30,false)) (.call Qa5 [.t 31,.t 32])::Qdg) [3,4,5,6,7,39] Qzv) Qz2
def Qz4:SC:=sR (tJ 23 1 3::aJ 24 Qde [.t 23]::Qir) [3,4,5,6,7] Qz3
def Qz5:SC:=sR (tJ 18 1 3::aJ 19 Qbv [.t 18]::Qio) [3,4,5] Qz4
def Qz6:SC:=sR (mJ 15 0::aJ 16 Qbx [.t 15]::Qil) [3] Qz5
def Qz7:SC:=.seq (sR [mJ 12 0,nJ 13 12,cJ 14 .gtr 13 1048576] [0,14] Q3n) Qz6
def Qaax:SC:=sR [fB 2 false] [0] Qz7
def Qf7:List RS:=[.tmp 2]
theorem Q8w:mFn prog Qkl 1 95 Qaax Qf7=true:=by kernel_rfl
def Qz8:SC:=cT 18 (sR [fB 2 true] [2] .ret) .skip
def Qgn:List Item:=[sJ 1 3 20]
def Qgo:List Item:=eI 3 (.alloc [.sl true 3 []])::Qgn
def Qgp:List Item:=[mJ 5 25]
def Qgq:List Item:=sJ 1 4 24::Qgp
def Qgr:List Item:=mJ 21 23::fI 24 (.ext (.t 21) 0)::fI 25 (.ext (.t 21) 1)::eI 4 (.alloc [.sl true 3 []])::Qgq
def Qgs:List Item:=[mJ 7 30]
def Qgt:List Item:=sJ 1 6 29::Qgs
def Qgu:List Item:=mJ 26 28::fI 29 (.ext (.t 26) 0)::fI 30 (.ext (.t 26) 1)::eI 6 (.alloc [.sl true 3 []])::Qgt
def Qcv:List Item:=[gF 38 34 (.not (.t 37)),pT 39 34 38,mJ 40 39,gFm 41 40 5,gF 42 40 (.not (.t 41)),pT 43 40 42]
def Qfl:List Item:=[pF 51 47 50,mJ 2 51]
def Qvc:SC:=cT 43 (sR (mJ 44 5::mJ 45 7::fI 46 (.bin 1 .eql (.t 44) (.t 45))::mJ 47 46::gT 48 47 (.ld 1 true (.t 4))::gT 49 47 (.ld 1 true (.t 6))::.e (some 50) (some (47,true)) (.call Qa5 [.t 48,.t 49])::Qfl) [2] .ret) .skip
def Qfm:List Item:=[mJ 9 56]
def Qfn:List Item:=sJ 1 8 55::Qfm
def Qfo:List Item:=mJ 52 54::fI 55 (.ext (.t 52) 0)::fI 56 (.ext (.t 52) 1)::eI 8 (.alloc [.sl true 3 []])::Qfn
def Qfp:List Item:=[sJ 3 11 63]
def Qfq:List Item:=[nJ 66 65,zJ 67 0]
def Qvd:SC:=cT 74 (sR [fB 2 false] [2] .ret) .skip
def Qve:SC:=sR [mJ 72 12,mJ 73 13,bJ 74 .neq 72 73] [4,8,9,11,58,59,60,65,66,67,74] Qvd
def Qvf:SC:=.reg [cJ 75 .add 67 1,mJ 67 75] [4,8,9,11,58,59,60,65,66,67]
def Qvg:SC:=.seq (.block 3 (sR [mJ 69 67,iJ 70 1 65 67,lJ 71 70,mJ 12 69,mJ 13 71] [4,8,9,11,12,13,58,59,60,65,66,67] Qve)) Qvf
def Qtr:SC:=sR [bJ 68 .lss 67 66] [4,8,9,11,58,59,60,65,66,67,68] (cX 68 2 Qvg)
def Qfr:List Item:=[nJ 78 77,zJ 79 0]
def Qvh:SC:=cT 89 (sR [fB 2 false] [2] .ret) .skip
def Qvi:SC:=.seq (.dreg 7 [0,1,2,3,4,5,6] ( mJ 83 15::fI 84 (.iad 1 (.t 83) (kI 0))::lJ 85 84::mJ 86 15::fI 87 (.iad 1 (.t 86) (kI 1))::lJ 88 87::bJ 89 .lss 85 88::[]) [4,8,9,58,59,60,77,78,79,89]) Qvh
def Qvj:SC:=.reg [cJ 90 .add 79 1,mJ 79 90] [4,8,9,58,59,60,77,78,79]
def Qvk:SC:=.seq (.block 5 (sR [iJ 81 1 77 79,lJ 82 81,mJ 15 82] [4,8,9,15,58,59,60,77,78,79] Qvi)) Qvj
def Qts:SC:=sR [bJ 80 .lss 79 78] [4,8,9,58,59,60,77,78,79,80] (cX 80 4 Qvk)
def Qvl:SC:=sR (tJ 76 3 11::aJ 77 Qhn [.t 76]::Qfr) [4,8,9,58,59,60,77,78,79] (bL 4 Qts)
def Qvm:SC:=.seq (sR (tJ 64 3 11::aJ 65 Qdt [.t 64]::Qfq) [4,8,9,11,58,59,60,65,66,67] (bL 2 Qtr)) Qvl
def Qvn:SC:=.reg [cJ 91 .add 60 1,mJ 60 91] [4,8,9,58,59,60]
def Qvo:SC:=.seq (.block 1 (sR (iJ 62 3 58 60::tJ 63 3 62::eI 11 (.alloc [.int .i64 0,.int .i64 0,.sl true 5 []])::Qfp) [4,8,9,11,58,59,60] Qvm)) Qvn
def Qtt:SC:=sR [bJ 61 .lss 60 59] [4,8,9,58,59,60,61] (cX 61 0 Qvo)
def Qfs:List Item:=[pF 97 93 96,mJ 2 97]
def Qvp:SC:=sR (mJ 92 9::mJ 93 92::gT 94 93 (.ld 1 true (.t 8))::gT 95 93 (.ld 1 true (.t 4))::.e (some 96) (some (93,true)) (.call Qdx [.t 94,.t 95])::Qfs) [2] .ret
def Qvq:SC:=.seq (sR [fJ 57 0 4,lJ 58 57,nJ 59 58,zJ 60 0] [4,8,9,58,59,60] (bL 0 Qtt)) Qvp
def Qvr:SC:=sR (tJ 53 1 4::aJ 54 Qdu [.t 53]::Qfo) [4,8,9] Qvq
def Qvs:SC:=.seq (sR (mJ 31 5::mJ 32 7::fI 33 (.bin 1 .neq (.t 31) (.t 32))::mJ 34 33::gF 35 34 (.ld 1 true (.t 4))::gF 36 34 (.ld 1 true (.t 6))::.e (some 37) (some (34,false)) (.call Qa5 [.t 35,.t 36])::Qcv) [4,5,6,7,43] Qvc) Qvr
def Qvt:SC:=sR (tJ 27 1 3::aJ 28 Qhz [.t 27]::Qgu) [4,5,6,7] Qvs
def Qvu:SC:=sR (tJ 22 1 3::aJ 23 Qdu [.t 22]::Qgr) [3,4,5] Qvt
def Qvv:SC:=sR (mJ 19 0::aJ 20 Qdd [.t 19]::Qgo) [3] Qvu
def Qvw:SC:=.seq (sR [mJ 16 0,nJ 17 16,cJ 18 .gtr 17 1048576] [0,18] Qz8) Qvv
def Q5m:SC:=sR [fB 2 false] [0] Qvw
def Qev:List RS:=[.tmp 2]
theorem Q4l:mFn prog Qi7 1 98 Q5m Qev=true:=by kernel_rfl
end Go.AE.Y

namespace Go.AE.Y
attribute [local go_sem] cond_true cond_false Bool.not_true Bool.not_false
open Go.Proofs.Tryz
variable {H H0:Heap}{K:V→Heap→Prop}{q:CodeD}
end Go.AE.Y

namespace Go.AE.Y
attribute [local go_sem] cond_true cond_false Bool.not_true Bool.not_false
open Go.Proofs.Tryz
variable {H H0:Heap}{K:V→Heap→Prop}{q:CodeD}{E L:List (Nat×Obj)}
def mI (l:List (Int×Int)):List (C×V):=l.map fun p=>(.int .i64 p.1,.c (.int .i64 p.2))
def lkI (k:Int):List (Int×Int)→Option Int
 |[]=>none
 |p::l=>if k=p.1 then some p.2 else lkI k l
def upI (k v:Int):List (Int×Int)→List (Int×Int)
 |[]=>[(k,v)]
 |p::l=>if k=p.1 then (k,v)::l else p::upI k v l
def deI (k:Int):List (Int×Int)→List (Int×Int)
 |[]=>[]
 |p::l=>if k=p.1 then l else p::deI k l
theorem Qauo (l:List (Int×Int)):(mI l).length=l.length:=by simp[mI]
theorem Qg8 (k:Int)(l:List (Int×Int)):Qmq 0 (.int .i64 k) (mI l)=True:=by
 refine eq_true ?_
 simp only[Qmq,mI,List.mem_map]
 rintro e ⟨p,_,rfl⟩
 exact⟨p.1,rfl⟩
theorem Qap3 (k:Int):∀(l:List (Int×Int)),Qo6 (.int .i64 k) (mI l)=(lkI k l).map fun v=>.c (.int .i64 v)
 |[]=>rfl
 |p::l=>by
  have ih:=Qap3 k l
  simp only[mI,List.map_cons,Qo6,Qf5,lkI]at ih⊢
  by_cases h:k=p.1
  ·simp[h]
  ·simp only[h,decide_false,Bool.false_eq_true,if_false];exact ih
theorem Qab8 (k:Int)(l:List (Int×Int)):(Qo6 (.int .i64 k) (mI l)).getD (.c (.int .i64 0))=.c (.int .i64 ((lkI k l).getD 0)):=by
 rw[Qap3];cases lkI k l <;> rfl
theorem Qaui (k:Int)(l:List (Int×Int)):(Qo6 (.int .i64 k) (mI l)).isSome=(lkI k l).isSome:=by
 rw[Qap3];cases lkI k l <;> rfl
theorem Qajd (k v:Int):∀(l:List (Int×Int)),updE (.int .i64 k) (.c (.int .i64 v)) (mI l)=mI (upI k v l)
 |[]=>rfl
 |p::l=>by
  have ih:=Qajd k v l
  simp only[mI,List.map_cons,updE,Qf5,upI]at ih⊢
  by_cases h:k=p.1
  ·simp[h]
  ·simp only[h,decide_false,Bool.false_eq_true,if_false,List.map_cons,ih]
theorem Qa6h (k v:Int):∀(l:List (Int×Int)),(upI k v l).length≤l.length+1
 |[]=>by simp[upI]
 |p::l=>by
  have ih:=Qa6h k v l
  simp only[upI]
  split
  ·simp
  ·simp only[List.length_cons];omega
theorem Qbhy (k v j:Int):∀(l:List (Int×Int)),lkI j (upI k v l)=if j=k then some v else lkI j l
 |[]=>by simp[upI,lkI]
 |p::l=>by
  have ih:=Qbhy k v j l
  simp only[upI]
  by_cases h:k=p.1
  ·simp only[h,if_true,lkI]
   by_cases hj:j=p.1 <;> simp[hj]
  ·simp only[h,if_false,lkI,ih]
   by_cases hj:j=p.1
   ·have:¬j=k:=fun e=>h (e▸hj)
    simp[hj,this]
    intro e;exact absurd e.symm h
   ·simp[hj]
theorem Qbgj {k v:Int}:∀{l:List (Int×Int)},(∀p∈l,¬k=p.1)→upI k v l=l++[(k,v)]
 |[],_=>rfl
 |p::l,h=>by
  have ih:=Qbgj (v:=v) fun q hq=>h q (List.mem_cons_of_mem _ hq)
  simp only[upI,h p List.mem_cons_self,if_false,ih,List.cons_append]
theorem Qbj5 {l aa:List Int}{i:Nat}(h:i<l.length)(h2:i<aa.length)(hnd:l.Nodup):upI l[i] aa[i] ((l.zip aa).take i)=(l.zip aa).take (i+1):=by
 have hz:i<(l.zip aa).length:=by rw[List.length_zip];omega
 rw[List.take_succ_eq_append_getElem hz,List.getElem_zip,Qbgj]
 intro p hp he
 obtain⟨j,hj,rfl⟩:=List.mem_iff_getElem.1 hp
 rw[List.length_take]at hj
 rw[List.getElem_take,List.getElem_zip]at he
 simp only at he
 have:=(List.getElem_inj hnd).1 he
 omega
theorem Qbh1 {l:List (Int×Int)}(h:(l.map Prod.fst).Nodup):(mI l).Nodup:=by
 rw[mI,List.nodup_iff_pairwise_ne,List.pairwise_map]
 rw[List.nodup_iff_pairwise_ne,List.pairwise_map]at h
 refine List.Pairwise.imp (fun hne he=>?_) h
 simp only[Prod.mk.injEq,C.int.injEq,true_and]at he
 exact hne he.1
structure PMap where
 m:Nat
 ver:Nat
 l:List (Int×Int)
def PMap.lg (p:PMap):List (Nat×Obj):=[(p.m,.map p.ver (mI p.l))]
def Qec (ms:List PMap):List (List C):=ms.map fun p=>[.mp p.m]
theorem Qb2 (ms:List PMap):(Qec ms).length=ms.length:=by simp[Qec]
theorem Qao8 (ms:List PMap)(i:Nat)(h:i<ms.length):(Qec ms).getD i []=[.mp ms[i].m]:=by simp[Qec,List.getD_eq_getElem?_getD,h]
structure PSl where
 ms:List PMap
 c:C
 g:List (Nat×Obj)
def PSl.row (s:PSl):List C:=[s.c]
def PSl.ok (s:PSl):Prop:=Gr s.g 1 (Qec s.ms) s.c
def PSl.lg (s:PSl):List (Nat×Obj):=s.ms.flatMap PMap.lg++s.g
def psL (ss:List PSl):List (Nat×Obj):=ss.flatMap PSl.lg
structure PInv (F:Nat→List (List (Int×Int)))(ss:List PSl):Prop where
 f:∀r (h:r<ss.length),ss[r].ms.map PMap.l=F r
 ok:∀s∈ss,s.ok
variable {F F':Nat→List (List (Int×Int))}{ss:List PSl}
theorem PInv.set (h:PInv F ss){x:Nat}{s:PSl}(hs:s.ok)(hF:∀r,r<ss.length→F' r=if r=x then s.ms.map PMap.l else F r):PInv F' (ss.set x s):=by
 refine⟨fun r hr=>?_,fun w hw=>?_⟩
 ·have hr':r<ss.length:=by simpa using hr
  rw[List.getElem_set,hF r hr']
  split
  ·rename_i e;rw[if_pos e.symm]
  ·rename_i e;rw[if_neg (fun hh=>e hh.symm)];exact h.f r hr'
 ·rcases List.mem_or_eq_of_mem_set hw with hw|rfl
  ·exact h.ok w hw
  ·exact hs
theorem Q1b {x:Nat}{s:PSl}(hx:x<ss.length)(hs:ss[x]=s):(psL ss).Perm (psL (ss.eraseIdx x)++s.lg):=by
 subst hs
 exact (Qci (f:=PSl.lg) hx).trans List.perm_append_comm
theorem Qbec {x:Nat}{s:PSl}(hx:x<ss.length):(psL (ss.set x s)).Perm (psL (ss.eraseIdx x)++s.lg):=by
 have h1:=Q1b (ss:=ss.set x s) (x:=x) (s:=s) (by rw[List.length_set];exact hx) (by simp)
 rw[List.eraseIdx_set_eq]at h1
 exact h1
def zpA (q:CodeD)(b:Nat)(p:PhiD):List (Int×Int):=(Q1 (gnx q) (b:Int) q.blocks.length).zip p.args
def phT (q:CodeD)(b r:Nat):List (List (Int×Int)):=if r<b then (Qaj q r).phis.map (zpA q r)else []
set_option maxHeartbeats 4000000 in
theorem Qbis {fl:Bool}(ho:q.ok)(hK:∀o ss H',ss.length=q.blocks.length→PInv (phT q q.blocks.length) ss→Kn H H' [] ([(o,.vec 1 (ss.map PSl.row))]++psL ss)→K (.c (.vsl o 1 0 q.blocks.length)) H') :
  Qo prog Qqo [.ag [.int .i64 q.params,.int .i64 q.regs,.sl fl 5 (Qp q.blocks)]] H K:=by
 have hb1:=ho.b1
 refine Qcw ?_
 refine Qb Qai Qa0r ?_
 refine Qa ?_
 simp only[go_sem]
 refine Qa ?_
 simp only[go_sem,Ql]
 intro _
 refine⟨by simp only[LIM];omega,fun o ho2 H1 h1=>?_⟩
 obtain⟨ss0,hss0⟩:∃ss0:List PSl,ss0=List.replicate q.blocks.length ⟨[],.sl true 1 [],[]⟩:=⟨_,rfl⟩
 have hs0l:ss0.length=q.blocks.length:=by rw[hss0];simp
 have hS0:PInv (phT q 0) ss0:=by
  rw[hss0]
  refine⟨fun r h=>by simp[phT],fun s hs=>?_⟩
  rw[List.eq_of_mem_replicate hs];exact .nil 1
 have kn:Kn H H1 [] ([(o,.vec 1 (ss0.map PSl.row))]++psL ss0):=by
  have e:psL ss0=[]:=by rw[hss0];exact List.flatMap_eq_nil_iff.2 fun s hs=>by rw[List.eq_of_mem_replicate hs];rfl
  have:=(Kn.start0 H).al ho2 h1
  rw[e,hss0]
  simpa[PSl.row]using this
 clear hss0 h1 ho2
 simp only[go_sem,Qxh]
 refine Q3 ?_
 refine Qa ?_
 simp only[go_sem,Ql]
 try intro _
 refine Qh (Qe (Qx (fun m e1 H1=>∃(b:Nat) (ss:List PSl),m=q.blocks.length-b∧b≤q.blocks.length∧ss.length=q.blocks.length∧PInv (phT q b) ss∧Kn H H1 [] ([(o,.vec 1 (ss.map PSl.row))]++psL ss)∧
  lk 1 e1=.c (.pp [.int .i64 q.params,.int .i64 q.regs,.sl fl 5 (Qp q.blocks)])∧lk 3 e1=.c (.vsl o 1 0 q.blocks.length)∧lk 17 e1=.c (.sl fl 5 (Qp q.blocks))∧lk 18 e1=.c (.int .i64 q.blocks.length)∧lk 19 e1=.c (.int .i64 b)) q.blocks.length ?_ ?_))
 ·exact⟨0,ss0,by omega,by omega,hs0l,hS0,kn,rfl,rfl,rfl,rfl,rfl⟩
 ·clear kn hS0 hs0l
  clear ss0
  rintro m e1 H1 ⟨b,ss,hm,hb,hsl,hS,kn,l1,l3,l17,l18,l19⟩
  refine Qa ?_
  simp only[go_sem,l1,l3,l17,l18,l19]
  refine Qh (Qf rfl ?_ ?_)
  ·intro hc
   have hlt:b<q.blocks.length:=by simpa using hc
   obtain⟨y,hy⟩:∃y,q.blocks[b]=y:=⟨_,rfl⟩
   have hya:Qaj q b=y:=by rw[Qa8 hlt,hy]
   have hyo:=ho.bs b hlt
   have hil:=ho.il b hlt
   rw[hy]at hyo hil
   refine Qi ?_
   try simp only[go_sem]
   refine Qh (Qe ?_)
   refine Qa ?_
   simp only[go_sem,l1,l3,l17,l18,l19,hlt,Ql,Qax _ _ hlt,BlkD.cells,hy]
   intro x5 hx5 H2 h2
   have kn:Kn H H2 [] ([(x5,_)]++([(o,.vec 1 (ss.map PSl.row))]++psL ss)):=(kn.al hx5 h2).perm List.perm_append_comm
   have hx5:=kn.l 0 rfl
   simp only[go_sem,Qxi,hx5]
   intro H3 h3
   have kn:=kn.stL 0 rfl h3
   have kn:Kn H H3 [] ([(x5,.st y.cells)]++([(o,.vec 1 (ss.map PSl.row))]++psL ss)):=kn
   clear hx5
   refine Qa ?_
   simp only[go_sem]
   refine Qab0 (Qi8 H3 q fl) fun fl2 H4 hu=>?_
   have kn:=kn.call0 hu
   have hpi:Qq1 (gnx q) (b:Int) q.blocks.length=Q1 (gnx q) (b:Int) q.blocks.length:=by rw[Qq1,if_pos (by simp only[Bool.and_eq_true,decide_eq_true_eq];omega)]
   rw[Ql,hpi]
   obtain⟨ps,hps⟩:∃ps,Q1 (gnx q) (b:Int) q.blocks.length=ps:=⟨_,rfl⟩
   have hpnd:ps.Nodup:=by rw[←hps];exact Qabp _ _ _
   have hpl:ps.length≤q.blocks.length:=by rw[←hps];exact Qb0 _ _ _
   have hpal:∀p∈y.phis,p.args.length=ps.length:=fun p hp=>by rw[hyo.pal p hp,hps]
   rw[hps]
   simp only[go_sem,Qxj]
   have hx5:=kn.l 0 rfl
   refine Qa ?_
   simp only[go_sem,hx5,BlkD.cells,Qy]
   try intro _
   refine Qe (Qx (fun m e1 H1=>∃(k:Nat) (ss:List PSl),m=y.phis.length-k∧k≤y.phis.length∧ss.length=q.blocks.length∧PInv (fun r=>if r=b then (y.phis.take k).map (zpA q b)else phT q b r) ss∧Kn H H1 [] ([(x5,.st y.cells)]++([(o,.vec 1 (ss.map PSl.row))]++psL ss))∧
    lk 1 e1=.c (.pp [.int .i64 q.params,.int .i64 q.regs,.sl fl 5 (Qp q.blocks)])∧lk 3 e1=.c (.vsl o 1 0 q.blocks.length)∧lk 4 e1=.c (.int .i64 b)∧lk 6 e1=.c (.sl fl2 1 (Qd ps))∧lk 17 e1=.c (.sl fl 5 (Qp q.blocks))∧lk 18 e1=.c (.int .i64 q.blocks.length)∧lk 19 e1=.c (.int .i64 b)∧lk 28 e1=.c (.sl false 2 (Q2 y.phis))∧lk 29 e1=.c (.int .i64 y.phis.length)∧lk 30 e1=.c (.int .i64 k)) y.phis.length ?_ ?_)
   ·refine⟨0,ss,by omega,by omega,hsl,⟨fun r hr=>?_,hS.ok⟩,kn,rfl,rfl,rfl,rfl,rfl,rfl,rfl,rfl,rfl,rfl⟩
    rw[hS.f r hr]
    by_cases hrb:r=b
    ·subst hrb;simp[phT]
    ·rw[if_neg hrb]
   ·clear kn hS l1 l3 l17 l18 l19 hx5 hsl
    rintro m2 e2 H5 ⟨k,ss,hm2,hk,hsl,hS,kn,l1,l3,l4,l6,l17,l18,l19,l28,l29,l30⟩
    refine Qa ?_
    simp only[go_sem,l1,l3,l4,l6,l17,l18,l19,l28,l29,l30]
    refine Qh (Qf rfl ?_ ?_)
    ·intro hc2
     have hlt2:k<y.phis.length:=by simpa using hc2
     obtain⟨p,hp⟩:∃p,y.phis[k]=p:=⟨_,rfl⟩
     have hpm:p∈y.phis:=by rw[←hp];exact List.getElem_mem hlt2
     have hpl2:=hpal p hpm
     refine Qi ?_
     try simp only[go_sem]
     refine Qh (Qe ?_)
     refine Qa ?_
     simp only[go_sem,l1,l3,l4,l6,l17,l18,l19,l28,l29,l30,hlt2,Qy,Qa3 _ _ hlt2,PhiD.cells,hp]
     intro x8 hx8 H6 h6
     have kn:Kn H H6 [] ([(x8,_)]++([(x5,.st y.cells)]++([(o,.vec 1 (ss.map PSl.row))]++psL ss))):=(kn.al hx8 h6).perm List.perm_append_comm
     have hx8:=kn.l 0 rfl
     simp only[go_sem,Qxk,hx8]
     intro H7 h7
     have kn:=kn.stL 0 rfl h7
     have kn:Kn H H7 [] ([(x8,.st p.cells)]++([(x5,.st y.cells)]++([(o,.vec 1 (ss.map PSl.row))]++psL ss))):=kn
     clear hx8
     refine Qa ?_
     simp only[go_sem]
     intro M hM H8 h8
     have kn:Kn H H8 [] ([(M,.map 0 (mI []))]++([(x8,.st p.cells)]++([(x5,.st y.cells)]++([(o,.vec 1 (ss.map PSl.row))]++psL ss)))):=(kn.al hM h8).perm List.perm_append_comm
     clear hM
     simp only[go_sem,Qxl]
     refine Q3 ?_
     refine Qa ?_
     simp only[go_sem,Qc]
     try intro _
     refine Qh (Qe (Qx (fun m e1 H1=>∃(i ver:Nat),m=ps.length-i∧i≤ps.length∧Kn H H1 [] ([(M,.map ver (mI ((ps.zip p.args).take i)))]++([(x8,.st p.cells)]++([(x5,.st y.cells)]++([(o,.vec 1 (ss.map PSl.row))]++psL ss))))∧
      lk 1 e1=.c (.pp [.int .i64 q.params,.int .i64 q.regs,.sl fl 5 (Qp q.blocks)])∧lk 3 e1=.c (.vsl o 1 0 q.blocks.length)∧lk 4 e1=.c (.int .i64 b)∧lk 6 e1=.c (.sl fl2 1 (Qd ps))∧lk 8 e1=.c (.ptr x8 0)∧lk 9 e1=.c (.mp M)∧lk 17 e1=.c (.sl fl 5 (Qp q.blocks))∧lk 18 e1=.c (.int .i64 q.blocks.length)∧lk 19 e1=.c (.int .i64 b)∧lk 28 e1=.c (.sl false 2 (Q2 y.phis))∧lk 29 e1=.c (.int .i64 y.phis.length)∧lk 30 e1=.c (.int .i64 k)∧
      lk 35 e1=.c (.sl fl2 1 (Qd ps))∧lk 36 e1=.c (.int .i64 ps.length)∧lk 37 e1=.c (.int .i64 i)) ps.length ?_ ?_))
     ·exact⟨0,0,by omega,by omega,by simpa using kn,rfl,rfl,rfl,rfl,rfl,rfl,rfl,rfl,rfl,rfl,rfl,rfl,rfl,rfl,rfl⟩
     ·clear kn l1 l3 l4 l6 l17 l18 l19 l28 l29 l30
      rintro m3 e3 H9 ⟨i,ver,hm3,hi,kn,l1,l3,l4,l6,l8,l9,l17,l18,l19,l28,l29,l30,l35,l36,l37⟩
      have hM:=kn.l 0 rfl
      have hx8:=kn.l 1 rfl
      refine Qa ?_
      simp only[go_sem,l1,l3,l4,l6,l8,l9,l17,l18,l19,l28,l29,l30,l35,l36,l37]
      refine Qh (Qf rfl ?_ ?_)
      ·intro hc3
       have hlt3:i<ps.length:=by simpa using hc3
       have hlt4:i<p.args.length:=by omega
       obtain⟨w,hw⟩:∃w,ps[i]=w:=⟨_,rfl⟩
       obtain⟨a,ha⟩:∃a,p.args[i]=a:=⟨_,rfl⟩
       have hgw:ps.getD i 0=w:=by simp[List.getD_eq_getElem?_getD,hlt3,hw]
       have hga:p.args.getD i 0=a:=by simp[List.getD_eq_getElem?_getD,hlt4,ha]
       have hzt:=Qbj5 hlt3 hlt4 hpnd
       rw[hw,ha]at hzt
       have hzl:((ps.zip p.args).take i).length≤i:=by rw[List.length_take];omega
       refine Qi ?_
       try simp only[go_sem]
       refine Qh (Qe ?_)
       refine Qa ?_
       simp only[go_sem,l1,l3,l4,l6,l8,l9,l17,l18,l19,l28,l29,l30,l35,l36,l37,hlt3,Qc,Qt _ _ hlt3,hgw]
       refine Qv ?_
       simp only[go_sem,hx8,PhiD.cells,hM,hlt4,Qc,Qt _ _ hlt4,hga,Qg8,Qauo,Qajd,hzt]
       refine⟨by simp only[LIM];omega,fun H10 h10=>?_⟩
       have kn:=kn.stL 0 rfl h10
       refine Qv ?_
       simp only[go_sem]
       refine⟨Qq (by omega) (by omega),?_⟩
       show ∃m,_
       exact⟨ps.length-(i+1),by omega,i+1,ver+1,rfl,by omega,kn,rfl,rfl,rfl,rfl,rfl,rfl,rfl,rfl,rfl,rfl,rfl,rfl,rfl,rfl,rfl⟩
      ·intro hc3
       have hge:ps.length≤i:=by simpa using hc3
       have hzf:(ps.zip p.args).take i=zpA q b p:=by
        rw[List.take_of_length_le (by rw[List.length_zip];omega),zpA,hps]
       rw[hzf]at kn
       refine Qw ?_
       simp only[go_sem,X.next]
       have hbl:b<ss.length:=by omega
       obtain⟨s,hs⟩:∃s,ss[b]=s:=⟨_,rfl⟩
       have hsok:s.ok:=by rw[←hs];exact hS.ok _ (List.getElem_mem hbl)
       have hsf:=hS.f b hbl
       rw[hs]at hsf
       simp only[if_true]at hsf
       have hsw:=Gr.isOw hsok
       have hsm:s.ms.length=k:=by have:=congrArg List.length hsf;simp only[List.length_map,List.length_take]at this;omega
       have hsg:(ss.map PSl.row).getD b []=[s.c]:=by simp[List.getD_eq_getElem?_getD,hbl,hs,PSl.row]
       have hrl:(ss.map PSl.row).length=q.blocks.length:=by rw[List.length_map,hsl]
       have hrt:(ss.map PSl.row).take q.blocks.length=ss.map PSl.row:=List.take_of_length_le (by omega)
       have hsp:=Q1b hbl hs
       have kn:Kn H H9 [] (([(o,.vec 1 (ss.map PSl.row)),(M,.map ver (mI (zpA q b p))),(x8,.st p.cells),(x5,.st y.cells)]++(psL (ss.eraseIdx b)++s.ms.flatMap PMap.lg))++s.g):=kn.perm (Qm fun f hf h0 hc hp=>by
        have e4:∀(a b c d:Nat×Obj),f [a,b,c,d]=f [a]+f [b]+f [c]+f [d]:=fun a b c d=>by rw[hc a [b,c,d],hc b [c,d],hc c [d]];omega
        have:=hp _ _ hsp
        rw[PSl.lg]at this
        simp only[hf,e4]at this⊢;omega)
       have hob:=kn.l 0 rfl
       refine Qv ?_
       simp only[go_sem,l1,l3,l4,l6,l8,l9,hob,hrl,hrt,hlt,hsg,hsw,Nat.zero_add,Nat.le_refl]
       refine kn.growR (new:=[[.mp M]]) hsok (.mk' _ _ _ _) (by intro r hr;simp only[List.mem_singleton]at hr;rw[hr];rfl) (by simp only[Qb2,LIM,List.length_cons,List.length_nil];omega) fun t2 g2 H10 hg2 ht2 kn=>?_
       have hob:=kn.l 0 rfl
       simp only[go_sem,Qxm,hob,hrl,hrt,hlt,hsg,hsw,ht2,Nat.zero_add,Nat.le_refl]
       intro H11 h11
       obtain⟨s',hs'⟩:∃s':PSl,s'=⟨s.ms++[⟨M,ver,zpA q b p⟩],t2,g2⟩:=⟨_,rfl⟩
       have hs'ok:s'.ok:=by
        rw[hs']
        show Gr g2 1 (Qec (s.ms++[⟨M,ver,zpA q b p⟩])) t2
        have e:Qec (s.ms++[⟨M,ver,zpA q b p⟩])=Qec s.ms++[[.mp M]]:=by simp[Qec]
        rw[e];exact hg2
       have hset:(ss.map PSl.row).set b [t2]=(ss.set b s').map PSl.row:=by rw[List.map_set,hs'];rfl
       rw[hset]at h11
       have kn:=kn.stL 0 rfl h11
       have hps2:=Qbec (s:=s') hbl
       have kn:Kn H H11 [] (([(x5,.st y.cells)]++([(o,.vec 1 ((ss.set b s').map PSl.row))]++psL (ss.set b s')))++[(x8,.st p.cells)]):=kn.perm (Qm fun f hf h0 hc hp=>by
        have e4:∀(a b c d:Nat×Obj),f [a,b,c,d]=f [a]+f [b]+f [c]+f [d]:=fun a b c d=>by rw[hc a [b,c,d],hc b [c,d],hc c [d]];omega
        have:=hp _ _ hps2
        have es:s'.lg=(s.ms.flatMap PMap.lg++[(M,.map ver (mI (zpA q b p)))])++g2:=by rw[hs',PSl.lg,List.flatMap_append];simp[PMap.lg]
        rw[es]at this
        show f ([(o,_),(M,_),(x8,_),(x5,_)]++(psL (ss.eraseIdx b)++s.ms.flatMap PMap.lg)++g2)=_
        simp only[hf,e4]at this⊢;omega)
       have kn:=kn.drop
       refine Qv ?_
       simp only[go_sem]
       refine⟨Qq (by omega) (by omega),?_⟩
       show ∃m,_
       refine⟨y.phis.length-(k+1),by omega,k+1,ss.set b s',rfl,by omega,by rw[List.length_set];exact hsl,hS.set hs'ok fun r hr=>?_,kn,rfl,rfl,rfl,rfl,rfl,rfl,rfl,rfl,rfl,rfl⟩
       by_cases hrb:r=b
       ·subst hrb
        rw[if_pos rfl,if_pos rfl,hs',List.map_append,hsf,List.take_succ_eq_append_getElem hlt2,List.map_append,hp];rfl
       ·rw[if_neg hrb,if_neg hrb,if_neg hrb]
    ·intro hc2
     have hke:k=y.phis.length:=by have:y.phis.length≤k:=(by simpa using hc2);omega
     subst hke
     rw[List.take_length]at hS
     refine Qw ?_
     simp only[go_sem,X.next]
     have kn:Kn H H5 [] (([(o,.vec 1 (ss.map PSl.row))]++psL ss)++[(x5,.st y.cells)]):=kn.perm List.perm_append_comm
     have kn:=kn.drop
     refine Qv ?_
     simp only[go_sem,l1,l3,l17,l18,l19]
     refine⟨Qq (by omega) (by omega),?_⟩
     show ∃m,_
     refine⟨q.blocks.length-(b+1),by omega,b+1,ss,rfl,by omega,hsl,⟨fun r hr=>?_,hS.ok⟩,kn,rfl,rfl,rfl,rfl,rfl⟩
     rw[hS.f r hr]
     by_cases hrb:r=b
     ·subst hrb;rw[if_pos rfl,phT,if_pos (by omega),hya]
     ·rw[if_neg hrb,phT,phT]
      by_cases hr2:r<b
      ·rw[if_pos hr2,if_pos (by omega)]
      ·rw[if_neg hr2,if_neg (by omega)]
  ·intro hc
   have hbe:b=q.blocks.length:=by have:q.blocks.length≤b:=(by simpa using hc);omega
   subst hbe
   refine Qw ?_
   simp only[go_sem,X.next]
   refine Qa ?_
   simp only[go_sem,l3]
   refine Qk ?_
   simp only[go_sem,Q0,Q5,Qac4,List.mem_singleton,forall_eq,RS.op]
   have kn:Kn H H1 [] ([]++([(o,.vec 1 (ss.map PSl.row))]++psL ss)):=kn
   exact⟨unx H ([(o,.vec 1 (ss.map PSl.row))]++psL ss),.c (.vsl o 1 0 q.blocks.length),H1.frz (unx H ([(o,.vec 1 (ss.map PSl.row))]++psL ss)),.c _ _ (.same _ rfl),Qd4 _ _,hK o ss _ hsl hS kn.finK⟩
end Go.AE.Y

namespace Go.AE.Y
variable {nx:Nat→List Int}{n:Nat}{q:CodeD}
theorem Qbjy {s:Nat}{e x:Nat×Int}(h:(newL nx n n)[s]? = some e):x∈(newL nx n n).take (s+1)↔x∈(newL nx n n).take s∨x=e:=by
 obtain⟨hs,he⟩:=List.getElem?_eq_some_iff.1 h
 rw[List.take_succ_eq_append_getElem hs,List.mem_append,List.mem_singleton,he]
def stV (nx:Nat→List Int)(n s b:Nat)(v:Int):Int:=if (b,v)∈(newL nx n n).take s then ((n+(newL nx n n).idxOf (b,v):Nat):Int)else v
def stX (nx:Nat→List Int)(n s b:Nat):List Int:=(nx b).map (stV nx n s b)
theorem Qbf9 (F:SpF nx n){s b b':Nat}{v:Int}(h:(newL nx n n)[s]? = some (b,v))(hne:b'≠b):stX nx n (s+1) b'=stX nx n s b':=by
 rw[stX,stX]
 refine List.map_congr_left fun w _=>?_
 have:((b',w)∈(newL nx n n).take (s+1))↔(b',w)∈(newL nx n n).take s:=by
  rw[Qbjy h]
  exact⟨fun hh=>hh.resolve_right fun e=>hne (Prod.mk.inj e).1,.inl⟩
 simp only[stV,this]
def mpS (q:CodeD)(r:Nat)(p:PhiD):Nat→List (Int×Int)
 |0=>zpA q r p
 |s+1=>match (newL (gnx q) q.blocks.length q.blocks.length)[s]? with
  |some e=>if e.2=(r:Int)then deI (e.1:Int) (upI ((q.blocks.length+s:Nat):Int) ((lkI (e.1:Int) (mpS q r p s)).getD 0) (mpS q r p s))else mpS q r p s
  |none=>mpS q r p s
end Go.AE.Y

namespace Go.AE.Y
attribute [local go_sem] cond_true cond_false Bool.not_true Bool.not_false
open Go.Proofs.Tryz
variable {H H0:Heap}{K:V→Heap→Prop}{E L:List (Nat×Obj)}
theorem Qbbo {w:Int}{x7 M ver:Nat}{l:List (Int×Int)}(h7:H x7=.st [.mp M])(hM:H M=.map ver (mI l))(hK:K (.c (.int .i64 ((lkI w l).getD 0))) H) :
  Qo prog Qcc [.c (.int .i64 w),.c (.ptr x7 0)] H K:=by
 have hokM:Qq0 H (.mp M)=True:=by simp only[Qq0,hM]
 have henM:Qaa H (.mp M)=mI l:=by simp only[Qaa,hM]
 refine Qb Qai Qajy ?_
 refine Qa ?_
 simp only[go_sem]
 refine Qa ?_
 simp only[go_sem,h7,hokM,henM,Qg8,Qab8]
 refine Qk ?_
 simp only[go_sem,Q0,Q5,Qw2,List.mem_singleton,forall_eq,RS.op]
 exact hK
theorem Qblz {f:Bool}{ps:List Int}{x7 M ver:Nat}{l:List (Int×Int)}(hpl:ps.length≤2 ^ 38)(h7:H x7=.st [.mp M])(hM:H M=.map ver (mI l))(hne:x7≠M)
  (hK:∀H',Upd H H' []→K (.c (.sl false 1 (Qd (ps.map fun w=>(lkI w l).getD 0)))) H') :
  Qo prog Qcs [.c (.sl f 1 (Qd ps)),.c (.fn Qcc [.ptr x7 0])] H K:=by
 obtain⟨av,hav⟩:∃av,(ps.map fun w=>(lkI w l).getD 0)=av:=⟨_,rfl⟩
 have havl:av.length=ps.length:=by rw[←hav,List.length_map]
 rw[hav]at hK
 refine Qs ?_
 refine Qb Qai Qyw ?_
 have kn:=Kn.start2 h7 (by nofun) hM (by nofun) hne
 refine Qa ?_
 simp only[go_sem]
 refine Qa ?_
 simp only[go_sem]
 refine Q3 ?_
 refine Qa ?_
 simp only[go_sem,Qc]
 try intro _
 refine Qh (Qe (Qx (fun m e1 H1=>∃(i:Nat) (t:C) (Lg:List (Nat×Obj)),m=ps.length-i∧i≤ps.length∧Gr Lg 1 (Qd (av.take i)) t∧Kn H H1 [(x7,.st [.mp M]),(M,.map ver (mI l))] ([]++Lg)∧
  lk 1 e1=.c (.fn Qcc [.ptr x7 0])∧lk 5 e1=.c t∧lk 8 e1=.c (.sl f 1 (Qd ps))∧lk 9 e1=.c (.int .i64 ps.length)∧lk 10 e1=.c (.int .i64 i)) ps.length ?_ ?_))
 ·exact⟨0,_,[],by omega,by omega,.nil 1,kn,rfl,rfl,rfl,rfl,rfl⟩
 ·clear kn
  rintro m e1 H1 ⟨i,t,Lg,hm,hi,hgr,kn,l1,l5,l8,l9,l10⟩
  have htw:=hgr.isOw
  refine Qa ?_
  simp only[go_sem,l1,l5,l8,l9,l10,htw]
  refine Qh (Qf rfl ?_ ?_)
  ·intro hc
   have hlt:i<ps.length:=by simpa using hc
   obtain⟨w,hw⟩:∃w,ps[i]=w:=⟨_,rfl⟩
   have hgd:ps.getD i 0=w:=by simp[List.getD_eq_getElem?_getD,hlt,hw]
   have hia:i<av.length:=by omega
   have hva:av[i]=(lkI w l).getD 0:=by subst hav;rw[List.getElem_map,hw]
   have htk:av.take (i+1)=av.take i++[(lkI w l).getD 0]:=by rw[List.take_succ_eq_append_getElem hia,hva]
   refine Qi ?_
   try simp only[go_sem]
   refine Qh (Qe ?_)
   refine Qa ?_
   simp only[go_sem,l1,l5,l8,l9,l10,htw,hlt,Qc,Qt _ _ hlt,hgd]
   refine Qv ?_
   simp only[go_sem,htw]
   refine Qbbo (kn.e 0 rfl) (kn.e 1 rfl) ?_
   simp only[go_sem,Qel,htw]
   refine kn.growR (new:=Qd [(lkI w l).getD 0]) hgr (.mk' _ _ _ _) (Qr _) (by simp only[Qc,List.length_take,LIM,List.length_cons,List.length_nil];omega) fun t2 Lg2 H5 hgr2 ht2 kn=>?_
   simp only[go_sem,Qek,ht2]
   refine Qv ?_
   simp only[go_sem,ht2]
   refine⟨Qq (by omega) (by omega),?_⟩
   show ∃m,_
   refine⟨ps.length-(i+1),by omega,i+1,t2,Lg2,rfl,by omega,?_,kn,rfl,rfl,rfl,rfl,rfl⟩
   rw[htk,Qb5];exact hgr2
  ·intro hc
   have hge:ps.length≤i:=by simpa using hc
   rw[List.take_of_length_le (by omega)]at hgr
   refine Qw ?_
   simp only[go_sem,X.next]
   refine Qa ?_
   simp only[go_sem,l5,htw]
   refine Qk ?_
   simp only[go_sem,Q0,Q5,Qh5,List.mem_singleton,forall_eq,RS.op,htw]
   exact⟨_,.c _ _ (hgr.frz kn (Qr _)),hK _ ((kn.fin.drop2 hM).drop1 h7)⟩
def stlP (nx:Nat→List Int)(N:Nat)(g:Nat→PhiD→Int→Int)(j:Nat)(p:PhiD):PhiD:=⟨p.to,(Q1 nx (j:Int) N).map (g j p)⟩
def stlY (nx:Nat→List Int)(N:Nat)(g:Nat→PhiD→Int→Int)(j:Nat)(y:BlkD):BlkD:=⟨y.phis.map (stlP nx N g j),y.ins,y.jump,y.on,y.next⟩
variable {nx:Nat→List Int}{N:Nat}{g:Nat→PhiD→Int→Int}{Y:Nat→BlkD}
structure StS (nx:Nat→List Int)(N:Nat)(g:Nat→PhiD→Int→Int)(Y:Nat→BlkD)(b:Nat)(ks:List KBlk):Prop where
 n:ks.length=N
 y:∀j (h:j<ks.length),ks[j].y=if j<b then stlY nx N g j (Y j)else Y j
 ok:∀k∈ks,k.ok
theorem StS.step {b:Nat}{ks:List KBlk}(hS:StS nx N g Y b ks)(hb:b<ks.length){ph:List PhiD}{pl:List (Nat×Obj)}(h2:ph=(Y b).phis.map (stlP nx N g b))(hg:Gr pl 2 (Q2 ph) ks[b].pc) :
  StS nx N g Y (b+1) (ks.set b ⟨⟨ph,ks[b].y.ins,ks[b].y.jump,ks[b].y.on,ks[b].y.next⟩,ks[b].pc,pl⟩):=by
 refine⟨by rw[List.length_set];exact hS.n,fun j h=>?_,fun w hw=>?_⟩
 ·have h':j<ks.length:=by simpa using h
  rw[List.getElem_set]
  split
  ·rename_i e;subst e
   have:=hS.y b hb
   rw[if_neg (Nat.lt_irrefl b)]at this
   rw[if_pos (Nat.lt_succ_self b),this,h2];rfl
  ·rename_i e
   rw[hS.y j h']
   by_cases hj:j<b
   ·rw[if_pos hj,if_pos (by omega)]
   ·rw[if_neg hj,if_neg (by omega)]
 ·rcases List.mem_or_eq_of_mem_set hw with h|rfl
  ·exact hS.ok w h
  ·exact hg
structure PTel (nx:Nat→List Int)(N:Nat)(g:Nat→PhiD→Int→Int)(Y:Nat→BlkD)(ss:List PSl):Prop where
 ml:∀r (h:r<ss.length),ss[r].ms.length=(Y r).phis.length
 f:∀r (h:r<ss.length) i (h1:i<ss[r].ms.length) (h2:i<(Y r).phis.length),∀w∈Q1 nx (r:Int) N,(lkI w (ss[r].ms[i]).l).getD 0=g r (Y r).phis[i] w
 ok:∀s∈ss,s.ok
theorem PTel.of {G:Nat→PhiD→List (Int×Int)}{ss:List PSl}(h:PInv (fun j=>(Y j).phis.map (G j)) ss)(hg:∀j p w,g j p w=(lkI w (G j p)).getD 0):PTel nx N g Y ss:=
 ⟨fun r hr=>by have:=congrArg List.length (h.f r hr);simpa using this,fun r hr i h1 h2 w _=>by
  have e:(ss[r].ms.map PMap.l)[i]? = some (ss[r].ms[i]).l:=by simp[h1]
  rw[h.f r hr]at e
  simp only[List.getElem?_map,List.getElem?_eq_getElem h2,Option.map_some,Option.some.injEq]at e
  rw[←e,hg],h.ok⟩
set_option maxHeartbeats 8000000 in
theorem Qbjq {x zb o:Nat}{P G:Int}{ks0:List KBlk}{ss:List PSl}{R:List (Nat×Obj)}(hN:N≤100000)(hk:StS nx N g Y 0 ks0)(hnx:∀j,j<N→(Y j).next=nx j)(hpl:∀j,j<N→(Y j).phis.length≤100000)
  (hsl:ss.length=N) (hs:PTel nx N g Y ss)
  (kn:Kn H0 H E ([(x,.st [.int .i64 P,.int .i64 G,.vsl zb 5 0 N]),(zb,.vec 5 (ks0.map KBlk.row)),(o,.vec 1 (ss.map PSl.row))]++(ks0.flatMap KBlk.pl++(psL ss++R))))
  (hK:∀ks H',StS nx N g Y N ks→ks.map KBlk.row=ks0.map KBlk.row→Kn H0 H' E ([(x,.st [.int .i64 P,.int .i64 G,.vsl zb 5 0 N]),(zb,.vec 5 (ks0.map KBlk.row)),(o,.vec 1 (ss.map PSl.row))]++(ks.flatMap KBlk.pl++(psL ss++R)))→K (.tup []) H') :
  Qo prog Qqp [.c (.ptr x 0),.c (.vsl o 1 0 N)] H K:=by
 obtain⟨X0,hX0⟩:∃X0,X0=Obj.st [.int .i64 P,.int .i64 G,.vsl zb 5 0 N]:=⟨_,rfl⟩
 obtain⟨RW,hRW⟩:∃RW,ks0.map KBlk.row=RW:=⟨_,rfl⟩
 obtain⟨SW,hSW⟩:∃SW,ss.map PSl.row=SW:=⟨_,rfl⟩
 have hRWl:RW.length=N:=by rw[←hRW,List.length_map,hk.n]
 have hRWt:RW.take N=RW:=List.take_of_length_le (by omega)
 have hSWl:SW.length=N:=by rw[←hSW,List.length_map,hsl]
 have hSWt:SW.take N=SW:=List.take_of_length_le (by omega)
 rw[hRW,hSW,←hX0]at kn
 rw[hRW,hSW,←hX0]at hK
 have hRWno:∀r∈RW,Go.AE.noOw r=true:=fun r hr=>by
  rw[←hRW]at hr
  obtain⟨k,hk2,rfl⟩:=List.mem_map.1 hr
  exact KBlk.noOw (hk.ok k hk2)
 have hRWx:∀j,j<RW.length→∃a1 a2 a3 a4 fl,RW.getD j []=[a1,a2,a3,a4,.sl fl 1 (Qd (nx j))]:=fun j hj=>by
  have hj':j<ks0.length:=by rw[hk.n];omega
  have hy:=hk.y j hj'
  rw[if_neg (Nat.not_lt_zero j)]at hy
  refine⟨ks0[j].pc,.sl false 4 (Qav ks0[j].y.ins),.int .i64 ks0[j].y.jump,.int .i64 ks0[j].y.on,false,?_⟩
  rw[←hRW,List.getD_eq_getElem?_getD]
  simp only[List.getElem?_map,List.getElem?_eq_getElem hj',Option.map_some,Option.getD_some]
  rw[←hnx j (by omega),←hy]
  exact KBlk.row_eq _
 refine Qb Qai Qa0t ?_
 have hx:=kn.l 0 rfl
 rw[hX0]at hx
 have hzb:=kn.l 1 rfl
 refine Qa ?_
 simp only[go_sem,hx,hzb,hRWl,Nat.zero_add,Nat.le_refl]
 try intro _
 refine Qe (Qx (fun m e1 H1=>∃(b:Nat) (ks:List KBlk),m=N-b∧b≤N∧StS nx N g Y b ks∧ks.map KBlk.row=RW∧
  Kn H0 H1 E ([(x,X0),(zb,.vec 5 RW),(o,.vec 1 SW)]++(ks.flatMap KBlk.pl++(psL ss++R)))∧
  lk 0 e1=.c (.ptr x 0)∧lk 1 e1=.c (.vsl o 1 0 N)∧lk 12 e1=.c (.int .i64 N)∧lk 13 e1=.c (.int .i64 b)) N ?_ ?_)
 ·exact⟨0,ks0,by omega,by omega,hk,hRW,kn,rfl,rfl,rfl,rfl⟩
 ·clear kn hx hzb
  rintro m e1 H1 ⟨b,ks,hm,hb,hS,hkr,kn,l0,l1,l12,l13⟩
  refine Qa ?_
  simp only[go_sem,l0,l1,l12,l13]
  refine Qh (Qf rfl ?_ ?_)
  ·intro hc
   have hlt:b<N:=by simpa using hc
   have hkb:b<ks.length:=by rw[hS.n];exact hlt
   obtain⟨kb,hkbe⟩:∃kb,ks[b]=kb:=⟨_,rfl⟩
   have hkbo:Gr kb.pl 2 (Q2 kb.y.phis) kb.pc:=by rw[←hkbe];exact hS.ok _ (List.getElem_mem hkb)
   have hkby:kb.y=Y b:=by have:=hS.y b hkb;rw[if_neg (Nat.lt_irrefl b),hkbe]at this;exact this
   have hsb:b<ss.length:=by omega
   obtain⟨s,hse⟩:∃s,ss[b]=s:=⟨_,rfl⟩
   have hsm:s∈ss:=by rw[←hse];exact List.getElem_mem hsb
   have hsok:=hs.ok s hsm
   have hsml:s.ms.length=(Y b).phis.length:=by have:=hs.ml b hsb;rw[hse]at this;exact this
   have hsF:∀i (h1:i<s.ms.length) (h2:i<(Y b).phis.length),∀w∈Q1 nx (b:Int) N,(lkI w (s.ms[i]).l).getD 0=g b (Y b).phis[i] w:=by
    have:=hs.f b hsb
    rw[hse]at this
    exact this
   have hRWg:RW.getD b []=[kb.pc,.sl false 4 (Qav kb.y.ins),.int .i64 kb.y.jump,.int .i64 kb.y.on,.sl false 1 (Qd kb.y.next)]:=by
    rw[←hkr,List.getD_eq_getElem?_getD]
    simp only[List.getElem?_map,List.getElem?_eq_getElem hkb,hkbe,Option.map_some,Option.getD_some]
    exact kb.row_eq
   have hSWg:SW.getD b []=[s.c]:=by
    rw[←hSW,List.getD_eq_getElem?_getD]
    simp only[List.getElem?_map,List.getElem?_eq_getElem hsb,hse,Option.map_some,Option.getD_some]
    rfl
   have hsw:=Gr.isOw hsok
   obtain⟨KR,hKR⟩:∃KR,(ks.eraseIdx b).flatMap KBlk.pl=KR:=⟨_,rfl⟩
   have hflat:(ks.flatMap KBlk.pl).Perm (kb.pl++KR):=by rw[←hKR,←hkbe];exact Qci hkb
   refine Qi ?_
   try simp only[go_sem]
   refine Qh (Qe ?_)
   refine Qa ?_
   simp only[go_sem,l0,l1,l12,l13]
   have hx:=kn.l 0 rfl
   rw[hX0]at hx
   have hzb:=kn.l 1 rfl
   refine Qa ?_
   simp only[go_sem,hx]
   refine Qab0 (nx:=nx) ⟨vslc hzb hRWl.symm,rfl,hRWno,hRWx⟩ fun fl2 H2 hu=>?_
   have kn:=kn.call0 hu
   have hpi:Qq1 nx (b:Int) RW.length=Q1 nx (b:Int) N:=by rw[hRWl,Qq1,if_pos (by simp only[Bool.and_eq_true,decide_eq_true_eq];omega)]
   rw[hpi]
   obtain⟨ps,hps⟩:∃ps,Q1 nx (b:Int) N=ps:=⟨_,rfl⟩
   have hpsl:ps.length≤N:=by rw[←hps];exact Qb0 _ _ _
   rw[hps]
   simp only[go_sem,Qxx]
   have ho:=kn.l 2 rfl
   have hgmem:∀p∈s.g,p∈psL ss:=fun p hp=>List.mem_flatMap.2 ⟨s,hsm,List.mem_append_right _ hp⟩
   have hsc:okSl H2 s.c=True∧lenC s.c=s.ms.length:=by
    refine⟨eq_true ?_,by have:=Gr.lenC hsok;rw[Qb2]at this;exact this⟩
    rcases hsok with ⟨h1,_,_⟩|⟨z,h1,h2⟩
    ·rw[h1];trivial
    ·have hz:=(kn.get (z,.vec 1 (Qec s.ms)) (List.mem_append_right _ (List.mem_append_right _ (List.mem_append_right _ (List.mem_append_left _ (hgmem _ (by rw[h2];simp))))))).1
     rw[h1];simp only[okSl,hz,Nat.zero_add,Nat.le_refl,and_self]
   refine Qa ?_
   simp only[go_sem,ho,hSWl,hSWt,hSWg,hlt,hsw,hsc.1,hsc.2,Nat.zero_add,Nat.le_refl]
   try intro _
   have kn:Kn H0 H2 E (([(x,X0),(zb,.vec 5 RW),(o,.vec 1 SW)]++(KR++(psL ss++R)))++kb.pl):=kn.perm (Qm fun f hf h0 hc hp=>by
    have:=hp _ _ hflat
    simp only[hf]at this⊢;omega)
   refine Qe (Qx (fun m e1 H1=>∃(i:Nat) (ph:List PhiD) (pl:List (Nat×Obj)),m=s.ms.length-i∧i≤s.ms.length∧ph=mix (stlP nx N g b) (Y b).phis i∧Gr pl 2 (Q2 ph) kb.pc∧
    Kn H0 H1 E (([(x,X0),(zb,.vec 5 RW),(o,.vec 1 SW)]++(KR++(psL ss++R)))++pl)∧
    lk 0 e1=.c (.ptr x 0)∧lk 1 e1=.c (.vsl o 1 0 N)∧lk 4 e1=.c (.int .i64 b)∧lk 5 e1=.c (.sl fl2 1 (Qd ps))∧lk 12 e1=.c (.int .i64 N)∧lk 13 e1=.c (.int .i64 b)∧lk 24 e1=.c s.c∧lk 25 e1=.c (.int .i64 s.ms.length)∧lk 26 e1=.c (.int .i64 i)) s.ms.length ?_ ?_)
   ·exact⟨0,kb.y.phis,kb.pl,by omega,by omega,by rw[Qaqz,hkby],hkbo,kn,rfl,rfl,rfl,rfl,rfl,rfl,rfl,rfl,rfl⟩
   ·clear kn hx hzb ho hsc l0 l1 l12 l13 hflat
    rintro m2 e2 H3 ⟨i,ph,pl,hm2,hi,hphe,hgr,kn,l0,l1,l4,l5,l12,l13,l24,l25,l26⟩
    have hphl:ph.length=(Y b).phis.length:=by rw[hphe,Qj1]
    refine Qa ?_
    simp only[go_sem,l0,l1,l4,l5,l12,l13,l24,l25,l26,hsw]
    refine Qh (Qf rfl ?_ ?_)
    ·intro hc2
     have hlt2:i<s.ms.length:=by simpa using hc2
     have hiY:i<(Y b).phis.length:=by omega
     have hYl:=hpl b hlt
     have hip:i<ph.length:=by omega
     obtain⟨zs,hzs,hsg⟩:∃z,s.c=.vsl z 1 0 s.ms.length∧s.g=[(z,.vec 1 (Qec s.ms))]:=by
      rcases hsok with ⟨_,h,_⟩|⟨z,h1,h2⟩
      ·have:=congrArg List.length h;rw[Qb2]at this;simp only[List.length_nil]at this;omega
      ·exact⟨z,by rw[h1,Qb2],h2⟩
     obtain⟨zp,hpc,hplz⟩:∃z,kb.pc=.vsl z 2 0 ph.length∧pl=[(z,.vec 2 (Q2 ph))]:=by
      rcases hgr with ⟨_,h,_⟩|⟨y,h1,h2⟩
      ·have:=congrArg List.length h;rw[Qy]at this;simp only[List.length_nil]at this;omega
      ·exact⟨y,by rw[h1,Qy],h2⟩
     rw[hpc]at hRWg
     rw[hplz]at kn
     obtain⟨pm,hpm⟩:∃pm,s.ms[i]=pm:=⟨_,rfl⟩
     obtain⟨p,hp⟩:∃p,(Y b).phis[i]=p:=⟨_,rfl⟩
     obtain⟨gl,hgl⟩:∃gl,pm.l=gl:=⟨_,rfl⟩
     have hpl2:ps.map (fun w=>(lkI w gl).getD 0)=ps.map (g b p):=List.map_congr_left fun w hw=>by
      have:=hsF i hlt2 hiY w (by rw[hps];exact hw)
      rw[hpm,hgl,hp]at this
      exact this
     have hphi:ph[i]=p:=by rw[←hp];subst hphe;exact Qbdr hiY hip
     have hmpg:(Qec s.ms).getD i []=[.mp pm.m]:=by rw[Qao8 _ _ hlt2,hpm]
     have hmpt:(Qec s.ms).take s.ms.length=Qec s.ms:=List.take_of_length_le (by rw[Qb2];omega)
     have hzsm:(zs,Obj.vec 1 (Qec s.ms))∈psL ss:=hgmem _ (by rw[hsg];simp)
     have hMm:(pm.m,Obj.map pm.ver (mI gl))∈psL ss:=List.mem_flatMap.2 ⟨s,hsm,List.mem_append_left _ (List.mem_flatMap.2 ⟨pm,by rw[←hpm];exact List.getElem_mem hlt2,by rw[PMap.lg,hgl];simp⟩)⟩
     have hzv:=(kn.get (zs,.vec 1 (Qec s.ms)) (by simp[hzsm])).1
     have hMv:=(kn.get (pm.m,.map pm.ver (mI gl)) (by simp[hMm])).1
     refine Qi ?_
     try simp only[go_sem]
     refine Qh (Qe ?_)
     refine Qa ?_
     simp only[go_sem,l0,l1,l4,l5,l12,l13,l24,l25,l26,hzs,hzv,Qb2,hmpt,hlt2,hmpg,Nat.zero_add,Nat.le_refl]
     intro x7 hx7 H4 h4
     have hne:x7≠pm.m:=fun e=>by rw[e,hMv]at hx7;simp at hx7
     have kn:Kn H0 H4 E ([(x7,.st [.mnil])]++(([(x,X0),(zb,.vec 5 RW),(o,.vec 1 SW)]++(KR++(psL ss++R)))++[(zp,.vec 2 (Q2 ph))])):=(kn.al hx7 h4).perm List.perm_append_comm
     have hx7:=kn.l 0 rfl
     simp only[go_sem,Qxy,hx7]
     intro H5 h5
     have kn:Kn H0 H5 E ([(x7,.st [.mp pm.m])]++(([(x,X0),(zb,.vec 5 RW),(o,.vec 1 SW)]++(KR++(psL ss++R)))++[(zp,.vec 2 (Q2 ph))])):=kn.stL 0 rfl h5
     have hx7:=kn.l 0 rfl
     have hx:=kn.l 1 rfl
     rw[hX0]at hx
     have hzb:=kn.l 2 rfl
     have hMv:=(kn.get (pm.m,.map pm.ver (mI gl)) (by simp[hMm])).1
     have hzp:=(kn.get (zp,.vec 2 (Q2 ph)) (by simp)).1
     have hptk:(Q2 ph).take ph.length=Q2 ph:=List.take_of_length_le (by rw[Qy];omega)
     have hpg:(Q2 ph).getD i []=[.int .i64 p.to,.sl false 1 (Qd p.args)]:=by rw[Qa3 _ _ hip,hphi];rfl
     refine Qbt ?_
     simp only[go_sem,hx,hzb,hRWl,hRWt,hRWg,hlt,hzp,Qy,hptk,hip,Nat.zero_add,Nat.le_refl]
     refine Qblz (by omega) hx7 hMv hne fun H6 hu=>?_
     have kn:=kn.call0 hu
     have hx:=kn.l 1 rfl
     rw[hX0]at hx
     have hzb:=kn.l 2 rfl
     have hzp:=(kn.get (zp,.vec 2 (Q2 ph)) (by simp)).1
     simp only[go_sem,Qxz,hx,hzb,hRWl,hRWt,hRWg,hlt,hzp,Qy,hptk,hip,hpg,Nat.zero_add,Nat.le_refl]
     intro H7 h7
     have hrow:(Q2 ph).set i [.int .i64 p.to,.sl false 1 (Qd (ps.map fun w=>(lkI w gl).getD 0))]=Q2 (mix (stlP nx N g b) (Y b).phis (i+1)):=by
      rw[hpl2,←Qa06 hiY,hp,stlP,hps,←hphe,Q2,Q2,List.map_set];rfl
     rw[hrow]at h7
     have kn:Kn H0 H7 E ((([(x,X0),(zb,.vec 5 RW),(o,.vec 1 SW)]++(KR++(psL ss++R)))++[(zp,.vec 2 (Q2 (mix (stlP nx N g b) (Y b).phis (i+1))))])++[(x7,.st [.mp pm.m])]):=
      ((kn.perm (L':=[(zp,.vec 2 (Q2 ph))]++([(x7,.st [.mp pm.m])]++([(x,X0),(zb,.vec 5 RW),(o,.vec 1 SW)]++(KR++(psL ss++R))))) (Qm fun f hf h0 hc hp=>by simp only[hf];omega)).stL 0 rfl h7).perm (Qm fun f hf h0 hc hp=>by
       show f ([(zp,_)]++([(x7,_)]++([(x,X0),(zb,.vec 5 RW),(o,.vec 1 SW)]++(KR++(psL ss++R)))))=_
       simp only[hf];omega)
     have kn:=kn.drop
     refine Qv ?_
     simp only[go_sem,l26]
     refine⟨Qq (by omega) (by omega),?_⟩
     show ∃m,_
     refine⟨s.ms.length-(i+1),by omega,i+1,_,_,rfl,by omega,rfl,?_,kn,rfl,rfl,rfl,rfl,rfl,rfl,by first|rfl|exact congrArg V.c hzs.symm,rfl,rfl⟩
     rw[hpc]
     exact .mk _ _ _ (by rw[Qy,Qj1,hphl])
    ·intro hc2
     have hie:s.ms.length≤i:=by simpa using hc2
     rw[Qa05 _ _ (by omega)]at hphe
     refine Qw ?_
     simp only[go_sem,X.next]
     have hy2:ks[b].y=Y b:=by rw[hkbe,hkby]
     obtain⟨ks2,hks2⟩:∃ks2,ks2=ks.set b ⟨⟨ph,ks[b].y.ins,ks[b].y.jump,ks[b].y.on,ks[b].y.next⟩,ks[b].pc,pl⟩:=⟨_,rfl⟩
     have hst:=hS.step hkb hphe (pl:=pl) (by rw[hkbe];exact hgr)
     have hrw:=PkS.rows (ks:=ks) (ph:=ph) (pl:=pl) hkb
     have h1:((ks.set b ⟨⟨ph,ks[b].y.ins,ks[b].y.jump,ks[b].y.on,ks[b].y.next⟩,ks[b].pc,pl⟩).flatMap KBlk.pl).Perm (pl++KR):=by
      have:=Qci (f:=KBlk.pl) (l:=ks.set b ⟨⟨ph,ks[b].y.ins,ks[b].y.jump,ks[b].y.on,ks[b].y.next⟩,ks[b].pc,pl⟩) (i:=b) (by rw[List.length_set];exact hkb)
      rw[List.getElem_set_self,List.eraseIdx_set_eq,hKR]at this
      exact this
     rw[←hks2]at hst hrw h1
     have kn:Kn H0 H3 E ([(x,X0),(zb,.vec 5 RW),(o,.vec 1 SW)]++(ks2.flatMap KBlk.pl++(psL ss++R))):=kn.perm (Qm fun f hf h0 hc hp=>by
      have:=hp _ _ h1
      simp only[hf]at this⊢;omega)
     refine Qv ?_
     simp only[go_sem,l0,l1,l12,l13]
     refine⟨Qq (by omega) (by omega),?_⟩
     show ∃m,_
     exact⟨N-(b+1),by omega,b+1,ks2,rfl,by omega,hst,hrw.trans hkr,kn,rfl,rfl,rfl,rfl⟩
  ·intro hc
   have hbe:b=N:=by have:N≤b:=(by simpa using hc);omega
   subst hbe
   refine Qw ?_
   simp only[go_sem,X.next,Q0,Q5,Qac6,List.not_mem_nil]
   exact⟨fun _=>trivial,hK ks _ hS hkr kn⟩
end Go.AE.Y

namespace Go.AE.Y
attribute [local go_sem] cond_true cond_false Bool.not_true Bool.not_false
open Go.Proofs.Tryz
variable {H H0 F:Heap}{K:V→Heap→Prop}{E L B pl:List (Nat×Obj)}
theorem Qap1 {y:BlkD}(hy:y.cl)(hK:∀pc N nc nl H',Gr N 2 (Q2 y.phis) pc→Gr nl 1 (Qd y.next) nc→Kn H H' [] (N++nl)→K (.ag [pc,.sl false 4 (Qav y.ins),.int .i64 y.jump,.int .i64 y.on,nc]) H'):Qo prog Qf4 [.ag y.cells] H K:=by
 refine Qcw ?_
 refine Qb Qai Q8u ?_
 refine Qa ?_
 simp only[go_sem,BlkD.cells]
 intro x1 hx1 H0 h0
 have kn:=(Kn.start0 H).al hx1 h0
 intro x2 hx2 H1 h1
 have kn:=kn.al hx2 h1
 have hx1:=kn.l 0 rfl
 refine Qa ?_
 simp only[go_sem,hx1]
 refine Qbik hy.p hy.pa kn fun pc N H2 hgp kn=>?_
 have hpw:=hgp.isOw
 have hx1:=kn.l 0 rfl
 simp only[go_sem,Qh8,hpw,hx1]
 intro H3 h3
 have kn:=kn.stL 0 rfl h3
 have hx1:=kn.l 0 rfl
 refine Qa ?_
 simp only[go_sem,hx1,hpw]
 refine Qbij hy.i hy.ia fun H4 hu=>?_
 have kn:=kn.call0 hu
 have hx1:=kn.l 0 rfl
 simp only[go_sem,Qh9,hpw,hx1]
 intro H5 h5
 have kn:=kn.stL 0 rfl h5
 have hx1:=kn.l 0 rfl
 refine Qa ?_
 simp only[go_sem,hx1,hpw]
 refine Qapz kn hy.n fun t Lg H6 hgr how kn=>?_
 have hx1:=kn.l 0 rfl
 simp only[go_sem,Qia,hpw,how,hx1]
 intro H7 h7
 have kn:=kn.stL 0 rfl h7
 have hx1:=kn.l 0 rfl
 have hx2:=kn.l 1 rfl
 refine Qa ?_
 simp only[go_sem,hx1,hx2,hpw,how]
 intro H8 h8
 have kn:Kn H H8 [] ([(x1,.st [pc,.sl false 4 (Qav y.ins),.int .i64 y.jump,.int .i64 y.on,t]),(x2,.st [pc,.sl false 4 (Qav y.ins),.int .i64 y.jump,.int .i64 y.on,t])]++(N++Lg)):=
  (kn.stL 1 rfl h8).perm (Qm fun f hf h0 hc hp=>by
   have e1:=hc (x1,.st [pc,.sl false 4 (Qav y.ins),.int .i64 y.jump,.int .i64 y.on,t]) ([(x2,.st [pc,.sl false 4 (Qav y.ins),.int .i64 y.jump,.int .i64 y.on,t])]++N++Lg)
   have e2:=hc (x1,.st [pc,.sl false 4 (Qav y.ins),.int .i64 y.jump,.int .i64 y.on,t]) [(x2,.st [pc,.sl false 4 (Qav y.ins),.int .i64 y.jump,.int .i64 y.on,t])]
   show f ((x1,_)::([(x2,_)]++N++Lg))=_
   rw[e1]
   simp only[hf,e2];omega)
 have hx2:=kn.l 1 rfl
 refine Qk ?_
 simp only[go_sem,Q0,Q5,Qnp,List.mem_singleton,forall_eq,RS.op,hpw,how,hx2]
 exact⟨unx H (N++Lg),.ag [pc,.sl false 4 (Qav y.ins),.int .i64 y.jump,.int .i64 y.on,t],H8.frz (unx H (N++Lg)),FrzL.ag (.cons (.same _ hpw) (.cons (Qg rfl) (.cons (Qg rfl) (.cons (Qg rfl) (.cons (.same _ how) .nil))))),Qd4 _ _,hK pc N t Lg _ hgp hgr kn.finK⟩
structure NBlk where
 y:BlkD
 pc:C
 pl:List (Nat×Obj)
 nc:C
 nl:List (Nat×Obj)
def NBlk.row (b:NBlk):List C:=[b.pc,.sl false 4 (Qav b.y.ins),.int .i64 b.y.jump,.int .i64 b.y.on,b.nc]
def NBlk.ok (b:NBlk):Prop:=Gr b.pl 2 (Q2 b.y.phis) b.pc∧Gr b.nl 1 (Qd b.y.next) b.nc
def NBlk.lg (b:NBlk):List (Nat×Obj):=b.pl++b.nl
theorem NBlk.noOw {b:NBlk}(h:b.ok):Go.AE.noOw b.row=true:=by
 have h1:=h.1.isOw
 have h2:=h.2.isOw
 simp only[Go.AE.noOw,NBlk.row,List.all_cons,List.all_nil,h1,h2];rfl
end Go.AE.Y

namespace Go.AE.Y
open Go.Proofs.Tryz
def Qadw:List Item:=
  .f (some 3) none (.mv (.t 7))::
  []
def Qaj8:SC:=(.cond (.t 9) (.seq (.reg (
  .f (some 2) none (.mv (.k (.c (.sl true 1 []))))::
  []) [2]) .ret) .skip)
def Qadx:List Item:=
  .f (some 4) none (.mv (.t 13))::
  []
def Qady:List Item:=
  .f (some 34) none (.iad 1 (.t 29) (.t 30))::
  .e none none (.sto 1 (.t 34) (.t 33))::
  []
def Qaj9:SC:=(.cond (.t 28) (.reg (
  .f (some 29) none (.mv (.t 4))::
  .f (some 30) none (.mv (.t 5))::
  .f (some 31) none (.mv (.t 3))::
  .f (some 32) none (.mv (.t 5))::
  .e (some 33) none (.call Qacb [.t 31,.t 32])::
  Qady) [3,4,15,16]) .skip)
def Qaka:SC:=(.seq (.reg (
  .f (some 22) none (.mv (.t 3))::
  .f (some 23) none (.nck (.t 22))::
  .f (some 24) none (.fad 4 (.t 23))::
  .f (some 25) none (.ld 1 false (.t 24))::
  .f (some 26) none (.mv (.t 5))::
  .f (some 27) none (.iad 1 (.t 25) (.t 26))::
  .f (some 28) none (.ld 1 false (.t 27))::
  []) [3,4,5,15,16,28]) Qaj9)
def Qakb:SC:=(.seq (.reg (
  .f (some 19) none (.mv (.t 4))::
  .f (some 20) none (.mv (.t 5))::
  .f (some 21) none (.iad 1 (.t 19) (.t 20))::
  .e none none (.sto 1 (.t 21) (.k (.c (.int .i64 (-1)))))::
  []) [3,4,5,15,16]) Qaka)
def Qakc:SC:=(.reg (
  .f (some 35) none (.bin 0 .add (.t 16) (.k (.c (.int .i64 1))))::
  .f (some 16) none (.mv (.t 35))::
  []) [3,4,15,16])
def Qakd:SC:=(.seq (.block 1 (.seq (.reg (
  .f (some 18) none (.mv (.t 16))::
  .f (some 5) none (.mv (.t 18))::
  []) [3,4,5,15,16]) Qakb)) Qakc)
def Qadz:SC:=(.seq (.reg (
  .f (some 17) none (.bin 0 .lss (.t 16) (.t 15))::
  []) [3,4,15,16,17]) (.seq (.cond (.t 17) .skip (.exit 0)) Qakd))
def Qadr:SC:=(.seq (.reg (
  .f (some 36) none (.mv (.t 4))::
  .f (some 2) none (.mv (.t 36))::
  []) [2]) .ret)
def Qads:SC:=(.seq (.seq (.reg (
  .f (some 14) none (.mv (.t 4))::
  .f (some 15) none (.len (.t 14))::
  .f (some 16) none (.mv (.k (.c (.int .i64 0))))::
  []) [3,4,15,16]) (.block 0 (.loop Qadz))) Qadr)
def Qadt:SC:=(.seq (.reg (
  .f (some 10) none (.fad 2 (.t 1))::
  .f (some 11) none (.ld 1 false (.t 10))::
  .f (some 12) none (.len (.t 11))::
  .e (some 13) none (.mks 1 [.int .i64 0] (.t 12))::
  Qadx) [3,4]) Qads)
def Qadu:SC:=(.seq (.seq (.reg (
  .f (some 8) none (.mv (.t 3))::
  .f (some 9) none (.bin 2 .eql (.t 8) (.k (.c .pnil)))::
  []) [1,3,9]) Qaj8) Qadt)
def Qadv:SC:=(.seq (.reg (
  .f (some 6) none (.ld 3 true (.t 1))::
  .e (some 7) none (.call Qat9 [.t 6])::
  Qadw) [1,3]) Qadu)
def s_im_IdomsOf:SC:=(.seq (.reg (
  .f (some 1) none (.box (.t 0))::
  .f (some 2) none (.mv (.k (.c (.sl true 1 []))))::
  []) [1]) Qadv)
def r_im_IdomsOf:List RS:=[.tmp 2]
def Q5d:List Item:=
  .f (some 4) none (.mv (.t 7))::
  []
def Q9u:SC:=(.seq (.reg (
  .f (some 5) none (.ld 1 false (.t 2))::
  .f (some 6) none (.mkf Q0l [.t 3,.t 2])::
  .e (some 7) none (.call Q0m [.t 5,.t 6])::
  Q5d) [4]) .ret)
def s_im_doms_idom:SC:=(.seq (.reg (
  .f (some 2) none (.box (.t 0))::
  .f (some 3) none (.box (.t 1))::
  .f (some 4) none (.mv (.k (.c (.int .i64 0))))::
  []) [2,3]) Q9u)
def r_im_doms_idom:List RS:=[.tmp 4]
def Qu8:List Item:=
  .f (some 26) none (.pick (.t 22) (.t 25) (.k (.c (.bool false))))::
  .f (some 27) none (.mv (.t 26))::
  .f (some 28) (some (27,true)) (.mv (.t 5))::
  .f (some 29) (some (27,true)) (.bin 0 .lss (.t 28) (.k (.c (.int .i64 0))))::
  .f (some 30) (some (27,true)) (.mv (.t 29))::
  .f (some 31) (some (30,false)) (.mv (.t 0))::
  .f (some 32) (some (30,false)) (.nck (.t 31))::
  .f (some 33) (some (30,false)) (.fad 3 (.t 32))::
  .f (some 34) (some (30,false)) (.ld 1 false (.t 33))::
  .f (some 35) (some (30,false)) (.mv (.t 5))::
  .f (some 36) (some (30,false)) (.iad 1 (.t 34) (.t 35))::
  .f (some 37) (some (30,false)) (.ld 1 false (.t 36))::
  .f (some 38) (some (30,false)) (.mv (.t 6))::
  .f (some 39) (some (30,false)) (.iad 1 (.t 37) (.t 38))::
  .f (some 40) (some (30,false)) (.ld 1 false (.t 39))::
  .f (some 41) (some (27,true)) (.pick (.t 30) (.k (.c (.bool true))) (.t 40))::
  .f (some 42) none (.pick (.t 27) (.t 41) (.k (.c (.bool false))))::
  []
def Qy6:SC:=(.cond (.t 42) (.reg (
  .f (some 43) none (.mv (.t 6))::
  .f (some 5) none (.mv (.t 43))::
  []) [0,1,5,11,12]) .skip)
def Qy7:SC:=(.seq (.reg (
  .f (some 15) none (.mv (.t 0))::
  .f (some 16) none (.nck (.t 15))::
  .f (some 17) none (.fad 4 (.t 16))::
  .f (some 18) none (.ld 1 false (.t 17))::
  .f (some 19) none (.mv (.t 6))::
  .f (some 20) none (.iad 1 (.t 18) (.t 19))::
  .f (some 21) none (.ld 1 false (.t 20))::
  .f (some 22) none (.mv (.t 21))::
  .f (some 23) (some (22,true)) (.mv (.t 1))::
  .f (some 24) (some (22,true)) (.mv (.t 6))::
  .e (some 25) (some (22,true)) (.callv (.t 23) [.t 24])::
  Qu8) [0,1,5,6,11,12,42]) Qy6)
def Qy8:SC:=(.reg (
  .f (some 44) none (.bin 0 .add (.t 12) (.k (.c (.int .i64 1))))::
  .f (some 12) none (.mv (.t 44))::
  []) [0,1,5,11,12])
def Qy9:SC:=(.seq (.block 1 (.seq (.reg (
  .f (some 14) none (.mv (.t 12))::
  .f (some 6) none (.mv (.t 14))::
  []) [0,1,5,6,11,12]) Qy7)) Qy8)
def Qu9:SC:=(.seq (.reg (
  .f (some 13) none (.bin 0 .lss (.t 12) (.t 11))::
  []) [0,1,5,11,12,13]) (.seq (.cond (.t 13) .skip (.exit 0)) Qy9))
def Qza:SC:=(.seq (.reg (
  .f (some 45) none (.mv (.t 5))::
  .f (some 4) none (.mv (.t 45))::
  []) [4]) .ret)
def Qzb:SC:=(.seq (.seq (.reg (
  .f (some 7) none (.mv (.t 0))::
  .f (some 8) none (.nck (.t 7))::
  .f (some 9) none (.fad 3 (.t 8))::
  .f (some 10) none (.ld 1 false (.t 9))::
  .f (some 11) none (.len (.t 10))::
  .f (some 12) none (.mv (.k (.c (.int .i64 0))))::
  []) [0,1,5,11,12]) (.block 0 (.loop Qu9))) Qza)
def Qzc:SC:=(.seq (.reg (
  .f (some 5) none (.mv (.k (.c (.int .i64 (-1)))))::
  []) [0,1,5]) Qzb)
def s_im_doms_nearest:SC:=(.seq (.reg (
  .f (some 4) none (.mv (.k (.c (.int .i64 0))))::
  []) [0,1]) Qzc)
def r_im_doms_nearest:List RS:=[.tmp 4]
def Qy5:SC:=(.seq (.dreg 16 [0,1,2,3,4,5,6,7,8,9,10,11,12,13,14,15] (
  .f (some 5) none (.mv (.t 0))::
  .f (some 6) none (.ld 1 false (.t 1))::
  .f (some 7) none (.bin 0 .neq (.t 5) (.t 6))::
  .f (some 8) none (.mv (.t 7))::
  .f (some 9) (some (8,true)) (.ld 1 false (.t 2))::
  .f (some 10) (some (8,true)) (.nck (.t 9))::
  .f (some 11) (some (8,true)) (.fad 3 (.t 10))::
  .f (some 12) (some (8,true)) (.ld 1 false (.t 11))::
  .f (some 13) (some (8,true)) (.mv (.t 0))::
  .f (some 14) (some (8,true)) (.iad 1 (.t 12) (.t 13))::
  .f (some 15) (some (8,true)) (.ld 1 false (.t 14))::
  .f (some 16) (some (8,true)) (.ld 1 false (.t 1))::
  .f (some 17) (some (8,true)) (.iad 1 (.t 15) (.t 16))::
  .f (some 18) (some (8,true)) (.ld 1 false (.t 17))::
  .f (some 19) none (.pick (.t 8) (.t 18) (.k (.c (.bool false))))::
  .f (some 4) none (.mv (.t 19))::
  []) [4]) .ret)
def s_im_doms_idom_c1:SC:=(.seq (.reg (
  .f (some 4) none (.mv (.k (.c (.bool false))))::
  []) [0,1,2]) Qy5)
def r_im_doms_idom_c1:List RS:=[.tmp 4]
def Q5l:SC:=(.cond (.t 17) (.seq (.reg (
  .f (some 2) none (.mv (.k (.c (.bool true))))::
  []) [2]) .ret) .skip)
def Q3e:List Item:=
  .e none none (.sto 1 (.t 3) (.t 19))::
  []
def Q3f:List Item:=
  .e (some 3) none (.alloc [.sl true 3 []])::
  Q3e
def Q3g:List Item:=
  .f (some 5) none (.mv (.t 24))::
  []
def Q3h:List Item:=
  .e none none (.sto 1 (.t 4) (.t 23))::
  Q3g
def Q3i:List Item:=
  .f (some 20) none (.mv (.t 22))::
  .f (some 23) none (.ext (.t 20) 0)::
  .f (some 24) none (.ext (.t 20) 1)::
  .e (some 4) none (.alloc [.sl true 3 []])::
  Q3h
def Q3j:List Item:=
  .f (some 7) none (.mv (.t 29))::
  []
def Q3k:List Item:=
  .e none none (.sto 1 (.t 6) (.t 28))::
  Q3j
def Q3l:List Item:=
  .f (some 25) none (.mv (.t 27))::
  .f (some 28) none (.ext (.t 25) 0)::
  .f (some 29) none (.ext (.t 25) 1)::
  .e (some 6) none (.alloc [.sl true 3 []])::
  Q3k
def Q3m:List Item:=
  .f (some 37) (some (33,false)) (.not (.t 36))::
  .f (some 38) none (.pick (.t 33) (.k (.c (.bool true))) (.t 37))::
  .f (some 39) none (.mv (.t 38))::
  .f (some 40) (some (39,false)) (.mv (.t 5))::
  .f (some 41) (some (39,false)) (.not (.t 40))::
  .f (some 42) none (.pick (.t 39) (.k (.c (.bool true))) (.t 41))::
  []
def Qzn:List Item:=
  .f (some 50) none (.pick (.t 46) (.t 49) (.k (.c (.bool false))))::
  .f (some 2) none (.mv (.t 50))::
  []
def Q2x:SC:=(.cond (.t 42) (.seq (.reg (
  .f (some 43) none (.mv (.t 5))::
  .f (some 44) none (.mv (.t 7))::
  .f (some 45) none (.bin 1 .eql (.t 43) (.t 44))::
  .f (some 46) none (.mv (.t 45))::
  .f (some 47) (some (46,true)) (.ld 1 true (.t 4))::
  .f (some 48) (some (46,true)) (.ld 1 true (.t 6))::
  .e (some 49) (some (46,true)) (.call Qa5 [.t 47,.t 48])::
  Qzn) [2]) .ret) .skip)
def Qzo:List Item:=
  .chk 61 none (.ld 1 false (.t 60))::
  .chk 63 none (.iad 3 (.t 61) (.t 62))::
  .chk 64 none (.ld 3 true (.t 63))::
  .e none none (.sto 3 (.t 10) (.t 64))::
  []
def Qzp:List Item:=
  .chk 56 none (.ld 1 false (.t 55))::
  .chk 58 none (.iad 3 (.t 56) (.t 57))::
  .chk 59 none (.ld 3 true (.t 58))::
  .chk 61 none (.ld 1 false (.t 60))::
  .chk 63 none (.iad 3 (.t 61) (.t 62))::
  .chk 64 none (.ld 3 true (.t 63))::
  .e none none (.sto 3 (.t 9) (.t 59))::
  Qzo
def Qzq:List Item:=
  .chk 56 none (.ld 1 false (.t 55))::
  .chk 58 none (.iad 3 (.t 56) (.t 57))::
  .chk 59 none (.ld 3 true (.t 58))::
  .chk 61 none (.ld 1 false (.t 60))::
  .chk 63 none (.iad 3 (.t 61) (.t 62))::
  .chk 64 none (.ld 3 true (.t 63))::
  .e (some 10) none (.alloc [.int .i64 0,.int .i64 0,.sl true 5 []])::
  Qzp
def Qzr:List Item:=
  .f (some 11) none (.mv (.t 66))::
  .f (some 12) none (.mv (.t 68))::
  []
def Qzs:List Item:=
  .chk 67 none (.ld 3 true (.t 10))::
  .e (some 68) none (.call Q0k [.t 67])::
  Qzr
def Q2y:SC:=(.block 3 (.reg (
  .f (some 84) none (.mv (.t 12))::
  .f (some 85) none (.mv (.t 14))::
  .f (some 86) none (.iad 1 (.t 84) (.t 85))::
  .f (some 87) none (.ld 1 false (.t 86))::
  .f (some 14) none (.mv (.t 87))::
  []) [9,11,12,13,14,71,72]))
def Qzt:SC:=(.seq (.seq (.reg (
  .f (some 79) none (.mv (.t 14))::
  .f (some 80) none (.fad 2 (.t 9))::
  .f (some 81) none (.ld 1 false (.t 80))::
  .f (some 82) none (.len (.t 81))::
  .f (some 83) none (.bin 0 .geq (.t 79) (.t 82))::
  []) [9,11,12,13,14,71,72,83]) (.cond (.t 83) .skip (.exit 2))) Q2y)
def Q2z:SC:=(.cond (.t 93) (.seq (.reg (
  .f (some 2) none (.mv (.k (.c (.bool false))))::
  []) [2]) .ret) .skip)
def Q20:SC:=(.seq (.reg (
  .f (some 88) none (.mv (.t 14))::
  .f (some 89) none (.mv (.t 11))::
  .f (some 90) none (.mv (.t 13))::
  .f (some 91) none (.iad 1 (.t 89) (.t 90))::
  .f (some 92) none (.ld 1 false (.t 91))::
  .f (some 93) none (.bin 0 .neq (.t 88) (.t 92))::
  []) [9,11,12,71,72,93]) Q2z)
def Q21:SC:=(.seq (.reg (
  .f (some 75) none (.mv (.t 12))::
  .f (some 76) none (.mv (.t 13))::
  .f (some 77) none (.iad 1 (.t 75) (.t 76))::
  .f (some 78) none (.ld 1 false (.t 77))::
  .f (some 14) none (.mv (.t 78))::
  []) [9,11,12,13,14,71,72]) (.seq (.block 2 (.loop Qzt)) Q20))
def Q22:SC:=(.reg (
  .f (some 94) none (.bin 0 .add (.t 72) (.k (.c (.int .i64 1))))::
  .f (some 72) none (.mv (.t 94))::
  []) [9,11,12,71,72])
def Q23:SC:=(.seq (.block 1 (.seq (.reg (
  .f (some 74) none (.mv (.t 72))::
  .f (some 13) none (.mv (.t 74))::
  []) [9,11,12,13,71,72]) Q21)) Q22)
def Qzu:SC:=(.seq (.reg (
  .f (some 73) none (.bin 0 .lss (.t 72) (.t 71))::
  []) [9,11,12,71,72,73]) (.seq (.cond (.t 73) .skip (.exit 0)) Q23))
def Q24:SC:=(.seq (.reg (
  .f (some 2) none (.mv (.k (.c (.bool true))))::
  []) [2]) .ret)
def Q25:SC:=(.seq (.seq (.reg (
  .f (some 69) none (.fad 2 (.t 9))::
  .f (some 70) none (.ld 1 false (.t 69))::
  .f (some 71) none (.len (.t 70))::
  .f (some 72) none (.mv (.k (.c (.int .i64 0))))::
  []) [9,11,12,71,72]) (.block 0 (.loop Qzu))) Q24)
def Q26:SC:=(.seq (.dreg 6 [0,2,1,2,3,4,5] (
  .f (some 65) none (.ld 3 true (.t 9))::
  .f (some 67) none (.ld 3 true (.t 10))::
  .e (some 66) none (.call Q0k [.t 65])::
  Qzs) [9,11,12]) Q25)
def Q27:SC:=(.seq (.dreg 11 [0,1,2,3,4,5,6,7,8,9,10,1,3,4,6,8,9,11,1,3,4,6,8,9,12,6,8,9,13] (
  .f (some 55) none (.fad 0 (.t 3))::
  .f (some 56) none (.ld 1 false (.t 55))::
  .f (some 57) none (.mv (.t 8))::
  .f (some 58) none (.iad 3 (.t 56) (.t 57))::
  .f (some 59) none (.ld 3 true (.t 58))::
  .f (some 60) none (.fad 0 (.t 4))::
  .f (some 61) none (.ld 1 false (.t 60))::
  .f (some 62) none (.mv (.t 8))::
  .f (some 63) none (.iad 3 (.t 61) (.t 62))::
  .f (some 64) none (.ld 3 true (.t 63))::
  .e (some 9) none (.alloc [.int .i64 0,.int .i64 0,.sl true 5 []])::
  Qzq) [9,10]) Q26)
def Q28:SC:=(.seq (.reg (
  .f (some 51) none (.fad 0 (.t 3))::
  .f (some 52) none (.ld 1 false (.t 51))::
  .f (some 53) none (.len (.t 52))::
  .f (some 54) none (.bin 0 .sub (.t 53) (.k (.c (.int .i64 1))))::
  .f (some 8) none (.mv (.t 54))::
  []) [3,4,8]) Q27)
def Q29:SC:=(.seq (.seq (.reg (
  .f (some 30) none (.mv (.t 5))::
  .f (some 31) none (.mv (.t 7))::
  .f (some 32) none (.bin 1 .neq (.t 30) (.t 31))::
  .f (some 33) none (.mv (.t 32))::
  .f (some 34) (some (33,false)) (.ld 1 true (.t 4))::
  .f (some 35) (some (33,false)) (.ld 1 true (.t 6))::
  .e (some 36) (some (33,false)) (.call Qa5 [.t 34,.t 35])::
  Q3m) [3,4,5,6,7,42]) Q2x) Q28)
def Q3a:SC:=(.seq (.reg (
  .f (some 26) none (.ld 1 true (.t 3))::
  .e (some 27) none (.call Q8t [.t 26])::
  Q3l) [3,4,5,6,7]) Q29)
def Q3b:SC:=(.seq (.reg (
  .f (some 21) none (.ld 1 true (.t 3))::
  .e (some 22) none (.call Q8s [.t 21])::
  Q3i) [3,4,5]) Q3a)
def Q3c:SC:=(.seq (.reg (
  .f (some 18) none (.mv (.t 0))::
  .e (some 19) none (.call Qu3 [.t 18])::
  Q3f) [3]) Q3b)
def Q3d:SC:=(.seq (.seq (.reg (
  .f (some 15) none (.mv (.t 0))::
  .f (some 16) none (.len (.t 15))::
  .f (some 17) none (.bin 0 .gtr (.t 16) (.k (.c (.int .i64 1048576))))::
  []) [0,17]) Q5l) Q3c)
def s_la_FnDomSplit:SC:=(.seq (.reg (
  .f (some 2) none (.mv (.k (.c (.bool false))))::
  []) [0]) Q3d)
def r_la_FnDomSplit:List RS:=[.tmp 2]
def Qxq:List Item:=
  .f (some 5) none (.mv (.t 23))::
  []
def Qaro:SC:=(.reg (
  .f (some 31) none (.mv (.t 5))::
  .f (some 32) none (.mv (.t 7))::
  .f (some 33) none (.mv (.t 6))::
  .e none none (.upd 0 (.t 31) (.t 32) (.t 33))::
  []) [1,2,4,5,24,25,26])
def Qarp:SC:=(.reg (
  .f (some 34) none (.bin 0 .add (.t 26) (.k (.c (.int .i64 1))))::
  .f (some 26) none (.mv (.t 34))::
  []) [1,2,4,5,24,25,26])
def Qarq:SC:=(.seq (.block 1 (.seq (.reg (
  .f (some 28) none (.mv (.t 26))::
  .f (some 29) none (.iad 1 (.t 24) (.t 26))::
  .f (some 30) none (.ld 1 false (.t 29))::
  .f (some 6) none (.mv (.t 28))::
  .f (some 7) none (.mv (.t 30))::
  []) [1,2,4,5,6,7,24,25,26]) Qaro)) Qarp)
def Qxw:SC:=(.seq (.reg (
  .f (some 27) none (.bin 0 .lss (.t 26) (.t 25))::
  []) [1,2,4,5,24,25,26,27]) (.seq (.cond (.t 27) .skip (.exit 0)) Qarq))
def Qxr:List Item:=
  .f (some 8) none (.mv (.t 36))::
  []
def Qxs:List Item:=
  .e none none (.sto 3 (.t 9) (.t 41))::
  []
def Qxt:List Item:=
  .f (some 10) none (.mv (.t 44))::
  []
def Qxu:List Item:=
  .e none none (.sto 5 (.t 13) (.t 57))::
  []
def Qxv:List Item:=
  .e (some 13) none (.alloc [.sl true 2 [],.sl true 4 [],.int .i64 0,.int .i64 0,.sl true 1 []])::
  Qxu
def Qalx:SC:=(.reg (
  .f (some 66) none (.fad 4 (.t 13))::
  .f (some 67) none (.ld 1 false (.t 66))::
  .f (some 68) none (.mv (.t 14))::
  .f (some 69) none (.mv (.t 5))::
  .f (some 70) none (.mv (.t 15))::
  .f (some 71) none (.lup 0 (.c (.int .i64 0)) (.t 69) (.t 70))::
  .f (some 72) none (.iad 1 (.t 67) (.t 68))::
  .e none none (.sto 1 (.t 72) (.t 71))::
  []) [2,4,5,8,9,10,11,12,13,45,46,47,59,60,61])
def Qaly:SC:=(.reg (
  .f (some 73) none (.bin 0 .add (.t 61) (.k (.c (.int .i64 1))))::
  .f (some 61) none (.mv (.t 73))::
  []) [2,4,5,8,9,10,11,12,13,45,46,47,59,60,61])
def Qalz:SC:=(.seq (.block 5 (.seq (.reg (
  .f (some 63) none (.mv (.t 61))::
  .f (some 64) none (.iad 1 (.t 59) (.t 61))::
  .f (some 65) none (.ld 1 false (.t 64))::
  .f (some 14) none (.mv (.t 63))::
  .f (some 15) none (.mv (.t 65))::
  []) [2,4,5,8,9,10,11,12,13,14,15,45,46,47,59,60,61]) Qalx)) Qaly)
def Qsa:SC:=(.seq (.reg (
  .f (some 62) none (.bin 0 .lss (.t 61) (.t 60))::
  []) [2,4,5,8,9,10,11,12,13,45,46,47,59,60,61,62]) (.seq (.cond (.t 62) .skip (.exit 4)) Qalz))
def Qr6:List Item:=
  .f (some 18) none (.mv (.t 83))::
  []
def Qif:List Item:=
  .f (some 87) none (.ext (.t 86) 0)::
  []
def Qr7:List Item:=
  .f (some 89) none (.ext (.t 88) 0)::
  .f (some 90) none (.ext (.t 88) 1)::
  .f (some 19) none (.mv (.t 89))::
  .f (some 20) none (.mv (.t 90))::
  []
def Qal0:SC:=(.cond (.t 97) (.reg (
  .f (some 98) none (.mv (.t 18))::
  .f (some 99) none (.mv (.t 21))::
  .f (some 100) none (.mv (.t 20))::
  .e none none (.upd 0 (.t 98) (.t 99) (.t 100))::
  []) [2,4,5,8,9,10,11,13,18,45,46,47,77,78,79,85]) .skip)
def Qal1:SC:=(.seq (.reg (
  .f (some 97) none (.mv (.t 22))::
  []) [2,4,5,8,9,10,11,13,18,20,21,45,46,47,77,78,79,85,97]) Qal0)
def Qal2:SC:=(.seq (.reg (
  .f (some 92) none (.mv (.t 5))::
  .f (some 93) none (.mv (.t 19))::
  .f (some 94) none (.lup2 0 (.c (.int .i64 0)) (.t 92) (.t 93))::
  .f (some 91) none (.mv (.t 94))::
  .f (some 95) none (.ext (.t 91) 0)::
  .f (some 96) none (.ext (.t 91) 1)::
  .f (some 21) none (.mv (.t 95))::
  .f (some 22) none (.mv (.t 96))::
  []) [2,4,5,8,9,10,11,13,18,20,21,22,45,46,47,77,78,79,85]) Qal1)
def Qal3:SC:=(.block 9 (.seq (.reg (
  .e (some 88) none (.ent (.t 85))::
  Qr7) [2,4,5,8,9,10,11,13,18,19,20,45,46,47,77,78,79,85]) Qal2))
def Qaei:SC:=(.seq (.reg (
  .e (some 86) none (.nxt (.t 85))::
  Qif) [2,4,5,8,9,10,11,13,18,45,46,47,77,78,79,85,87]) (.seq (.cond (.t 87) .skip (.exit 8)) Qal3))
def Qr8:List Item:=
  .f (some 110) none (.iad 1 (.t 101) (.t 102))::
  .e none none (.sto 1 (.t 110) (.t 109))::
  []
def Qxn:SC:=(.reg (
  .f (some 101) none (.mv (.t 10))::
  .f (some 102) none (.mv (.t 11))::
  .f (some 103) none (.mv (.t 10))::
  .f (some 104) none (.mv (.t 11))::
  .f (some 105) none (.iad 1 (.t 103) (.t 104))::
  .f (some 106) none (.ld 1 false (.t 105))::
  .f (some 107) none (.mv (.t 18))::
  .f (some 108) none (.bsl 1 [.t 107])::
  .e (some 109) none (.app 1 (.t 106) (.t 108))::
  Qr8) [2,4,5,8,9,10,11,13,45,46,47,77,78,79])
def Qxo:SC:=(.seq (.seq (.reg (
  .f (some 84) none (.mv (.t 17))::
  .e (some 85) none (.rng (.t 84))::
  []) [2,4,5,8,9,10,11,13,18,45,46,47,77,78,79,85]) (.block 8 (.loop Qaei))) Qxn)
def Qal4:SC:=(.seq (.reg (
  .e (some 83) none (.mkm)::
  Qr6) [2,4,5,8,9,10,11,13,17,18,45,46,47,77,78,79]) Qxo)
def Qal5:SC:=(.reg (
  .f (some 111) none (.bin 0 .add (.t 79) (.k (.c (.int .i64 1))))::
  .f (some 79) none (.mv (.t 111))::
  []) [2,4,5,8,9,10,11,13,45,46,47,77,78,79])
def Qal6:SC:=(.seq (.block 7 (.seq (.reg (
  .f (some 81) none (.iad 1 (.t 77) (.t 79))::
  .f (some 82) none (.ld 1 false (.t 81))::
  .f (some 17) none (.mv (.t 82))::
  []) [2,4,5,8,9,10,11,13,17,45,46,47,77,78,79]) Qal4)) Qal5)
def Qsb:SC:=(.seq (.reg (
  .f (some 80) none (.bin 0 .lss (.t 79) (.t 78))::
  []) [2,4,5,8,9,10,11,13,45,46,47,77,78,79,80]) (.seq (.cond (.t 80) .skip (.exit 6)) Qal6))
def Qr9:List Item:=
  .f (some 117) none (.fad 2 (.t 9))::
  .e none none (.sto 1 (.t 117) (.t 116))::
  []
def Qal7:SC:=(.reg (
  .f (some 112) none (.fad 2 (.t 9))::
  .f (some 113) none (.ld 1 false (.t 112))::
  .f (some 114) none (.ld 5 true (.t 13))::
  .f (some 115) none (.bsl 5 [.t 114])::
  .e (some 116) none (.app 5 (.t 113) (.t 115))::
  Qr9) [2,4,5,8,9,10,45,46,47])
def Qal8:SC:=(.seq (.seq (.reg (
  .f (some 74) none (.mv (.t 8))::
  .f (some 75) none (.mv (.t 12))::
  .f (some 76) none (.iad 1 (.t 74) (.t 75))::
  .f (some 77) none (.ld 1 false (.t 76))::
  .f (some 78) none (.len (.t 77))::
  .f (some 79) none (.mv (.k (.c (.int .i64 0))))::
  []) [2,4,5,8,9,10,11,13,45,46,47,77,78,79]) (.block 6 (.loop Qsb))) Qal7)
def Qal9:SC:=(.seq (.seq (.reg (
  .f (some 58) none (.fad 4 (.t 13))::
  .f (some 59) none (.ld 1 false (.t 58))::
  .f (some 60) none (.len (.t 59))::
  .f (some 61) none (.mv (.k (.c (.int .i64 0))))::
  []) [2,4,5,8,9,10,11,12,13,45,46,47,59,60,61]) (.block 4 (.loop Qsa))) Qal8)
def Qama:SC:=(.seq (.reg (
  .f (some 52) none (.fad 2 (.t 2))::
  .f (some 53) none (.ld 1 false (.t 52))::
  .f (some 54) none (.mv (.t 12))::
  .f (some 55) none (.iad 5 (.t 53) (.t 54))::
  .f (some 56) none (.ld 5 true (.t 55))::
  .e (some 57) none (.call Qf4 [.t 56])::
  Qxv) [2,4,5,8,9,10,11,12,13,45,46,47]) Qal9)
def Qamb:SC:=(.reg (
  .f (some 118) none (.bin 0 .add (.t 47) (.k (.c (.int .i64 1))))::
  .f (some 47) none (.mv (.t 118))::
  []) [2,4,5,8,9,10,45,46,47])
def Qamc:SC:=(.seq (.block 3 (.seq (.reg (
  .f (some 49) none (.mv (.t 47))::
  .f (some 50) none (.iad 1 (.t 45) (.t 47))::
  .f (some 51) none (.ld 1 false (.t 50))::
  .f (some 11) none (.mv (.t 49))::
  .f (some 12) none (.mv (.t 51))::
  []) [2,4,5,8,9,10,11,12,45,46,47]) Qama)) Qamb)
def Qaej:SC:=(.seq (.reg (
  .f (some 48) none (.bin 0 .lss (.t 47) (.t 46))::
  []) [2,4,5,8,9,10,45,46,47,48]) (.seq (.cond (.t 48) .skip (.exit 2)) Qamc))
def Qamd:SC:=(.seq (.reg (
  .f (some 121) none (.ld 3 true (.t 9))::
  .e none none (.sto 3 (.t 4) (.t 121))::
  []) [4]) .ret)
def Qxp:SC:=(.seq (.seq .gh (.reg (
  .f (some 119) none (.mv (.t 10))::
  .e (some 120) none (.call Qqp [.t 9,.t 119])::
  []) [4,9])) Qamd)
def Qame:SC:=(.seq (.seq (.reg (
  .f (some 45) none (.mv (.t 1))::
  .f (some 46) none (.len (.t 45))::
  .f (some 47) none (.mv (.k (.c (.int .i64 0))))::
  []) [2,4,5,8,9,10,45,46,47]) (.block 2 (.loop Qaej))) Qxp)
def Qamf:SC:=(.seq (.reg (
  .f (some 42) none (.mv (.t 1))::
  .f (some 43) none (.len (.t 42))::
  .e (some 44) none (.mks 1 [.sl true 1 []] (.t 43))::
  Qxt) [1,2,4,5,8,9,10]) Qame)
def Qamg:SC:=(.seq (.reg (
  .f (some 37) none (.fad 0 (.t 2))::
  .f (some 38) none (.ld 1 false (.t 37))::
  .f (some 39) none (.fad 1 (.t 2))::
  .f (some 40) none (.ld 1 false (.t 39))::
  .f (some 41) none (.bld [.int .i64 0,.int .i64 0,.sl true 5 []] [(0,1,.t 38),(1,1,.t 40)])::
  .e (some 9) none (.alloc [.int .i64 0,.int .i64 0,.sl true 5 []])::
  Qxs) [1,2,4,5,8,9]) Qamf)
def Qamh:SC:=(.seq (.reg (
  .f (some 35) none (.ld 3 true (.t 2))::
  .e (some 36) none (.call Qqo [.t 35])::
  Qxr) [1,2,4,5,8]) Qamg)
def Qami:SC:=(.seq (.seq (.reg (
  .f (some 24) none (.mv (.t 1))::
  .f (some 25) none (.len (.t 24))::
  .f (some 26) none (.mv (.k (.c (.int .i64 0))))::
  []) [1,2,4,5,24,25,26]) (.block 0 (.loop Qxw))) Qamh)
def Qamj:SC:=(.seq (.reg (
  .e (some 23) none (.mkm)::
  Qxq) [1,2,4,5]) Qami)
def Qa1n:SC:=(.seq (.reg (
  .f (some 2) none (.box (.t 0))::
  .e (some 4) none (.alloc [.int .i64 0,.int .i64 0,.sl true 5 []])::
  []) [1,2,4]) Qamj)
def Qac5:List RS:=[.cell 4 3 true]
theorem Qa0s:mFn prog Qi3 2 122 Qa1n Qac5=true:=by kernel_rfl
end Go.AE.Y

namespace Go.AE.Y
attribute [local go_sem] cond_true cond_false Bool.not_true Bool.not_false
open Go.Proofs.Tryz
variable {H H0:Heap}{K:V→Heap→Prop}{E L:List (Nat×Obj)}{q:CodeD}{l:List Nat}
structure NowOk (l:List Nat)(i:Nat)(nl:List (Int×Int)):Prop where
 len:nl.length≤i
 f:∀v:Int,lkI v nl=if 0≤v∧v.toNat∈l.take i then some ((l.idxOf v.toNat:Nat):Int)else none
theorem NowOk.step {i:Nat}{nl:List (Int×Int)}(h:NowOk l i nl)(hn:l.Nodup)(hi:i<l.length):NowOk l (i+1) (upI ((l[i]:Nat):Int) (i:Int) nl):=by
 refine⟨by have:=Qa6h ((l[i]:Nat):Int) (i:Int) nl;have:=h.len;omega,fun v=>?_⟩
 rw[Qbhy,h.f,List.take_succ_eq_append_getElem hi]
 by_cases hv:v=((l[i]:Nat):Int)
 ·have hvt:v.toNat=l[i]:=by omega
  rw[if_pos hv,if_pos ⟨by omega,List.mem_append_right _ (by rw[hvt];exact List.mem_singleton.2 rfl)⟩,hvt,List.Nodup.idxOf_getElem hn i hi]
 ·rw[if_neg hv]
  by_cases h0:0≤v∧v.toNat∈l.take i
  ·rw[if_pos h0,if_pos ⟨h0.1,List.mem_append_left _ h0.2⟩]
  ·rw[if_neg h0,if_neg]
   rintro⟨h1,h2⟩
   rcases List.mem_append.1 h2 with h2|h2
   ·exact h0 ⟨h1,h2⟩
   ·simp only[List.mem_singleton]at h2
    exact hv (by omega)
theorem NowOk.at {nl:List (Int×Int)}(h:NowOk l l.length nl){v:Int}(hv:0≤v)(hm:v.toNat∈l):lkI v nl=some ((l.idxOf v.toNat:Nat):Int):=by
 rw[h.f,List.take_length,if_pos ⟨hv,hm⟩]
theorem NowOk.no {nl:List (Int×Int)}(h:NowOk l l.length nl){v:Int}(hm:v.toNat∉l):lkI v nl=none:=by
 rw[h.f,List.take_length,if_neg fun hh=>hm hh.2]
set_option maxHeartbeats 2000000 in
theorem Qbiw {Q:X→Env→Heap→Prop}{e:Env}{fl fl2:Bool}{x4 M:Nat}{X4:Obj}(hn:l.Nodup)(hl:l.length≤1000)
  (kn:Kn H0 H E [(x4,X4),(M,.map 0 (mI []))])
  (l1:lk 1 e=.c (.sl fl2 1 (Q9 l))) (l2:lk 2 e=.c (.pp [.int .i64 q.params,.int .i64 q.regs,.sl fl 5 (Qp q.blocks)])) (l4:lk 4 e=.c (.ptr x4 0)) (l5:lk 5 e=.c (.mp M))
  (l24:lk 24 e=.c (.sl fl2 1 (Q9 l))) (l25:lk 25 e=.c (.int .i64 l.length)) (l26:lk 26 e=.c (.int .i64 0))
  (hQ:∀(e:Env) (H':Heap) (nl:List (Int×Int)) (ver:Nat),NowOk l l.length nl→Kn H0 H' E [(x4,X4),(M,.map ver (mI nl))]→
   lk 1 e=.c (.sl fl2 1 (Q9 l))→lk 2 e=.c (.pp [.int .i64 q.params,.int .i64 q.regs,.sl fl 5 (Qp q.blocks)])→lk 4 e=.c (.ptr x4 0)→lk 5 e=.c (.mp M)→Q .nrm e H') :
  Qac prog (.block 0 (.loop Qxw)) Q e H:=by
 refine Qe (Qx (fun m e1 H1=>∃(i ver:Nat) (nl:List (Int×Int)),m=l.length-i∧i≤l.length∧NowOk l i nl∧Kn H0 H1 E [(x4,X4),(M,.map ver (mI nl))]∧
  lk 1 e1=.c (.sl fl2 1 (Q9 l))∧lk 2 e1=.c (.pp [.int .i64 q.params,.int .i64 q.regs,.sl fl 5 (Qp q.blocks)])∧lk 4 e1=.c (.ptr x4 0)∧lk 5 e1=.c (.mp M)∧
  lk 24 e1=.c (.sl fl2 1 (Q9 l))∧lk 25 e1=.c (.int .i64 l.length)∧lk 26 e1=.c (.int .i64 i)) l.length ?_ ?_)
 ·exact⟨0,0,[],by omega,by omega,⟨by simp,fun v=>by simp[lkI]⟩,kn,l1,l2,l4,l5,l24,l25,l26⟩
 ·clear kn l1 l2 l4 l5 l24 l25 l26
  rintro m e1 H1 ⟨i,ver,nl,hm,hi,hN,kn,l1,l2,l4,l5,l24,l25,l26⟩
  refine Qa ?_
  simp only[go_sem,l1,l2,l4,l5,l24,l25,l26]
  refine Qh (Qf rfl ?_ ?_)
  ·intro hc
   have hlt:i<l.length:=by simpa using hc
   have hgd:l.getD i 0=l[i]:=by simp[List.getD_eq_getElem?_getD,hlt]
   have hM:=kn.l 1 rfl
   have hnl:=hN.len
   refine Qi ?_
   try simp only[go_sem]
   refine Qh (Qe ?_)
   refine Qa ?_
   simp only[go_sem,l1,l2,l4,l5,l24,l25,l26,hlt,Qad,Qbl _ _ hlt,hgd]
   refine Qv ?_
   simp only[go_sem,hM,Qg8,Qauo,Qajd]
   refine⟨by simp only[LIM];omega,fun H2 h2=>?_⟩
   have kn:=kn.stL 1 rfl h2
   refine Qv ?_
   simp only[go_sem]
   refine⟨Qq (by omega) (by omega),?_⟩
   show ∃m,_
   exact⟨l.length-(i+1),by omega,i+1,ver+1,_,rfl,by omega,hN.step hn hlt,kn,rfl,rfl,rfl,rfl,rfl,rfl,rfl⟩
  ·intro hc
   have hge:i=l.length:=by have:l.length≤i:=(by simpa using hc);omega
   subst hge
   refine Qw ?_
   simp only[go_sem,X.next]
   exact hQ _ _ nl ver hN kn rfl rfl rfl rfl
def plI (l:List Nat)(v:Int):Int:=((l.idxOf v.toNat:Nat):Int)
set_option maxHeartbeats 2000000 in
theorem Qbd2 {Q:X→Env→Heap→Prop}{e:Env}{x13 M ver i b L9:Nat}{nl:List (Int×Int)}{ns:List Int}{pc ic nc a2 a4 a8 a9 a10 a45:C}{jj oo:Int}{Ln R:List (Nat×Obj)}
  (hN:NowOk l l.length nl) (hns:∀v∈ns,0≤v∧v.toNat∈l) (hnl:ns.length≤1000) (hpw:pc.isOw=false) (hiw:ic.isOw=false) (h10:a10.isOw=false) (h8:a8.isOw=false) (h45:a45.isOw=false) (h2:a2.isOw=false)
  (hg:Gr Ln 1 (Qd ns) nc)
  (kn:Kn H0 H E (([(M,.map ver (mI nl)),(x13,.st [pc,ic,.int .i64 jj,.int .i64 oo,nc])]++R)++Ln))
  (l2:lk 2 e=.c a2) (l4:lk 4 e=.c a4) (l5:lk 5 e=.c (.mp M)) (l8:lk 8 e=.c a8) (l9:lk 9 e=.c a9) (l10:lk 10 e=.c a10) (l11:lk 11 e=.c (.int .i64 i)) (l12:lk 12 e=.c (.int .i64 b)) (l13:lk 13 e=.c (.ptr x13 0))
  (l45:lk 45 e=.c a45) (l46:lk 46 e=.c (.int .i64 L9)) (l47:lk 47 e=.c (.int .i64 i)) (l59:lk 59 e=.c nc) (l60:lk 60 e=.c (.int .i64 ns.length)) (l61:lk 61 e=.c (.int .i64 0))
  (hQ:∀(e:Env) (H':Heap) (Ln:List (Nat×Obj)),Gr Ln 1 (Qd (ns.map (plI l))) nc→Kn H0 H' E (([(M,.map ver (mI nl)),(x13,.st [pc,ic,.int .i64 jj,.int .i64 oo,nc])]++R)++Ln)→
   lk 2 e=.c a2→lk 4 e=.c a4→lk 5 e=.c (.mp M)→lk 8 e=.c a8→lk 9 e=.c a9→lk 10 e=.c a10→lk 11 e=.c (.int .i64 i)→lk 12 e=.c (.int .i64 b)→lk 13 e=.c (.ptr x13 0)→
   lk 45 e=.c a45→lk 46 e=.c (.int .i64 L9)→lk 47 e=.c (.int .i64 i)→Q .nrm e H') :
  Qac prog (.block 4 (.loop Qsa)) Q e H:=by
 have hncw:=hg.isOw
 refine Qe (Qx (fun m e1 H1=>∃(k:Nat) (Ln:List (Nat×Obj)),m=ns.length-k∧k≤ns.length∧Gr Ln 1 (Qd (mix (plI l) ns k)) nc∧Kn H0 H1 E (([(M,.map ver (mI nl)),(x13,.st [pc,ic,.int .i64 jj,.int .i64 oo,nc])]++R)++Ln)∧
  lk 2 e1=.c a2∧lk 4 e1=.c a4∧lk 5 e1=.c (.mp M)∧lk 8 e1=.c a8∧lk 9 e1=.c a9∧lk 10 e1=.c a10∧lk 11 e1=.c (.int .i64 i)∧lk 12 e1=.c (.int .i64 b)∧lk 13 e1=.c (.ptr x13 0)∧
  lk 45 e1=.c a45∧lk 46 e1=.c (.int .i64 L9)∧lk 47 e1=.c (.int .i64 i)∧lk 59 e1=.c nc∧lk 60 e1=.c (.int .i64 ns.length)∧lk 61 e1=.c (.int .i64 k)) ns.length ?_ ?_)
 ·exact⟨0,Ln,by omega,by omega,by rw[Qaqz];exact hg,kn,l2,l4,l5,l8,l9,l10,l11,l12,l13,l45,l46,l47,l59,l60,l61⟩
 ·clear kn l2 l4 l5 l8 l9 l10 l11 l12 l13 l45 l46 l47 l59 l60 l61 hg
  rintro m e1 H1 ⟨k,Ln,hm,hk,hg,kn,l2,l4,l5,l8,l9,l10,l11,l12,l13,l45,l46,l47,l59,l60,l61⟩
  refine Qa ?_
  simp only[go_sem,l2,l4,l5,l8,l9,l10,l11,l12,l13,l45,l46,l47,l59,l60,l61,hncw,h10,h8,h45]
  refine Qh (Qf rfl ?_ ?_)
  ·intro hc
   have hlt:k<ns.length:=by simpa using hc
   obtain⟨y,hny,hLn⟩:∃y,nc=.vsl y 1 0 ns.length∧Ln=[(y,.vec 1 (Qd (mix (plI l) ns k)))]:=by
    rcases hg with ⟨_,h,_⟩|⟨y,h1,h2⟩
    ·have:=congrArg List.length h;rw[Qc,Qj1]at this;simp only[List.length_nil]at this;omega
    ·exact⟨y,by rw[h1,Qc,Qj1],h2⟩
   subst hny hLn
   have hmk:k<(mix (plI l) ns k).length:=by rw[Qj1];exact hlt
   obtain⟨w,hw⟩:∃w,ns[k]=w:=⟨_,rfl⟩
   have hgd:(mix (plI l) ns k).getD k 0=w:=by rw[List.getD_eq_getElem?_getD,List.getElem?_eq_getElem hmk,Qbdr hlt hmk,hw];rfl
   obtain⟨hw0,hwm⟩:=hns w (by rw[←hw];exact List.getElem_mem hlt)
   have hlk:=hN.at hw0 hwm
   have hset:=Qa06 (f:=plI l) hlt
   rw[hw]at hset
   have hM:H1 M=.map ver (mI nl):=(kn.get (M,.map ver (mI nl)) (by simp)).1
   have hx13:H1 x13=.st [pc,ic,.int .i64 jj,.int .i64 oo,.vsl y 1 0 ns.length]:=(kn.get (x13,.st [pc,ic,.int .i64 jj,.int .i64 oo,.vsl y 1 0 ns.length]) (by simp)).1
   have hy:H1 y=.vec 1 (Qd (mix (plI l) ns k)):=(kn.get (y,.vec 1 (Qd (mix (plI l) ns k))) (by simp)).1
   have htk:(Qd (mix (plI l) ns k)).take ns.length=Qd (mix (plI l) ns k):=List.take_of_length_le (by rw[Qc,Qj1];omega)
   have hokM:Qq0 H1 (.mp M)=True:=by simp only[Qq0,hM]
   have henM:Qaa H1 (.mp M)=mI nl:=by simp only[Qaa,hM]
   refine Qi ?_
   try simp only[go_sem]
   refine Qh (Qe ?_)
   refine Qa ?_
   simp only[go_sem,l2,l4,l5,l8,l9,l10,l11,l12,l13,l45,l46,l47,l59,l60,l61,hy,htk,hlt,Qc,Qj1,Qt _ _ hmk,hgd,h10,h8,h45,Nat.zero_add,Nat.le_refl]
   refine Qv ?_
   simp only[go_sem,hx13,hpw,hiw,hy,htk,hlt,Qc,Qj1,hokM,henM,Qg8,Qab8,hlk,Qt _ _ hmk,Quw,h10,h8,h45,Nat.zero_add,Nat.le_refl]
   intro H2 h2
   have e:(mix (plI l) ns k).set k ((l.idxOf w.toNat:Nat):Int)=mix (plI l) ns (k+1):=hset
   rw[e]at h2
   have kn:Kn H0 H2 E (([(M,.map ver (mI nl)),(x13,.st [pc,ic,.int .i64 jj,.int .i64 oo,.vsl y 1 0 ns.length])]++R)++[(y,.vec 1 (Qd (mix (plI l) ns (k+1))))]):=by
    have:=kn.stL ([(M,Obj.map ver (mI nl)),(x13,.st [pc,ic,.int .i64 jj,.int .i64 oo,.vsl y 1 0 ns.length])]++R).length (x:=y) (o:=.vec 1 (Qd (mix (plI l) ns k))) (by simp) h2
    simpa using this
   refine Qv ?_
   simp only[go_sem]
   refine⟨Qq (by omega) (by omega),?_⟩
   show ∃m,_
   exact⟨ns.length-(k+1),by omega,k+1,_,rfl,by omega,.mk _ _ _ (by rw[Qc,Qj1]),kn,rfl,rfl,rfl,rfl,rfl,rfl,rfl,rfl,rfl,rfl,rfl,rfl,rfl,rfl,rfl⟩
  ·intro hc
   have hge:ns.length≤k:=by simpa using hc
   rw[Qa05 _ _ hge]at hg
   refine Qw ?_
   simp only[go_sem,X.next]
   exact hQ _ _ Ln hg kn rfl rfl rfl rfl rfl rfl rfl rfl rfl rfl rfl rfl
end Go.AE.Y

namespace Go.AE.Y
attribute [local go_sem] cond_true cond_false Bool.not_true Bool.not_false
open Go.Proofs.Tryz
variable {H H0:Heap}{K:V→Heap→Prop}{E L:List (Nat×Obj)}{q:CodeD}{l:List Nat}
def Qbgl (q:CodeD)(l:List Nat)(b:Nat)(p:PhiD)(ml:List (Int×Int)):Prop:=
 ∀w a,(w,a)∈zpA q b p→w.toNat∈l→lkI ((l.idxOf w.toNat:Nat):Int) ml=some a
theorem Qbmx {b:Nat}{p:PhiD}{w a a':Int}(h:(w,a)∈zpA q b p)(h':(w,a')∈zpA q b p):a=a':=by
 obtain⟨i,hi,e⟩:=List.mem_iff_getElem.1 h
 obtain⟨j,hj,e'⟩:=List.mem_iff_getElem.1 h'
 simp only[zpA,List.getElem_zip,Prod.mk.injEq]at e e'
 have hl:(zpA q b p).length=min (Q1 (gnx q) (b:Int) q.blocks.length).length p.args.length:=by rw[zpA,List.length_zip]
 have hij:i=j:=(List.getElem_inj (Qabp (gnx q) (b:Int) q.blocks.length)).1 (e.1.trans e'.1.symm)
 subst hij
 exact e.2.symm.trans e'.2
theorem Qa7r {b:Nat}{p:PhiD}{w a:Int}(h:(w,a)∈zpA q b p):w∈Q1 (gnx q) (b:Int) q.blocks.length:=(List.of_mem_zip h).1
theorem Qajf:∀(l aa:List Int),((l.zip aa).map Prod.fst).Sublist l
 |[],_=>by simp
 |x::l,[]=>by simp
 |x::l,a::aa=>by
  rw[List.zip_cons_cons,List.map_cons]
  exact List.Sublist.cons_cons _ (Qajf l aa)
theorem Qaz2 (q:CodeD)(b:Nat)(p:PhiD):(mI (zpA q b p)).Nodup:=by
 exact Qbh1 (List.Nodup.sublist (Qajf _ _) (Qabp (gnx q) (b:Int) q.blocks.length))
structure PhM (q:CodeD)(l:List Nat)(b:Nat)(phs:List PhiD)(ms:List PMap):Prop where
 len:ms.length=phs.length
 f:∀k (h1:k<ms.length) (h2:k<phs.length),Qbgl q l b phs[k] (ms[k]).l
theorem PhM.nil (b:Nat):PhM q l b [] []:=⟨rfl,fun k h1=>by simp at h1⟩
theorem PhM.snoc {b:Nat}{phs:List PhiD}{ms:List PMap}{p:PhiD}{m:PMap}(h:PhM q l b phs ms)(hm:Qbgl q l b p m.l):PhM q l b (phs++[p]) (ms++[m]):=by
 have hl:=h.len
 refine⟨by simp[hl],fun k h1 h2=>?_⟩
 by_cases hk:k<ms.length
 ·rw[List.getElem_append_left hk,List.getElem_append_left (by omega)]
  exact h.f k hk (by omega)
 ·have hke:k=ms.length:=by simp at h1;omega
  subst hke
  have e1:(ms++[m])[ms.length]=m:=by simp
  have e2:(phs++[p])[ms.length]'h2=p:=by rw[List.getElem_append_right (by omega)];simp[hl]
  rw[e1,e2];exact hm
structure PkM (q:CodeD)(l:List Nat)(i:Nat)(ss:List PSl):Prop where
 n:ss.length=l.length
 m:∀r (h:r<ss.length),r<i→PhM q l (l.getD r 0) (Qaj q (l.getD r 0)).phis (ss[r]).ms
 z:∀r (h:r<ss.length),i≤r→(ss[r]).ms=[]
 ok:∀s∈ss,s.ok
set_option maxHeartbeats 4000000 in
theorem Qbiv {Q:X→Env→Heap→Prop}{e:Env}{M Mb M2 ver vb i b L9 x13 pz:Nat}{nl:List (Int×Int)}{p:PhiD}{a2 a4 a8 a9 a45 a77:C}{n78 k79:Int}{R:List (Nat×Obj)}
  (hN:NowOk l l.length nl) (hzl:(zpA q b p).length≤100000)
  (kn:Kn H0 H E ([(M,.map ver (mI nl)),(Mb,.map vb (mI (zpA q b p)))]++(R++[(M2,.map 0 (mI []))])))
  (l2:lk 2 e=.c a2) (l4:lk 4 e=.c a4) (l5:lk 5 e=.c (.mp M)) (l8:lk 8 e=.c a8) (l9:lk 9 e=.c a9) (l10:lk 10 e=.c (.vsl pz 1 0 L9)) (l11:lk 11 e=.c (.int .i64 i)) (l13:lk 13 e=.c (.ptr x13 0))
  (l17:lk 17 e=.c (.mp Mb)) (l18:lk 18 e=.c (.mp M2)) (l45:lk 45 e=.c a45) (l46:lk 46 e=.c (.int .i64 L9)) (l47:lk 47 e=.c (.int .i64 i)) (l77:lk 77 e=.c a77) (l78:lk 78 e=.c (.int .i64 n78)) (l79:lk 79 e=.c (.int .i64 k79))
  (hQ:∀(e:Env) (H':Heap) (ml:List (Int×Int)) (v2:Nat),Qbgl q l b p ml→Kn H0 H' E ([(M,.map ver (mI nl)),(Mb,.map vb (mI (zpA q b p)))]++(R++[(M2,.map v2 (mI ml))]))→
   lk 2 e=.c a2→lk 4 e=.c a4→lk 5 e=.c (.mp M)→lk 8 e=.c a8→lk 9 e=.c a9→lk 10 e=.c (.vsl pz 1 0 L9)→lk 11 e=.c (.int .i64 i)→lk 13 e=.c (.ptr x13 0)→lk 18 e=.c (.mp M2)→
   lk 45 e=.c a45→lk 46 e=.c (.int .i64 L9)→lk 47 e=.c (.int .i64 i)→lk 77 e=.c a77→lk 78 e=.c (.int .i64 n78)→lk 79 e=.c (.int .i64 k79)→Qac prog Qxn Q e H') :
  Qac prog Qxo Q e H:=by
 have hMb:=kn.l 1 rfl
 refine Q3 ?_
 refine Qa ?_
 simp only[go_sem,l2,l4,l5,l8,l9,l10,l11,l13,l17,l18,l45,l46,l47,l77,l78,l79,hMb]
 refine⟨Qaz2 q b p,fun it hit H1 h1=>?_⟩
 have kn:=kn.al hit h1
 refine Qh (Qe (Qx (fun m e1 H1=>∃(left:List (C×V)) (cur:Option (C×V)) (ml:List (Int×Int)) (v2:Nat),m=left.length∧left.Nodup∧(∀y∈left,y∈mI (zpA q b p))∧ml.length+left.length≤(zpA q b p).length∧
  (∀w a,(w,a)∈zpA q b p→(C.int .i64 w,V.c (.int .i64 a))∈left∨(w.toNat∈l→lkI ((l.idxOf w.toNat:Nat):Int) ml=some a))∧
  Kn H0 H1 E (([(M,.map ver (mI nl)),(Mb,.map vb (mI (zpA q b p)))]++(R++[(M2,.map v2 (mI ml))]))++[(it,.iter (some (Mb,vb)) left cur)])∧
  lk 2 e1=.c a2∧lk 4 e1=.c a4∧lk 5 e1=.c (.mp M)∧lk 8 e1=.c a8∧lk 9 e1=.c a9∧lk 10 e1=.c (.vsl pz 1 0 L9)∧lk 11 e1=.c (.int .i64 i)∧lk 13 e1=.c (.ptr x13 0)∧lk 18 e1=.c (.mp M2)∧
  lk 45 e1=.c a45∧lk 46 e1=.c (.int .i64 L9)∧lk 47 e1=.c (.int .i64 i)∧lk 77 e1=.c a77∧lk 78 e1=.c (.int .i64 n78)∧lk 79 e1=.c (.int .i64 k79)∧lk 85 e1=.c (.itr it)) (mI (zpA q b p)).length ?_ ?_))
 ·refine⟨mI (zpA q b p),none,[],0,rfl,Qaz2 q b p,fun y h=>h,by rw[Qauo];simp,fun w a h=>.inl (List.mem_map.2 ⟨(w,a),h,rfl⟩),kn,rfl,rfl,rfl,rfl,rfl,rfl,rfl,rfl,rfl,rfl,rfl,rfl,rfl,rfl,rfl,rfl⟩
 ·clear kn l2 l4 l5 l8 l9 l10 l11 l13 l17 l18 l45 l46 l47 l77 l78 l79 hMb hit h1
  rintro m e1 H2 ⟨left,cur,ml,v2,rfl,hlnd,hsub,hlen,hall,kn,l2,l4,l5,l8,l9,l10,l11,l13,l18,l45,l46,l47,l77,l78,l79,l85⟩
  have hMb:=kn.l 1 rfl
  have hM:=kn.l 0 rfl
  have hit:=(kn.get (it,.iter (some (Mb,vb)) left cur) (by simp)).1
  simp only[]at hit
  refine Qa ?_
  simp only[go_sem,l2,l4,l5,l8,l9,l10,l11,l13,l18,l45,l46,l47,l77,l78,l79,l85,hit,hMb]
  refine⟨⟨_,rfl⟩,fun hnil=>?_,fun y left' hy hl' hnd' hlen' H3 h3=>?_⟩
  ·subst hnil
   simp only[go_sem,Qif,List.getD_cons_zero]
   refine Qh (Qf rfl (fun h=>by simp at h) fun _=>?_)
   refine Qw ?_
   simp only[go_sem,X.next]
   exact hQ _ _ ml v2 (fun w a h hm=>((hall w a h).resolve_left (by simp)) hm) kn.drop l2 l4 l5 l8 l9 l10 l11 l13 l18 l45 l46 l47 l77 l78 l79
  ·obtain⟨⟨w,a⟩,hz,rfl⟩:=List.mem_map.1 (hsub y hy)
   have hw0:0≤w:=by obtain⟨j,_,_,e⟩:=preds_mem.1 (Qa7r hz);omega
   have hLl:(([(M,Obj.map ver (mI nl)),(Mb,Obj.map vb (mI (zpA q b p)))]++(R++[(M2,Obj.map v2 (mI ml))]))++[(it,Obj.iter (some (Mb,vb)) left cur)])[([(M,Obj.map ver (mI nl)),(Mb,Obj.map vb (mI (zpA q b p)))]++(R++[(M2,Obj.map v2 (mI ml))])).length]? = some (it,Obj.iter (some (Mb,vb)) left cur):=by simp
   have kn:=kn.stL _ hLl h3
   have kn:Kn H0 H3 E (([(M,.map ver (mI nl)),(Mb,.map vb (mI (zpA q b p)))]++(R++[(M2,.map v2 (mI ml))]))++[(it,.iter (some (Mb,vb)) left' (some (C.int .i64 w,V.c (.int .i64 a))))]):=by simpa using kn
   have hMb:=kn.l 1 rfl
   have hM:=kn.l 0 rfl
   have hit:=(kn.get (it,.iter (some (Mb,vb)) left' (some (C.int .i64 w,V.c (.int .i64 a)))) (by simp)).1
   have hokM:Qq0 H3 (.mp M)=True:=by simp only[Qq0,hM]
   have henM:Qaa H3 (.mp M)=mI nl:=by simp only[Qaa,hM]
   simp only[go_sem,l2,l4,l5,l8,l9,l10,l11,l13,l18,l45,l46,l47,l77,l78,l79,l85,Qif,List.getD_cons_zero]
   refine Qh (Qf rfl (fun _=>?_) fun h=>by simp at h)
   refine Qi ?_
   try simp only[go_sem]
   refine Qe ?_
   refine Qa ?_
   simp only[go_sem,hit,hMb,Qr7,List.getD_cons_zero,List.getD_cons_succ]
   refine⟨⟨_,rfl⟩,?_⟩
   by_cases hwm:w.toNat∈l
   ·have hlk:=hN.at hw0 hwm
    refine Qa ?_
    simp only[go_sem,hokM,henM,Qg8,Qab8,Qaui,hlk,Option.isSome_some,List.getD_cons_zero,List.getD_cons_succ]
    refine Qa ?_
    simp only[go_sem]
    refine Qf rfl (fun _=>?_) (fun h=>by simp at h)
    have hM2:=(kn.get (M2,.map v2 (mI ml)) (by simp)).1
    refine Qv ?_
    simp only[go_sem,hM2,Qg8,Qauo,Qajd]
    refine⟨by simp only[LIM];omega,fun H4 h4=>?_⟩
    have kn:Kn H0 H3 E ([(M2,.map v2 (mI ml))]++([(M,.map ver (mI nl)),(Mb,.map vb (mI (zpA q b p)))]++(R++[(it,.iter (some (Mb,vb)) left' (some (C.int .i64 w,V.c (.int .i64 a))))]))):=kn.perm (Qm fun f hf h0 hc hp=>by simp only[hf];omega)
    have kn:=kn.stL 0 rfl h4
    have kn:Kn H0 H4 E (([(M,.map ver (mI nl)),(Mb,.map vb (mI (zpA q b p)))]++(R++[(M2,.map (v2+1) (mI (upI ((l.idxOf w.toNat:Nat):Int) a ml)))]))++[(it,.iter (some (Mb,vb)) left' (some (C.int .i64 w,V.c (.int .i64 a))))]):=kn.perm (Qm fun f hf h0 hc hp=>by
     show f ([(M2,_)]++([(M,_),(Mb,_)]++(R++[(it,_)])))=_
     simp only[hf];omega)
    show ∃m,_
    refine⟨left'.length,by omega,left',_,upI ((l.idxOf w.toNat:Nat):Int) a ml,v2+1,rfl,hnd',fun y h=>hsub y ((hl' y).1 h).1,by have:=Qa6h ((l.idxOf w.toNat:Nat):Int) a ml;omega,fun w' a' h'=>?_,kn,rfl,rfl,rfl,rfl,rfl,rfl,rfl,rfl,rfl,rfl,rfl,rfl,rfl,rfl,rfl,rfl⟩
    by_cases hww:w'=w
    ·subst hww
     have:=Qbmx hz h'
     subst this
     exact .inr fun _=>by rw[Qbhy,if_pos rfl]
    ·rcases hall w' a' h' with h|h
     ·refine .inl ((hl' _).2 ⟨h,fun e=>hww ?_⟩)
      simp only[Prod.mk.injEq,C.int.injEq,true_and]at e
      exact e.1
     ·refine .inr fun hm=>?_
      have hw'0:0≤w':=by obtain⟨j,_,_,e⟩:=preds_mem.1 (Qa7r h');omega
      rw[Qbhy,if_neg (fun e=>hww ?_),h hm]
      have:=Qbck hm hwm (by omega)
      omega
   ·have hlk:=hN.no hwm
    refine Qa ?_
    simp only[go_sem,hokM,henM,Qg8,Qab8,Qaui,hlk,Option.isSome_none,List.getD_cons_zero,List.getD_cons_succ]
    refine Qa ?_
    simp only[go_sem]
    refine Qf rfl (fun h=>by simp at h) fun _=>?_
    refine Qi ?_
    try simp only[go_sem]
    show ∃m,_
    refine⟨left'.length,by omega,left',_,ml,v2,rfl,hnd',fun y h=>hsub y ((hl' y).1 h).1,by omega,fun w' a' h'=>?_,kn,rfl,rfl,rfl,rfl,rfl,rfl,rfl,rfl,rfl,rfl,rfl,rfl,rfl,rfl,rfl,rfl⟩
    by_cases hww:w'=w
    ·subst hww
     exact .inr fun hm=>absurd hm hwm
    ·rcases hall w' a' h' with h|h
     ·refine .inl ((hl' _).2 ⟨h,fun e=>hww ?_⟩)
      simp only[Prod.mk.injEq,C.int.injEq,true_and]at e
      exact e.1
     ·exact .inr h
end Go.AE.Y

namespace Go.AE.Y
attribute [local go_sem] cond_true cond_false Bool.not_true Bool.not_false
open Go.Proofs.Tryz
variable {H H0:Heap}{K:V→Heap→Prop}{E L:List (Nat×Obj)}{q:CodeD}
def Qbnd (e:Nat×Int):List C:=[.sl true 2 [],.sl true 4 [],.int .i64 1,.int .i64 0,.sl true 1 [[.int .i64 e.2]]]
def blkN (q:CodeD)(s j:Nat):BlkD:=⟨(Qaj q j).phis,(Qaj q j).ins,(Qaj q j).jump,(Qaj q j).on,stX (gnx q) q.blocks.length s j⟩
def nwL (q:CodeD):List (Nat×Int):=newL (gnx q) q.blocks.length q.blocks.length
def mpF (q:CodeD)(s r:Nat):List (List (Int×Int)):=if r<q.blocks.length then (Qaj q r).phis.map fun p=>mpS q r p s else []
structure SpI (q:CodeD)(s:Nat)(ks:List NBlk)(ss:List PSl):Prop where
 kn:ks.length=q.blocks.length
 ky:∀j (h:j<ks.length),ks[j].y=blkN q s j
 ko:∀k∈ks,k.ok
 sl:ss.length=q.blocks.length+s
 sf:PInv (mpF q s) ss
def rwN (q:CodeD)(s:Nat)(ks:List NBlk):List (List C):=ks.map NBlk.row++((nwL q).take s).map Qbnd
theorem Qbeb {ms:List PMap}{j:Nat}(hj:j<ms.length):(ms.flatMap PMap.lg).Perm ([(ms[j].m,.map ms[j].ver (mI ms[j].l))]++(ms.eraseIdx j).flatMap PMap.lg):=Qci hj
def mvM (k b:Nat)(p:PMap):PMap:=⟨p.m,p.ver+1+1,deI (b:Int) (upI (k:Int) ((lkI (b:Int) p.l).getD 0) p.l)⟩
theorem SpI.step {s b:Nat}{v:Int}{ks:List NBlk}{ss:List PSl}{k:NBlk}{sv s0:PSl}(h:SpI q s ks ss)(F:SpF (gnx q) q.blocks.length)(he:(nwL q)[s]? = some (b,v))
  (hky:k.y=blkN q (s+1) b) (hko:k.ok) (hv:v.toNat<ss.length) (hs0:ss[v.toNat]=s0) (hsv:sv.ms=s0.ms.map (mvM (q.blocks.length+s) b)) (hsvo:sv.ok) :
  SpI q (s+1) (ks.set b k) ((ss++[(⟨[],.sl true 1 [],[]⟩:PSl)]).set v.toNat sv):=by
 obtain⟨hb,hvm,_⟩:=mem_newL.1 (List.mem_of_getElem? he)
 have hvr:=F.rng b hb v hvm
 refine⟨by rw[List.length_set];exact h.kn,fun j hj=>?_,fun w hw=>?_,by rw[List.length_set,List.length_append,h.sl];simp;omega,⟨fun r hr=>?_,fun w hw=>?_⟩⟩
 ·have hj':j<ks.length:=by simpa using hj
  rw[List.getElem_set]
  split
  ·rename_i e;subst e;exact hky
  ·rename_i e
   rw[h.ky j hj',blkN,blkN,Qbf9 F he (fun hh=>e hh.symm)]
 ·rcases List.mem_or_eq_of_mem_set hw with hw|rfl
  ·exact h.ko w hw
  ·exact hko
 ·have hr':r<ss.length+1:=by simpa using hr
  rw[List.getElem_set]
  split
  ·rename_i e
   have hrn:r<q.blocks.length:=by omega
   have h1:=h.sf.f v.toNat hv
   rw[hs0,e,mpF,if_pos hrn]at h1
   rw[hsv,List.map_map,mpF,if_pos hrn]
   have h2:(s0.ms.map PMap.l).map (fun l=>deI (b:Int) (upI ((q.blocks.length+s:Nat):Int) ((lkI (b:Int) l).getD 0) l))=(Qaj q r).phis.map fun p=>mpS q r p (s+1):=by
    rw[h1,List.map_map]
    refine List.map_congr_left fun p _=>?_
    have he2:(newL (gnx q) q.blocks.length q.blocks.length)[s]? = some (b,v):=he
    simp only[Function.comp_apply]
    rw[mpS,he2]
    simp only
    rw[if_pos (by omega)]
   rw[←h2,List.map_map];rfl
  ·rename_i e
   by_cases hrs:r<ss.length
   ·rw[List.getElem_append_left hrs,h.sf.f r hrs,mpF,mpF]
    by_cases hrn:r<q.blocks.length
    ·rw[if_pos hrn,if_pos hrn]
     refine List.map_congr_left fun p _=>?_
     have he2:(newL (gnx q) q.blocks.length q.blocks.length)[s]? = some (b,v):=he
     rw[mpS,he2]
     simp only
     rw[if_neg (by omega)]
    ·rw[if_neg hrn,if_neg hrn]
   ·have:r=ss.length:=by omega
    subst this
    have hsl:=h.sl
    rw[List.getElem_append_right (Nat.le_refl _),mpF,if_neg (by omega)]
    simp
 ·rcases List.mem_or_eq_of_mem_set hw with hw|rfl
  ·rcases List.mem_append.1 hw with hw|hw
   ·exact h.sf.ok w hw
   ·simp only[List.mem_singleton]at hw;subst hw;exact .nil 1
  ·exact hsvo
end Go.AE.Y

namespace Go.AE.Y
attribute [local go_sem] cond_true cond_false Bool.not_true Bool.not_false
open Go.Proofs.Tryz
variable {H H0:Heap}{K:V→Heap→Prop}{E L:List (Nat×Obj)}{q:CodeD}{l:List Nat}
structure PkP (q:CodeD)(l:List Nat)(i b k:Nat)(ss:List PSl):Prop where
 n:ss.length=l.length
 m:∀r (h:r<ss.length),r<i→PhM q l (l.getD r 0) (Qaj q (l.getD r 0)).phis (ss[r]).ms
 c:∀(h:i<ss.length),PhM q l b ((Qaj q b).phis.take k) (ss[i]).ms
 z:∀r (h:r<ss.length),i<r→(ss[r]).ms=[]
 ok:∀s∈ss,s.ok
theorem PkM.start {i b:Nat}{ss:List PSl}(h:PkM q l i ss):PkP q l i b 0 ss:=
 ⟨h.n,h.m,fun hi=>by rw[h.z i hi (Nat.le_refl _),List.take_zero];exact .nil b,fun r hr hir=>h.z r hr (by omega),h.ok⟩
theorem PkP.fin {i b:Nat}{ss:List PSl}(h:PkP q l i b (Qaj q b).phis.length ss)(hb:l.getD i 0=b):PkM q l (i+1) ss:=
 ⟨h.n,fun r hr hri=>by
  by_cases e:r=i
  ·subst e;rw[hb];have:=h.c hr;rw[List.take_length]at this;exact this
  ·exact h.m r hr (by omega),fun r hr hri=>h.z r hr (by omega),h.ok⟩
theorem PkP.step {i b k:Nat}{ss:List PSl}(h:PkP q l i b k ss)(hi:i<ss.length)(hk:k<(Qaj q b).phis.length){s':PSl}{m':PMap}(hs:s'.ms=(ss[i]).ms++[m'])(hso:s'.ok)(hm:Qbgl q l b (Qaj q b).phis[k] m'.l) :
  PkP q l i b (k+1) (ss.set i s'):=by
 refine⟨by rw[List.length_set];exact h.n,fun r hr hri=>?_,fun hr=>?_,fun r hr hri=>?_,fun w hw=>?_⟩
 ·have hr':r<ss.length:=by simpa using hr
  rw[List.getElem_set,if_neg (by omega)];exact h.m r hr' hri
 ·rw[List.getElem_set,if_pos rfl,hs,List.take_succ_eq_append_getElem hk]
  exact (h.c hi).snoc hm
 ·have hr':r<ss.length:=by simpa using hr
  rw[List.getElem_set,if_neg (by omega)];exact h.z r hr' hri
 ·rcases List.mem_or_eq_of_mem_set hw with hw|rfl
  ·exact h.ok w hw
  ·exact hso
set_option maxHeartbeats 8000000 in
theorem Qbd3 {Q:X→Env→Heap→Prop}{e:Env}{M ver i b x13 pz:Nat}{nl:List (Int×Int)}{os:List PSl}{ss:List PSl}{a2 a4 a8 a9 a45:C}{R:List (Nat×Obj)}
  (ho:q.ok) (hN:NowOk l l.length nl) (hb:b<q.blocks.length) (hi:i<l.length) (hln:l.length≤1000) (hob:l.getD i 0=b)
  (hos:PInv (phT q q.blocks.length) os) (hosl:os.length=q.blocks.length) (hS:PkM q l i ss)
  (kn:Kn H0 H E ([(M,.map ver (mI nl)),(pz,.vec 1 (ss.map PSl.row))]++(psL os++(psL ss++R))))
  (l2:lk 2 e=.c a2) (l4:lk 4 e=.c a4) (l5:lk 5 e=.c (.mp M)) (l8:lk 8 e=.c a8) (l9:lk 9 e=.c a9) (l10:lk 10 e=.c (.vsl pz 1 0 l.length)) (l11:lk 11 e=.c (.int .i64 i)) (l13:lk 13 e=.c (.ptr x13 0))
  (l45:lk 45 e=.c a45) (l46:lk 46 e=.c (.int .i64 l.length)) (l47:lk 47 e=.c (.int .i64 i)) (l77:lk 77 e=.c (os[b]'(by omega)).c) (l78:lk 78 e=.c (.int .i64 (Qaj q b).phis.length)) (l79:lk 79 e=.c (.int .i64 0))
  (hQ:∀(e:Env) (H':Heap) (ss:List PSl),PkM q l (i+1) ss→Kn H0 H' E ([(M,.map ver (mI nl)),(pz,.vec 1 (ss.map PSl.row))]++(psL os++(psL ss++R)))→
   lk 2 e=.c a2→lk 4 e=.c a4→lk 5 e=.c (.mp M)→lk 8 e=.c a8→lk 9 e=.c a9→lk 10 e=.c (.vsl pz 1 0 l.length)→lk 11 e=.c (.int .i64 i)→lk 13 e=.c (.ptr x13 0)→
   lk 45 e=.c a45→lk 46 e=.c (.int .i64 l.length)→lk 47 e=.c (.int .i64 i)→Q .nrm e H') :
  Qac prog (.block 6 (.loop Qsb)) Q e H:=by
 have hil:=ho.il b hb
 have hb1:=ho.b1
 rw[←Qa8 hb]at hil
 have hbo:b<os.length:=by omega
 obtain⟨so,hso⟩:∃s,os[b]=s:=⟨_,rfl⟩
 rw[hso]at l77
 have hsoo:so.ok:=by rw[←hso];exact hos.ok _ (List.getElem_mem hbo)
 have hsof:=hos.f b hbo
 rw[hso,phT,if_pos hb]at hsof
 have hsol:so.ms.length=(Qaj q b).phis.length:=by have:=congrArg List.length hsof;simpa using this
 have hsow:=Gr.isOw hsoo
 refine Qe (Qx (fun m e1 H1=>∃(k:Nat) (ss:List PSl),m=(Qaj q b).phis.length-k∧k≤(Qaj q b).phis.length∧PkP q l i b k ss∧
  Kn H0 H1 E ([(M,.map ver (mI nl)),(pz,.vec 1 (ss.map PSl.row))]++(psL os++(psL ss++R)))∧
  lk 2 e1=.c a2∧lk 4 e1=.c a4∧lk 5 e1=.c (.mp M)∧lk 8 e1=.c a8∧lk 9 e1=.c a9∧lk 10 e1=.c (.vsl pz 1 0 l.length)∧lk 11 e1=.c (.int .i64 i)∧lk 13 e1=.c (.ptr x13 0)∧
  lk 45 e1=.c a45∧lk 46 e1=.c (.int .i64 l.length)∧lk 47 e1=.c (.int .i64 i)∧lk 77 e1=.c so.c∧lk 78 e1=.c (.int .i64 (Qaj q b).phis.length)∧lk 79 e1=.c (.int .i64 k)) (Qaj q b).phis.length ?_ ?_)
 ·exact⟨0,ss,by omega,by omega,hS.start,kn,l2,l4,l5,l8,l9,l10,l11,l13,l45,l46,l47,l77,l78,l79⟩
 ·clear kn l2 l4 l5 l8 l9 l10 l11 l13 l45 l46 l47 l77 l78 l79 hS
  clear ss
  rintro m e1 H1 ⟨k,ss,hm,hk,hP,kn,l2,l4,l5,l8,l9,l10,l11,l13,l45,l46,l47,l77,l78,l79⟩
  refine Qa ?_
  simp only[go_sem,l2,l4,l5,l8,l9,l10,l11,l13,l45,l46,l47,l77,l78,l79,hsow]
  refine Qh (Qf rfl ?_ ?_)
  ·intro hc
   have hlt:k<(Qaj q b).phis.length:=by simpa using hc
   obtain⟨p,hp⟩:∃p,(Qaj q b).phis[k]=p:=⟨_,rfl⟩
   have hksm:k<so.ms.length:=by omega
   obtain⟨pm,hpm⟩:∃pm,so.ms[k]=pm:=⟨_,rfl⟩
   have hpml:pm.l=zpA q b p:=by
    have h1:(so.ms.map PMap.l)[k]? = some pm.l:=by simp[hksm,hpm]
    rw[hsof]at h1
    simp only[List.getElem?_map,List.getElem?_eq_getElem hlt,hp,Option.map_some]at h1
    exact (Option.some.inj h1).symm
   obtain⟨zs,hzs,hsg⟩:∃z,so.c=.vsl z 1 0 so.ms.length∧so.g=[(z,.vec 1 (Qec so.ms))]:=by
    rcases hsoo with ⟨_,h,_⟩|⟨z,h1,h2⟩
    ·have:=congrArg List.length h;rw[Qb2]at this;simp only[List.length_nil]at this;omega
    ·exact⟨z,by rw[h1,Qb2],h2⟩
   have hsl:=hP.n
   have his:i<ss.length:=by omega
   obtain⟨s,hs⟩:∃s,ss[i]=s:=⟨_,rfl⟩
   have hsok:s.ok:=by rw[←hs];exact hP.ok _ (List.getElem_mem his)
   have hsc:=hP.c his
   rw[hs]at hsc
   have hsm:s.ms.length=k:=by have:=hsc.len;rw[List.length_take]at this;omega
   have hsw:=Gr.isOw hsok
   have hmpg:(Qec so.ms).getD k []=[.mp pm.m]:=by rw[Qao8 _ _ hksm,hpm]
   have hmpt:(Qec so.ms).take so.ms.length=Qec so.ms:=List.take_of_length_le (by rw[Qb2];omega)
   have hosp:=Q1b hbo hso
   have hmsp:=Qbeb hksm
   rw[hpm,hpml]at hmsp
   have hsp:=Q1b his hs
   have hzsm:(zs,Obj.vec 1 (Qec so.ms))∈psL os:=List.mem_flatMap.2 ⟨so,by rw[←hso];exact List.getElem_mem hbo,List.mem_append_right _ (by rw[hsg];simp)⟩
   have hzv:=(kn.get (zs,.vec 1 (Qec so.ms)) (by simp[hzsm])).1
   refine Qi ?_
   try simp only[go_sem]
   refine Qh (Qe ?_)
   refine Qa ?_
   simp only[go_sem,l2,l4,l5,l8,l9,l10,l11,l13,l45,l46,l47,l77,l78,l79,hzs,hzv,Qb2,hmpt,hksm,hmpg,Nat.zero_add,Nat.le_refl]
   refine Qa ?_
   simp only[go_sem]
   intro M2 hM2 H2 h2
   have kn:=kn.al hM2 h2
   simp only[go_sem,Qr6]
   obtain⟨RR,hRR⟩:∃RR,[(pz,Obj.vec 1 (ss.map PSl.row))]++((psL (os.eraseIdx b)++((so.ms.eraseIdx k).flatMap PMap.lg++so.g))++(psL ss++R))=RR:=⟨_,rfl⟩
   have kn:Kn H0 H2 E ([(M,.map ver (mI nl)),(pm.m,.map pm.ver (mI (zpA q b p)))]++(RR++[(M2,.map 0 (mI []))])):=kn.perm (Qm fun f hf h0 hc hp=>by
    have e2:∀(a b:Nat×Obj),f [a,b]=f [a]+f [b]:=fun a b=>hc a [b]
    have h1:=hp _ _ hosp
    have h2:=hp _ _ hmsp
    rw[PSl.lg]at h1
    rw[←hRR]
    show f ([(M,_),(pz,_)]++(psL os++(psL ss++R))++[(M2,.map 0 [])])=_
    simp only[hf,e2]at h1 h2⊢
    have:mI []=[]:=rfl
    rw[this];omega)
   have hzl:(zpA q b p).length≤100000:=by
    rw[zpA,List.length_zip]
    have:=Qb0 (gnx q) (b:Int) q.blocks.length
    omega
   refine Qbiv hN hzl kn rfl rfl rfl rfl rfl rfl rfl rfl rfl rfl rfl rfl rfl rfl rfl rfl fun e3 H3 ml v2 hml kn l2 l4 l5 l8 l9 l10 l11 l13 l18 l45 l46 l47 l77 l78 l79=>?_
   have kn:Kn H0 H3 E (([(pz,.vec 1 (ss.map PSl.row)),(M,.map ver (mI nl))]++([(M2,.map v2 (mI ml))]++(psL os++((psL (ss.eraseIdx i)++s.ms.flatMap PMap.lg)++R))))++s.g):=kn.perm (Qm fun f hf h0 hc hp=>by
    have e2:∀(a b:Nat×Obj),f [a,b]=f [a]+f [b]:=fun a b=>hc a [b]
    have h1:=hp _ _ hosp
    have h2:=hp _ _ hmsp
    have h3:=hp _ _ hsp
    rw[PSl.lg]at h1 h3
    rw[←hRR]
    simp only[hf,e2]at h1 h2 h3⊢
    omega)
   have hrl:(ss.map PSl.row).length=l.length:=by rw[List.length_map,hsl]
   have hrt:(ss.map PSl.row).take l.length=ss.map PSl.row:=List.take_of_length_le (by omega)
   have hsg2:(ss.map PSl.row).getD i []=[s.c]:=by simp[List.getD_eq_getElem?_getD,his,hs,PSl.row]
   have hpz:=kn.l 0 rfl
   refine Qv ?_
   simp only[go_sem,l2,l4,l5,l8,l9,l10,l11,l13,l18,l45,l46,l47,l77,l78,l79,hpz,hrl,hrt,hi,hsg2,hsw,Nat.zero_add,Nat.le_refl]
   refine kn.growR (new:=[[.mp M2]]) hsok (.mk' _ _ _ _) (by intro r hr;simp only[List.mem_singleton]at hr;rw[hr];rfl) (by simp only[Qb2,LIM,List.length_cons,List.length_nil];omega) fun t2 g2 H4 hg2 ht2 kn=>?_
   have hpz:=kn.l 0 rfl
   simp only[go_sem,l2,l4,l5,l8,l9,l10,l11,l13,l18,l45,l46,l47,l77,l78,l79,Qr8,hpz,hrl,hrt,hi,hsg2,hsw,ht2,Nat.zero_add,Nat.le_refl]
   intro H5 h5
   obtain⟨s',hs'⟩:∃s':PSl,s'=⟨s.ms++[⟨M2,v2,ml⟩],t2,g2⟩:=⟨_,rfl⟩
   have hs'ok:s'.ok:=by
    rw[hs']
    show Gr g2 1 (Qec (s.ms++[⟨M2,v2,ml⟩])) t2
    have e:Qec (s.ms++[⟨M2,v2,ml⟩])=Qec s.ms++[[.mp M2]]:=by simp[Qec]
    rw[e];exact hg2
   have hset:(ss.map PSl.row).set i [t2]=(ss.set i s').map PSl.row:=by rw[List.map_set,hs'];rfl
   rw[hset]at h5
   have kn:=kn.stL 0 rfl h5
   have hps2:=Qbec (s:=s') his
   have kn:Kn H0 H5 E ([(M,.map ver (mI nl)),(pz,.vec 1 ((ss.set i s').map PSl.row))]++(psL os++(psL (ss.set i s')++R))):=kn.perm (Qm fun f hf h0 hc hp=>by
    have e2:∀(a b:Nat×Obj),f [a,b]=f [a]+f [b]:=fun a b=>hc a [b]
    have:=hp _ _ hps2
    have es:s'.lg=(s.ms.flatMap PMap.lg++[(M2,.map v2 (mI ml))])++g2:=by rw[hs',PSl.lg,List.flatMap_append];simp[PMap.lg]
    rw[es]at this
    show f ([(pz,_),(M,_)]++([(M2,_)]++(psL os++((psL (ss.eraseIdx i)++s.ms.flatMap PMap.lg)++R)))++g2)=_
    simp only[hf,e2]at this⊢;omega)
   refine Qv ?_
   simp only[go_sem]
   refine⟨Qq (by omega) (by omega),?_⟩
   show ∃m,_
   refine⟨(Qaj q b).phis.length-(k+1),by omega,k+1,ss.set i s',rfl,by omega,hP.step his hlt (m':=⟨M2,v2,ml⟩) (by rw[hs,hs']) hs'ok (by rw[hp];exact hml),kn,rfl,rfl,rfl,rfl,rfl,rfl,rfl,rfl,rfl,rfl,rfl,?_,rfl,rfl⟩
   first|rfl|exact congrArg V.c hzs.symm
  ·intro hc
   have hke:k=(Qaj q b).phis.length:=by have:(Qaj q b).phis.length≤k:=(by simpa using hc);omega
   subst hke
   refine Qw ?_
   simp only[go_sem,X.next]
   exact hQ _ _ ss (hP.fin hob) kn rfl rfl rfl rfl rfl rfl rfl rfl rfl rfl rfl
end Go.AE.Y

namespace Go.AE.Y
attribute [local go_sem] cond_true cond_false Bool.not_true Bool.not_false
open Go.Proofs.Tryz
variable {H H0:Heap}{K:V→Heap→Prop}{E L:List (Nat×Obj)}{q:CodeD}
def spO (x2 x3:Nat)(q:CodeD)(bc:C):List (Nat×Obj):=[(x2,.st [.int .i64 0,.int .i64 0,.sl true 5 []]),(x3,.st [.int .i64 q.params,.int .i64 q.regs,bc])]
end Go.AE.Y

namespace Go.AE.Y
attribute [local go_sem] cond_true cond_false Bool.not_true Bool.not_false
open Go.Proofs.Tryz
variable {H H0:Heap}{K:V→Heap→Prop}{E L:List (Nat×Obj)}{q:CodeD}
def spY (q:CodeD)(j:Nat):BlkD:=if j<q.blocks.length then blkN q (nwL q).length j else match (nwL q)[j-q.blocks.length]? with
 |some e=>goB e.2
 |none=>⟨[],[],0,0,[]⟩
def spG (q:CodeD)(r:Nat)(p:PhiD)(w:Int):Int:=(lkI w (mpS q r p (nwL q).length)).getD 0
def ksN (q:CodeD)(ks:List NBlk):List KBlk:=ks.map (fun k=>⟨k.y,k.pc,k.pl⟩)++(nwL q).map fun e=>⟨goB e.2,.sl true 2 [],[]⟩
theorem Qa63:∀(ks:List NBlk),(ks.flatMap NBlk.lg).Perm (ks.flatMap NBlk.pl++ks.flatMap NBlk.nl)
 |[]=>.refl _
 |k::ks=>by
  have ih:=Qa63 ks
  refine Qm fun f hf h0 hc hp=>?_
  have:=hp _ _ ih
  simp only[List.flatMap_cons,NBlk.lg,hf]at this⊢;omega
end Go.AE.Y

namespace Go.AE.Y
attribute [local go_sem] cond_true cond_false Bool.not_true Bool.not_false
open Go.Proofs.Tryz
variable {H H0:Heap}{K:V→Heap→Prop}{E L:List (Nat×Obj)}{q:CodeD}
end Go.AE.Y

namespace Go.AE.Y
attribute [local go_sem] cond_true cond_false Bool.not_true Bool.not_false
open Go.Proofs.Tryz
variable {H H0:Heap}{K:V→Heap→Prop}{E L:List (Nat×Obj)}{q:CodeD}{l:List Nat}
def pkG (q:CodeD)(l:List Nat)(j:Nat)(p:PhiD)(w:Int):Int:=p.args.getD ((Q1 (gnx q) ((l.getD j 0:Nat):Int) q.blocks.length).idxOf ((l.getD w.toNat 0:Nat):Int)) 0
def pkYj (q:CodeD)(l:List Nat)(j:Nat):BlkD:=pkY q (plcs q.blocks.length l) (l.getD j 0)
theorem Qbd6 (ho:q.ok)(hp:Pk q l){j:Nat}(hj:j<l.length):(pkYj q l j).next=pkN q (plcs q.blocks.length l) l j:=by
 rw[Q1a hj,pkYj,(hp.get hj).1]
theorem Qbix (q:CodeD)(l:List Nat)(j:Nat):stlY (pkN q (plcs q.blocks.length l) l) l.length (pkG q l) j (pkYj q l j)=pkX q (plcs q.blocks.length l) l j:=rfl
theorem Qbnx (ho:q.ok)(hp:Pk q l){r j':Nat}(hrl:r<l.length)(hj':j'<l.length){p:PhiD}(hm:p∈(Qaj q (l.getD r 0)).phis)(hmo:((l[j']:Nat):Int)∈Q1 (gnx q) ((l.getD r 0:Nat):Int) q.blocks.length) :
  (((l[j']:Nat):Int),pkG q l r p (j':Int))∈zpA q (l.getD r 0) p:=by
 obtain⟨e1,_,e3⟩:=hp.get hrl
 have e3':l.getD r 0<q.blocks.length:=by rw[e1];exact e3
 rw[Qa8 e3']at hm
 have hal:=(ho.bs _ e3').pal p hm
 have hix:=List.idxOf_lt_length_of_mem hmo
 have hja:(Q1 (gnx q) ((l.getD r 0:Nat):Int) q.blocks.length).idxOf ((l[j']:Nat):Int)<p.args.length:=by omega
 refine List.mem_iff_getElem.2 ⟨(Q1 (gnx q) ((l.getD r 0:Nat):Int) q.blocks.length).idxOf ((l[j']:Nat):Int),by rw[zpA,List.length_zip];omega,?_⟩
 simp only[zpA,List.getElem_zip,Prod.mk.injEq]
 refine⟨List.getElem_idxOf hix,?_⟩
 have hgd:∀(L:List Int) (i:Nat) (h:i<L.length),L[i]=L.getD i 0:=fun L i h=>by simp[List.getD_eq_getElem?_getD,h]
 rw[pkG,Int.toNat_natCast,(hp.get hj').1]
 exact hgd _ _ hja
theorem Qbnw (ho:q.ok)(hp:Pk q l)(hn:l.Nodup){ss:List PSl}(h:PkM q l l.length ss):PTel (pkN q (plcs q.blocks.length l) l) l.length (pkG q l) (pkYj q l) ss:=by
 refine⟨fun r hr=>(h.m r hr (by rw[←h.n];exact hr)).len,fun r hr i h1 h2 w hw=>?_,h.ok⟩
 have hrl:r<l.length:=by rw[←h.n];exact hr
 have hM:=(h.m r hr hrl).f i h1 h2
 obtain⟨j',hj',rfl,hmo⟩:=hp.preds ho (Qms hp.lt) hrl hw
 rw[←(hp.get hrl).1]at hmo
 have hz:=Qbnx ho hp hrl hj' (List.getElem_mem h2) hmo
 have:=hM _ _ hz (by rw[Int.toNat_natCast];exact List.getElem_mem hj')
 rw[Int.toNat_natCast,List.Nodup.idxOf_getElem hn j' hj']at this
 rw[this];rfl
def nK (k:NBlk):KBlk:=⟨k.y,k.pc,k.pl⟩
theorem Qboz (ks:List NBlk):(ks.map nK).flatMap KBlk.pl=ks.flatMap NBlk.pl:=by rw[List.flatMap_map];rfl
set_option maxHeartbeats 8000000 in
theorem Qbiu {Q:X→Env→Heap→Prop}{e:Env}{x4 x9 pz:Nat}{ks:List NBlk}{ss:List PSl}{bc:C}{bl:List (Nat×Obj)}(ho:q.ok)(hp:Pk q l)(hn:l.Nodup)
  (hkl:ks.length=l.length) (hky:∀j (h:j<ks.length),ks[j].y=pkYj q l j) (hko:∀k∈ks,k.ok) (hS:PkM q l l.length ss) (hgb:Gr bl 5 (ks.map NBlk.row) bc)
  (kn:Kn H0 H [] ([(x4,.st [.int .i64 0,.int .i64 0,.sl true 5 []]),(x9,.st [.int .i64 q.params,.int .i64 q.regs,bc]),(pz,.vec 1 (ss.map PSl.row))]++((psL ss++ks.flatMap NBlk.lg)++bl)))
  (l4:lk 4 e=.c (.ptr x4 0)) (l9:lk 9 e=.c (.ptr x9 0)) (l10:lk 10 e=.c (.vsl pz 1 0 l.length))
  (hQ:∀(e:Env) (H':Heap) (ks:List KBlk) (z:Nat),ks.length=(pkE q l).blocks.length→ks.map KBlk.y=(pkE q l).blocks→(∀k∈ks,k.ok)→
   Kn H0 H' [] ([(x4,.st [.int .i64 q.params,.int .i64 q.regs,.vsl z 5 0 (pkE q l).blocks.length]),(z,.vec 5 (ks.map KBlk.row))]++ks.flatMap KBlk.pl)→lk 4 e=.c (.ptr x4 0)→Q .ret e H') :
  Qac prog Qxp Q e H:=by
 have hpn:=hp.n
 have hl0:0<l.length:=by
  have:=hp.z
  cases l with
  |nil=>simp at this
  |cons=>simp
 have hND:(pkE q l).blocks.length=l.length:=Qdf q l
 have hrl:(ks.map NBlk.row).length=l.length:=by rw[List.length_map,hkl]
 have hsl:=hS.n
 obtain⟨zb,rfl,rfl⟩:∃z,bc=.vsl z 5 0 l.length∧bl=[(z,.vec 5 (ks.map NBlk.row))]:=by
  rcases hgb with ⟨_,h,_⟩|⟨z,h1,h2⟩
  ·have:=congrArg List.length h;rw[hrl]at this;simp only[List.length_nil]at this;omega
  ·exact⟨z,by rw[h1,hrl],h2⟩
 have hkp:=Qa63 ks
 have kn:Kn H0 H [] (([(zb,.vec 5 (ks.map NBlk.row)),(x9,.st [.int .i64 q.params,.int .i64 q.regs,.vsl zb 5 0 l.length]),(pz,.vec 1 (ss.map PSl.row)),(x4,.st [.int .i64 0,.int .i64 0,.sl true 5 []])]++(ks.flatMap NBlk.pl++psL ss))++ks.flatMap NBlk.nl):=kn.perm (Qm fun f hf h0 hc hp=>by
  have e4:∀(a b c d:Nat×Obj),f [a,b,c,d]=f [a]+f [b]+f [c]+f [d]:=fun a b c d=>by rw[hc a [b,c,d],hc b [c,d],hc c [d]];omega
  have e3:∀(a b c:Nat×Obj),f [a,b,c]=f [a]+f [b]+f [c]:=fun a b c=>by rw[hc a [b,c],hc b [c]];omega
  have:=hp _ _ hkp
  simp only[hf,e4,e3]at this⊢;omega)
 obtain⟨S,hSL,hSB,hfz,kn⟩:=kn.freeze0
 have hz:=hSB (zb,.vec 5 (ks.map NBlk.row)) (by simp)
 have hrows:FrzR H S (ks.map NBlk.row) ((ks.map nK).map KBlk.row):=by
  rw[List.map_map]
  refine Qut ks fun k hk=>?_
  have hk2:=hko k hk
  refine .cons (.same _ hk2.1.isOw) (.cons (Qg rfl) (.cons (Qg rfl) (.cons (Qg rfl) (.cons ?_ .nil))))
  exact Gr.frzM hk2.2 (fun p hp=>hSL p (List.mem_flatMap.2 ⟨k,hk,hp⟩)) (FrzR.same (Qr _))
 have hno:∀r∈ks.map NBlk.row,Go.AE.noOw r=true:=fun r hr=>by
  obtain⟨k,hk,rfl⟩:=List.mem_map.1 hr
  exact NBlk.noOw (hko k hk)
 have hfz2:=hfz.set (o:=.vec 5 ((ks.map nK).map KBlk.row)) hz.2 (by rw[hz.1];exact .vecR hrows hno)
 have kn:=kn.setL (o':=.vec 5 ((ks.map nK).map KBlk.row)) 0 rfl (by simp)
 generalize hH2:(H.frz S).set zb (.vec 5 ((ks.map nK).map KBlk.row))=H2 at hfz2 kn
 have hpl:=Qboz ks
 have kn:Kn H0 H2 [] ([(x9,.st [.int .i64 q.params,.int .i64 q.regs,.vsl zb 5 0 l.length]),(zb,.vec 5 ((ks.map nK).map KBlk.row)),(pz,.vec 1 (ss.map PSl.row))]++((ks.map nK).flatMap KBlk.pl++(psL ss++[(x4,.st [.int .i64 0,.int .i64 0,.sl true 5 []])]))):=kn.perm (Qm fun f hf h0 hc hp=>by
  have e4:∀(a b c d:Nat×Obj),f [a,b,c,d]=f [a]+f [b]+f [c]+f [d]:=fun a b c d=>by rw[hc a [b,c,d],hc b [c,d],hc c [d]];omega
  have e3:∀(a b c:Nat×Obj),f [a,b,c]=f [a]+f [b]+f [c]:=fun a b c=>by rw[hc a [b,c],hc b [c]];omega
  rw[hpl]
  show f ([(zb,_),(x9,_),(pz,_),(x4,_)]++(ks.flatMap NBlk.pl++psL ss))=_
  simp only[hf,e4,e3];omega)
 refine Q3 ?_
 refine c_gh (Qet S (Qaqb ?_) hfz2) (e':=[(4,.c (.ptr x4 0)),(9,.c (.ptr x9 0)),(10,.c (.vsl pz 1 0 l.length))]) ?_
 ·simp only[List.forall_mem_cons,l4,l9,l10]
  exact⟨.c _ _ (.same _ rfl),.c _ _ (.same _ rfl),.c _ _ (.same _ rfl),by simp⟩
 clear hfz hfz2 hSL hSB hz hrows hno hH2
 refine Qa ?_
 simp only[go_sem]
 have hst:StS (pkN q (plcs q.blocks.length l) l) l.length (pkG q l) (pkYj q l) 0 (ks.map nK):=⟨by rw[List.length_map,hkl],fun j hj=>by
  have hj':j<ks.length:=by simpa using hj
  rw[if_neg (Nat.not_lt_zero j),List.getElem_map,nK]
  exact hky j hj',fun k hk=>by
  obtain⟨k',hk',rfl⟩:=List.mem_map.1 hk
  exact (hko k' hk').1⟩
 refine Qbjq (nx:=pkN q (plcs q.blocks.length l) l) (N:=l.length) (g:=pkG q l) (Y:=pkYj q l) (by omega) hst (fun j hj=>Qbd6 ho hp hj) (fun j hj=>?_) hsl (Qbnw ho hp hn hS) kn fun ks2 H3 hS2 hkr kn=>?_
 ·obtain⟨e1,_,e3⟩:=hp.get hj
  have:=(ho.il _ e3).2
  rw[pkYj,pkY,e1,Qa8 e3]
  show (q.blocks[l[j]]).phis.length≤100000
  omega
 have kn:Kn H0 H3 [] ([(x4,.st [.int .i64 0,.int .i64 0,.sl true 5 []]),(x9,.st [.int .i64 q.params,.int .i64 q.regs,.vsl zb 5 0 l.length])]++([(zb,.vec 5 (ks2.map KBlk.row))]++(ks2.flatMap KBlk.pl++([(pz,.vec 1 (ss.map PSl.row))]++psL ss)))):=kn.perm (Qm fun f hf h0 hc hp=>by
  have e3:∀(a b c:Nat×Obj),f [a,b,c]=f [a]+f [b]+f [c]:=fun a b c=>by rw[hc a [b,c],hc b [c]];omega
  have e2:∀(a b:Nat×Obj),f [a,b]=f [a]+f [b]:=fun a b=>hc a [b]
  rw[hkr]
  simp only[hf,e3,e2];omega)
 have hx4:=kn.l 0 rfl
 have hx9:=kn.l 1 rfl
 refine Qa ?_
 simp only[go_sem,hx4,hx9]
 intro H4 h4
 have kn:=kn.stL 0 rfl h4
 refine Qk ?_
 rw[hND]at hQ
 refine hQ _ H4 ks2 zb hS2.n ?_ hS2.ok ?_ rfl
 ·refine List.ext_getElem (by rw[List.length_map,hS2.n,hND]) fun j h1 h2=>?_
  have hj:j<ks2.length:=by simpa using h1
  rw[List.getElem_map,hS2.y j hj,if_pos (by rw[←hS2.n];exact hj),Q58]
  exact Qbix q l j
 ·have kn:Kn H0 H4 [] (([(x4,.st [.int .i64 q.params,.int .i64 q.regs,.vsl zb 5 0 l.length]),(zb,.vec 5 (ks2.map KBlk.row))]++ks2.flatMap KBlk.pl)++([(x9,.st [.int .i64 q.params,.int .i64 q.regs,.vsl zb 5 0 l.length])]++([(pz,.vec 1 (ss.map PSl.row))]++psL ss))):=kn.perm (Qm fun f hf h0 hc hp=>by
   have e2:∀(a b:Nat×Obj),f [a,b]=f [a]+f [b]:=fun a b=>hc a [b]
   show f ([(x4,_),(x9,_)]++([(zb,_)]++(ks2.flatMap KBlk.pl++([(pz,_)]++psL ss))))=_
   simp only[hf,e2];omega)
  exact kn.drop
end Go.AE.Y

namespace Go.AE.Y
attribute [local go_sem] cond_true cond_false Bool.not_true Bool.not_false
open Go.Proofs.Tryz
variable {H H0:Heap}{K:V→Heap→Prop}{E L:List (Nat×Obj)}{q:CodeD}{l:List Nat}
def pkOb (x4 x9 M o pz ver:Nat)(nl:List (Int×Int))(os ss:List PSl)(q:CodeD)(bc:C):List (Nat×Obj):=
 [(x4,.st [.int .i64 0,.int .i64 0,.sl true 5 []]),(x9,.st [.int .i64 q.params,.int .i64 q.regs,bc]),(M,.map ver (mI nl)),(o,.vec 1 (os.map PSl.row)),(pz,.vec 1 (ss.map PSl.row))]
set_option maxHeartbeats 16000000 in
theorem Qa69 {fl fl2:Bool}(ho:q.ok)(hp:Pk q l)(hn:l.Nodup)(hK:∀H',Upd H H' []→K (.ag (pkE q l).cells) H') :
  Qo prog Qi3 [.ag [.int .i64 q.params,.int .i64 q.regs,.sl fl 5 (Qp q.blocks)],.c (.sl fl2 1 (Q9 l))] H K:=by
 have hb1:=ho.b1
 have hpn:=hp.n
 refine Qs ?_
 refine Qb Qai Qa0s ?_
 refine Qa ?_
 simp only[go_sem]
 intro x4 hx4 H1 h1
 have kn:=(Kn.start0 H).al hx4 h1
 refine Qa ?_
 simp only[go_sem]
 intro M hM H2 h2
 have kn:Kn H H2 [] [(x4,.st [.int .i64 0,.int .i64 0,.sl true 5 []]),(M,.map 0 (mI []))]:=kn.al hM h2
 simp only[go_sem,Qxq]
 refine Q3 ?_
 refine Qa ?_
 simp only[go_sem,Qad]
 try intro _
 refine Qh ?_
 refine Qbiw hn (by omega) kn rfl rfl rfl rfl rfl rfl rfl fun e3 H3 nl ver hN kn l1 l2 l4 l5=>?_
 simp only[go_sem]
 refine Qa ?_
 simp only[go_sem,l1,l2,l4,l5]
 refine Qbis ho fun o os H4 hosl hos k4=>?_
 have kn:=kn.comp0 k4
 simp only[go_sem,l1,l2,l4,l5,Qxr]
 refine Qa ?_
 simp only[go_sem]
 intro x9 hx9 H5 h5
 have kn:Kn H H5 [] ([(x9,.st [.int .i64 0,.int .i64 0,.sl true 5 []])]++([(x4,.st [.int .i64 0,.int .i64 0,.sl true 5 []]),(M,.map ver (mI nl))]++([(o,.vec 1 (os.map PSl.row))]++psL os))):=(kn.al hx9 h5).perm List.perm_append_comm
 have hx9:=kn.l 0 rfl
 simp only[go_sem,Qxs,hx9,Quy]
 intro H6 h6
 have kn:Kn H H6 [] ([(x9,.st [.int .i64 q.params,.int .i64 q.regs,.sl true 5 []])]++([(x4,.st [.int .i64 0,.int .i64 0,.sl true 5 []]),(M,.map ver (mI nl))]++([(o,.vec 1 (os.map PSl.row))]++psL os))):=kn.stL 0 rfl h6
 refine Qa ?_
 simp only[go_sem,Qad]
 try intro _
 refine⟨by simp only[LIM];omega,fun pz hpz H7 h7=>?_⟩
 obtain⟨ss0,hss0⟩:∃ss0:List PSl,ss0=List.replicate l.length ⟨[],.sl true 1 [],[]⟩:=⟨_,rfl⟩
 have hS0:PkM q l 0 ss0:=by
  rw[hss0]
  refine⟨by simp,fun r _ h=>by omega,fun r h _=>by simp,fun s hs=>?_⟩
  rw[List.eq_of_mem_replicate hs];exact .nil 1
 have e0:psL ss0=[]:=by rw[hss0];exact List.flatMap_eq_nil_iff.2 fun s hs=>by rw[List.eq_of_mem_replicate hs];rfl
 have hr0:List.replicate l.length [C.sl true 1 []]=ss0.map PSl.row:=by rw[hss0,List.map_replicate];rfl
 rw[hr0]at h7
 have kn:=kn.al hpz h7
 have kn:Kn H H7 [] ((pkOb x4 x9 M o pz ver nl os ss0 q (.sl true 5 [])++(psL os++(psL ss0++([]:List NBlk).flatMap NBlk.lg)))++[]):=kn.perm (Qm fun f hf h0 hc hp=>by
  have e5:∀(a b c d e:Nat×Obj),f [a,b,c,d,e]=f [a]+f [b]+f [c]+f [d]+f [e]:=fun a b c d e=>by rw[hc a [b,c,d,e],hc b [c,d,e],hc c [d,e],hc d [e]];omega
  have e2:∀(a b:Nat×Obj),f [a,b]=f [a]+f [b]:=fun a b=>hc a [b]
  rw[e0]
  show f ([(x9,_)]++([(x4,_),(M,_)]++([(o,_)]++psL os))++[(pz,_)])=f ((pkOb x4 x9 M o pz ver nl os ss0 q (.sl true 5 [])++(psL os++([]++[])))++[])
  simp only[hf,pkOb,e5,e2,h0];omega)
 clear hss0 hr0 h7 hpz e0
 simp only[go_sem,Qxt]
 refine Q3 ?_
 refine Qa ?_
 simp only[go_sem,Qad]
 try intro _
 refine Qh (Qe (Qx (fun m e1 H1=>∃(ks:List NBlk) (ss:List PSl) (bc:C) (bl:List (Nat×Obj)),m=l.length-ks.length∧ks.length≤l.length∧(∀j (h:j<ks.length),ks[j].y=pkYj q l j)∧(∀k∈ks,k.ok)∧PkM q l ks.length ss∧Gr bl 5 (ks.map NBlk.row) bc∧
  Kn H H1 [] ((pkOb x4 x9 M o pz ver nl os ss q bc++(psL os++(psL ss++ks.flatMap NBlk.lg)))++bl)∧
  lk 2 e1=.c (.pp [.int .i64 q.params,.int .i64 q.regs,.sl fl 5 (Qp q.blocks)])∧lk 4 e1=.c (.ptr x4 0)∧lk 5 e1=.c (.mp M)∧lk 8 e1=.c (.vsl o 1 0 q.blocks.length)∧lk 9 e1=.c (.ptr x9 0)∧lk 10 e1=.c (.vsl pz 1 0 l.length)∧
  lk 45 e1=.c (.sl fl2 1 (Q9 l))∧lk 46 e1=.c (.int .i64 l.length)∧lk 47 e1=.c (.int .i64 ks.length)) l.length ?_ ?_))
 ·exact⟨[],ss0,_,[],by simp,by simp,by simp,by simp,hS0,.nil 5,kn,rfl,rfl,rfl,rfl,rfl,rfl,rfl,rfl,rfl⟩
 ·clear kn hS0 hx9
  rintro m e1 H8 ⟨ks,ss,bc,bl,hm,hkl,hky,hko,hS,hgb,kn,l2,l4,l5,l8,l9,l10,l45,l46,l47⟩
  obtain⟨i,hi⟩:∃i,ks.length=i:=⟨_,rfl⟩
  rw[hi]at hm hkl hS l47
  refine Qa ?_
  simp only[go_sem,l2,l4,l5,l8,l9,l10,l45,l46,l47]
  refine Qh (Qf rfl ?_ ?_)
  ·intro hc
   have hlt:i<l.length:=by simpa using hc
   obtain⟨hg1,hg2,hbn⟩:=hp.get hlt
   obtain⟨b,hb⟩:∃b,l[i]=b:=⟨_,rfl⟩
   rw[hb]at hg1 hg2 hbn
   have hbo:b<os.length:=by omega
   have hbA:=Qa8 hbn
   refine Qi ?_
   try simp only[go_sem]
   refine Qh (Qe ?_)
   refine Qa ?_
   simp only[go_sem,l2,l4,l5,l8,l9,l10,l45,l46,l47,hlt,Qad,Qbl _ _ hlt,hg1]
   refine Qa ?_
   simp only[go_sem,hbn,Ql,Qax _ _ hbn,BlkD.take5,BlkD.allOw,BlkD.len5]
   refine Qap1 (ho.cl _ (List.getElem_mem hbn)) fun pc N nc Ln H9 hgp hgn k9=>?_
   rw[←hbA]at hgp hgn
   rw[←hbA]
   have hpw:=hgp.isOw
   have hnw:=hgn.isOw
   have kn:=kn.comp0 k9
   simp only[go_sem,l2,l4,l5,l8,l9,l10,l45,l46,l47,Qxv,hpw,hnw]
   intro x13 hx13 H10 h10
   have kn:=(kn.al hx13 h10).perm List.perm_append_comm
   have hx13:=kn.l 0 rfl
   simp only[go_sem,l2,l4,l5,l8,l9,l10,l45,l46,l47,Qxu,hx13,hpw,hnw]
   intro H11 h11
   obtain⟨y,hy⟩:∃y,Qaj q b=y:=⟨_,rfl⟩
   rw[hy]at hgp hgn h11
   have kn:Kn H H11 [] ([(x13,.st [pc,.sl false 4 (Qav y.ins),.int .i64 y.jump,.int .i64 y.on,nc])]++(((pkOb x4 x9 M o pz ver nl os ss q bc++(psL os++(psL ss++ks.flatMap NBlk.lg)))++bl)++(N++Ln))):=by
    have:=kn.stL 0 rfl h11
    simpa using this
   obtain⟨R,hR⟩:∃R,[(x4,Obj.st [.int .i64 0,.int .i64 0,.sl true 5 []]),(x9,.st [.int .i64 q.params,.int .i64 q.regs,bc]),(o,.vec 1 (os.map PSl.row)),(pz,.vec 1 (ss.map PSl.row))]++(((psL os++(psL ss++ks.flatMap NBlk.lg))++bl)++N)=R:=⟨_,rfl⟩
   have kn:Kn H H11 [] (([(M,.map ver (mI nl)),(x13,.st [pc,.sl false 4 (Qav y.ins),.int .i64 y.jump,.int .i64 y.on,nc])]++R)++Ln):=kn.perm (Qm fun f hf h0 hc hp=>by
    have e5:∀(a b c d e:Nat×Obj),f [a,b,c,d,e]=f [a]+f [b]+f [c]+f [d]+f [e]:=fun a b c d e=>by rw[hc a [b,c,d,e],hc b [c,d,e],hc c [d,e],hc d [e]];omega
    have e4:∀(a b c d:Nat×Obj),f [a,b,c,d]=f [a]+f [b]+f [c]+f [d]:=fun a b c d=>by rw[hc a [b,c,d],hc b [c,d],hc c [d]];omega
    have e2:∀(a b:Nat×Obj),f [a,b]=f [a]+f [b]:=fun a b=>hc a [b]
    rw[←hR]
    simp only[hf,pkOb,e5,e4,e2];omega)
   have hyn:∀v∈y.next,0≤v∧v.toNat∈l:=fun v hv=>by
    rw[←hy,hbA]at hv
    have h1:=(ho.bs b hbn).nx v hv
    exact⟨by omega,hp.cl b hg2 v (by rw[Qwo hbn];exact hv)⟩
   have hyl:y.next.length≤1000:=by rw[←hy,hbA];have:=(ho.bs b hbn).nxl;omega
   have hx13:=kn.l 1 rfl
   have hnlen:=hgn.lenC
   rw[Qc]at hnlen
   have hnok:=eq_true (hgn.get kn).1
   refine Q3 ?_
   refine Qa ?_
   simp only[go_sem,hx13,hpw,hnw,hnlen,hnok]
   try intro _
   refine Qh ?_
   refine Qbd2 (L9:=l.length) (ic:=.sl false 4 (Qav y.ins)) hN hyn hyl hpw rfl rfl rfl rfl rfl hgn kn rfl rfl rfl rfl rfl rfl rfl rfl rfl rfl rfl rfl rfl rfl rfl fun e12 H12 Ln2 hgn2 kn l2 l4 l5 l8 l9 l10 l11 l12 l13 l45 l46 l47=>?_
   obtain⟨kb,hkb⟩:∃kb:NBlk,kb=⟨pkYj q l i,pc,N,nc,Ln2⟩:=⟨_,rfl⟩
   have hYj:pkYj q l i=⟨y.phis,y.ins,y.jump,y.on,y.next.map (plI l)⟩:=by
    have e1:=Qyz ho hp hn (Qms hp.lt) hg2
    rw[pkYj,hg1,←hy]
    show BlkD.mk (Qaj q b).phis (Qaj q b).ins (Qaj q b).jump (Qaj q b).on (pkY q (plcs q.blocks.length l) b).next=_
    rw[e1];rfl
   have hkbo:kb.ok:=by rw[hkb,hYj];exact⟨hgp,hgn2⟩
   have hkbr:kb.row=[pc,.sl false 4 (Qav y.ins),.int .i64 y.jump,.int .i64 y.on,nc]:=by rw[hkb,hYj];rfl
   have hkbl:kb.lg=N++Ln2:=by rw[hkb];rfl
   rw[←hkbr]at kn
   obtain⟨so,hso⟩:∃s,os[b]=s:=⟨_,rfl⟩
   have hsoo:so.ok:=by rw[←hso];exact hos.ok _ (List.getElem_mem hbo)
   have hsof:=hos.f b hbo
   rw[hso,phT,if_pos hbn]at hsof
   have hsol:so.ms.length=(Qaj q b).phis.length:=by have:=congrArg List.length hsof;simpa using this
   have hsw:=Gr.isOw hsoo
   have hosm:∀p∈so.g,p∈psL os:=fun p hp=>List.mem_flatMap.2 ⟨so,by rw[←hso];exact List.getElem_mem hbo,List.mem_append_right _ hp⟩
   have hsc:okSl H12 so.c=True∧lenC so.c=so.ms.length:=by
    refine⟨eq_true ?_,by have:=Gr.lenC hsoo;rw[Qb2]at this;exact this⟩
    rcases hsoo with ⟨h1,_,_⟩|⟨z,h1,h2⟩
    ·rw[h1];trivial
    ·have hzm:(z,Obj.vec 1 (Qec so.ms))∈psL os:=hosm _ (by rw[h2];simp)
     have hz:=(kn.get (z,.vec 1 (Qec so.ms)) (by rw[←hR];simp[hzm])).1
     rw[h1];simp only[okSl,hz,Nat.zero_add,Nat.le_refl,and_self]
   have hov:=(kn.get (o,.vec 1 (os.map PSl.row)) (by rw[←hR];simp)).1
   have horl:(os.map PSl.row).length=q.blocks.length:=by rw[List.length_map,hosl]
   have hort:(os.map PSl.row).take q.blocks.length=os.map PSl.row:=List.take_of_length_le (by omega)
   have horg:(os.map PSl.row).getD b []=[so.c]:=by simp[List.getD_eq_getElem?_getD,hbo,hso,PSl.row]
   simp only[go_sem]
   refine Q3 ?_
   refine Qa ?_
   simp only[go_sem,l2,l4,l5,l8,l9,l10,l11,l12,l13,l45,l46,l47,hov,horl,hort,horg,hbn,hsw,hsc.1,hsc.2,hsol,Nat.zero_add,Nat.le_refl]
   try intro _
   refine Qh ?_
   obtain⟨R2,hR2⟩:∃R2,[(x4,Obj.st [.int .i64 0,.int .i64 0,.sl true 5 []]),(x9,.st [.int .i64 q.params,.int .i64 q.regs,bc]),(o,.vec 1 (os.map PSl.row)),(x13,.st kb.row)]++((ks.flatMap NBlk.lg++bl)++(N++Ln2))=R2:=⟨_,rfl⟩
   have kn:Kn H H12 [] ([(M,.map ver (mI nl)),(pz,.vec 1 (ss.map PSl.row))]++(psL os++(psL ss++R2))):=kn.perm (Qm fun f hf h0 hc hp=>by
    have e4:∀(a b c d:Nat×Obj),f [a,b,c,d]=f [a]+f [b]+f [c]+f [d]:=fun a b c d=>by rw[hc a [b,c,d],hc b [c,d],hc c [d]];omega
    have e2:∀(a b:Nat×Obj),f [a,b]=f [a]+f [b]:=fun a b=>hc a [b]
    rw[←hR,←hR2]
    simp only[hf,e4,e2];omega)
   refine Qbd3 (b:=b) (x13:=x13) ho hN hbn hlt (by omega) hg1 hos hosl hS kn rfl rfl rfl rfl rfl rfl rfl rfl rfl rfl rfl (congrArg V.c (congrArg PSl.c hso.symm)) rfl rfl fun e13 H13 ss hS kn l2 l4 l5 l8 l9 l10 l11 l13 l45 l46 l47=>?_
   have kn:Kn H H13 [] (([(x9,.st [.int .i64 q.params,.int .i64 q.regs,bc]),(x13,.st kb.row)]++([(x4,.st [.int .i64 0,.int .i64 0,.sl true 5 []]),(M,.map ver (mI nl)),(o,.vec 1 (os.map PSl.row)),(pz,.vec 1 (ss.map PSl.row))]++(psL os++(psL ss++(ks.flatMap NBlk.lg++kb.lg)))))++bl):=kn.perm (Qm fun f hf h0 hc hp=>by
    have e4:∀(a b c d:Nat×Obj),f [a,b,c,d]=f [a]+f [b]+f [c]+f [d]:=fun a b c d=>by rw[hc a [b,c,d],hc b [c,d],hc c [d]];omega
    have e2:∀(a b:Nat×Obj),f [a,b]=f [a]+f [b]:=fun a b=>hc a [b]
    rw[←hR2,hkbl]
    simp only[hf,e4,e2];omega)
   have hkw:=NBlk.noOw hkbo
   have hkl5:kb.row.length=5:=rfl
   have hkt5:kb.row.take 5=kb.row:=rfl
   have hka:(kb.row.all fun c=>!c.isOw)=true:=hkw
   have hbw:=hgb.isOw
   have hx9:=kn.l 0 rfl
   have hx13:=kn.l 1 rfl
   simp only[go_sem]
   refine Qv ?_
   simp only[go_sem,l2,l4,l5,l8,l9,l10,l11,l13,l45,l46,l47,hx9,hx13,hbw,hkl5,hkt5,hka]
   refine kn.growR (new:=[kb.row]) hgb (.mk' _ _ _ _) (by intro r hr;simp only[List.mem_singleton]at hr;rw[hr];exact hkw) (by simp only[List.length_map,LIM,List.length_cons,List.length_nil];omega) fun bc2 bl2 H14 hgb2 hbw2 kn=>?_
   have hx9:=kn.l 0 rfl
   simp only[go_sem,l2,l4,l5,l8,l9,l10,l45,l46,l47,Qr9,hx9,hbw2]
   intro H15 h15
   have kn:=kn.stL 0 rfl h15
   have kn:Kn H H15 [] (((pkOb x4 x9 M o pz ver nl os ss q bc2++(psL os++(psL ss++(ks++[kb]).flatMap NBlk.lg)))++bl2)++[(x13,.st kb.row)]):=kn.perm (Qm fun f hf h0 hc hp=>by
    have e5:∀(a b c d e:Nat×Obj),f [a,b,c,d,e]=f [a]+f [b]+f [c]+f [d]+f [e]:=fun a b c d e=>by rw[hc a [b,c,d,e],hc b [c,d,e],hc c [d,e],hc d [e]];omega
    have e4:∀(a b c d:Nat×Obj),f [a,b,c,d]=f [a]+f [b]+f [c]+f [d]:=fun a b c d=>by rw[hc a [b,c,d],hc b [c,d],hc c [d]];omega
    have e2:∀(a b:Nat×Obj),f [a,b]=f [a]+f [b]:=fun a b=>hc a [b]
    show f (([(x9,_),(x13,_)]++([(x4,_),(M,_),(o,_),(pz,_)]++(psL os++(psL ss++(ks.flatMap NBlk.lg++kb.lg)))))++bl2)=_
    simp only[List.flatMap_append,List.flatMap_cons,List.flatMap_nil,List.append_nil,hf,pkOb,e5,e4,e2];omega)
   refine Qv ?_
   simp only[go_sem]
   refine⟨Qq (by omega) (by omega),?_⟩
   show ∃m,_
   refine⟨l.length-(i+1),by omega,ks++[kb],ss,bc2,bl2,by simp[hi],by simp only[List.length_append,List.length_cons,List.length_nil];omega,fun j h=>?_,fun w hw=>?_,by simpa[hi]using hS,by rw[List.map_append];exact hgb2,kn.drop,rfl,rfl,rfl,rfl,rfl,rfl,rfl,rfl,by simp[lk,hi]⟩
   ·by_cases hj:j<ks.length
    ·rw[List.getElem_append_left hj];exact hky j hj
    ·have hje:j=ks.length:=by simp only[List.length_append,List.length_cons,List.length_nil]at h;omega
     subst hje
     have e:(ks++[kb])[ks.length]=kb:=by simp
     rw[e,hkb,hi]
   ·rcases List.mem_append.1 hw with hw|hw
    ·exact hko w hw
    ·simp only[List.mem_singleton]at hw;rw[hw];exact hkbo
  ·intro hc
   have hie:i=l.length:=by have:l.length≤i:=(by simpa using hc);omega
   have hke:ks.length=l.length:=by omega
   rw[hie]at hS
   refine Qw ?_
   simp only[go_sem,X.next]
   have kn:Kn H H8 [] (([(x4,.st [.int .i64 0,.int .i64 0,.sl true 5 []]),(x9,.st [.int .i64 q.params,.int .i64 q.regs,bc]),(pz,.vec 1 (ss.map PSl.row))]++((psL ss++ks.flatMap NBlk.lg)++bl))++([(M,.map ver (mI nl)),(o,.vec 1 (os.map PSl.row))]++psL os)):=kn.perm (Qm fun f hf h0 hc hp=>by
    have e5:∀(a b c d e:Nat×Obj),f [a,b,c,d,e]=f [a]+f [b]+f [c]+f [d]+f [e]:=fun a b c d e=>by rw[hc a [b,c,d,e],hc b [c,d,e],hc c [d,e],hc d [e]];omega
    have e3:∀(a b c:Nat×Obj),f [a,b,c]=f [a]+f [b]+f [c]:=fun a b c=>by rw[hc a [b,c],hc b [c]];omega
    have e2:∀(a b:Nat×Obj),f [a,b]=f [a]+f [b]:=fun a b=>hc a [b]
    simp only[hf,pkOb,e5,e3,e2];omega)
   refine Qbiu ho hp hn hke hky hko hS hgb kn.drop rfl rfl rfl fun e3 H9 ks2 z hkl2 hky2 hko2 kn l4=>?_
   have hx4:=kn.l 0 rfl
   simp only[go_sem,Q0,Q5,Qac5,List.mem_singleton,forall_eq,RS.op,l4,hx4]
   have hmem:∀k∈ks2,∀p∈k.pl,H9 p.1=p.2∧un H p.1=true:=fun k hk p hp=>
    ⟨(kn.get p (List.mem_append_right _ (List.mem_append_right _ (List.mem_flatMap.2 ⟨k,hk,hp⟩)))).1,Qnl (kn.loc p (List.mem_append_right _ (List.mem_flatMap.2 ⟨k,hk,hp⟩)))⟩
   have hz:=kn.l 1 rfl
   have hrows:FrzR H9 (un H) (ks2.map KBlk.row) (Qp (pkE q l).blocks):=by
    rw[←hky2,Qp,List.map_map]
    refine Qut ks2 fun k hk=>?_
    exact .cons (Gr.frzM (hko2 k hk) (hmem k hk) (FrzR.same (Qmr _))) (.cons (Qg rfl) (.cons (Qg rfl) (.cons (Qg rfl) (.cons (Qg rfl) .nil))))
   have hfr:=FrzR.vsl (kn.un 1 rfl) hz (by rw[List.length_map,hkl2]) hrows
   exact⟨_,FrzL.ag (.cons (Qg rfl) (.cons (Qg rfl) (.cons hfr .nil))),hK _ kn.fin⟩
end Go.AE.Y

namespace Go.AE.Y
attribute [local instance] Classical.propDecidable
variable {q:CodeD}{l:List Nat}
def Qab1 (q:CodeD)(S:List Bool)(o:List Nat):Prop:=Dfs (nxN (gnx q)) [0] (List.replicate q.blocks.length false) [] S o
noncomputable def visL (q:CodeD):List Nat:=if h:∃o,∃S,Qab1 q S o then Classical.choose h else []
theorem Q51 {S:List Bool}{o:List Nat}(h:Qab1 q S o):visL q=o:=by
 have hx:∃o,∃S,Qab1 q S o:=⟨o,S,h⟩
 obtain⟨S',h'⟩:=Classical.choose_spec hx
 rw[visL,dif_pos hx]
 exact (Dfs.det h h').2
noncomputable def ordL (q:CodeD):List Nat:=(visL q).reverse
theorem Qabu (ho:q.ok):∀x,x<(List.replicate q.blocks.length false).length→∀y∈nxN (gnx q) x,y<(List.replicate q.blocks.length false).length:=fun x hx y hy=>by
 rw[List.length_replicate]at hx⊢
 obtain⟨v,hv,rfl⟩:=List.mem_map.1 hy
 rw[Qwo hx]at hv
 have:=(ho.bs x hx).nx v hv
 omega
theorem Qbms (ho:q.ok){S:List Bool}{o:List Nat}(h:Qab1 q S o)(x:Nat):x∈o↔x<q.blocks.length∧Q8y (nxN (gnx q)) (-1) x=true:=by
 have hg:=Qabu ho
 have hb0:=ho.b0
 have hx:∀x∈[0],x<(List.replicate q.blocks.length false).length:=fun x hx=>by
  rw[List.mem_singleton]at hx;rw[hx,List.length_replicate];exact hb0
 rw[Dfs.list h hg hx (fun y=>Q8 _ _) x,Dfs.seen h hg hx,Q8,rchB_iff]
 constructor
 ·rintro (h|⟨y,hy,hr⟩)
  ·simp at h
  ·rw[List.mem_singleton]at hy;subst hy
   refine⟨?_,hr.mono fun z hz=>by omega⟩
   have:=hr.lt hg (hx 0 (by simp))
   rw[List.length_replicate]at this;exact this
 ·rintro⟨_,hr⟩
  exact .inr ⟨0,by simp,hr.mono fun z hz=>by rw[Q8]at hz;simp at hz⟩
theorem Qaje (ho:q.ok){S:List Bool}{o:List Nat}(h:Qab1 q S o):o.Nodup:=
 Dfs.nodup h (Qabu ho) (fun x hx=>by rw[List.mem_singleton]at hx;rw[hx,List.length_replicate];exact ho.b0) (by simp) List.nodup_nil
theorem Qbkh (ho:q.ok){S:List Bool}{o:List Nat}(h:Qab1 q S o):Pk q o.reverse:=by
 have hm:=Qbms ho h
 have hnd:=Qaje ho h
 have hb1:=ho.b1
 obtain⟨o1,he⟩:=Dfs.root h (Q8 _ _)
 refine⟨?_,by rw[he,List.reverse_append];rfl,fun x hx=>((hm x).1 (List.mem_reverse.1 hx)).1,fun x hx v hv=>?_⟩
 ·rw[List.length_reverse]
  have:=Qg7 hnd (b:=List.range q.blocks.length) fun x hx=>List.mem_range.2 ((hm x).1 hx).1
  rw[List.length_range]at this
  omega
 ·obtain⟨h1,h2⟩:=(hm x).1 (List.mem_reverse.1 hx)
  have hv2:v.toNat∈nxN (gnx q) x:=List.mem_map.2 ⟨v,hv,rfl⟩
  refine List.mem_reverse.2 ((hm _).2 ⟨?_,?_⟩)
  ·have:=Qabu ho x (by rw[List.length_replicate];exact h1) _ hv2
   rw[List.length_replicate]at this;exact this
  ·rw[rchB_iff]at h2⊢
   exact .step h2 hv2 (by omega)
noncomputable def Qg1 (q:CodeD):CodeD:=pkE q (rchL q.blocks.length (nxN (gnx q)))
noncomputable def Qks (q:CodeD):CodeD:=pkE q (ordL q)
theorem Qadp (n:Nat)(g:Nat→List Nat):(rchL n g).Nodup:=List.Nodup.sublist List.filter_sublist List.nodup_range
theorem mem_rchL {n:Nat}{g:Nat→List Nat}{x:Nat}:x∈rchL n g↔x<n∧Q8y g (-1) x=true:=by simp[rchL]
theorem Qbl9 (ho:q.ok)(hp:Pk q l)(hn:l.Nodup){x:Nat}(h:Rch (nxN (gnx q)) (fun z=>(z:Int)=-1) 0 x):x∈l∧Rch (nxN (gnx (pkE q l))) (fun z=>(z:Int)=-1) 0 (l.idxOf x):=by
 obtain⟨z1,z2⟩:=Qbd9 hp
 induction h with
 |refl _=>exact⟨z1,by rw[z2];exact .refl (by omega)⟩
 |@step y z _ h2 _ ih=>
  obtain⟨i1,i2⟩:=ih
  refine⟨Qbnu hp y i1 z h2,.step i2 ?_ (by omega)⟩
  rw[Qa7a ho hp hn i1]
  exact List.mem_map.2 ⟨z,h2,rfl⟩
theorem Qa6q (ho:q.ok):rchL (Qg1 q).blocks.length (nxN (gnx (Qg1 q)))=List.range (Qg1 q).blocks.length:=by
 have hp:=ho.rchPk
 have hn:=Qadp q.blocks.length (nxN (gnx q))
 rw[rchL,List.filter_eq_self]
 intro j hj
 have hj:=List.mem_range.1 hj
 rw[Qg1,Qdf]at hj
 have hm:=(mem_rchL.1 (List.getElem_mem hj)).2
 have:=(Qbl9 ho hp hn (rchB_iff.1 hm)).2
 rw[List.Nodup.idxOf_getElem hn j hj]at this
 exact rchB_iff.2 this
theorem Qa75 (ho:q.ok):Qg1 (Qg1 q)=Qg1 q:=by
 rw[Qg1,Qa6q ho]
 exact Qbd4 (Qbkc ho ho.rchPk)
theorem Qbgs (q:CodeD):(Qg1 q).blocks.length=(rchL q.blocks.length (nxN (gnx q))).length:=Qdf _ _
theorem Qbkg (ho:q.ok):∃S o,Qab1 q S o:=by
 have hg:=Qabu ho
 rw[List.length_replicate]at hg
 exact Dfs.ex hg q.blocks.length [0] _ _ (by simp) (by omega) fun x hx=>by rw[List.mem_singleton]at hx;rw[hx];exact ho.b0
theorem Qbmt (ho:q.ok):∃S,Qab1 q S (visL q):=by
 obtain⟨S,o,h⟩:=Qbkg ho
 exact⟨S,by rw[Q51 h];exact h⟩
theorem Qbdz (ho:q.ok):Pk q (ordL q)∧(ordL q).Nodup:=by
 obtain⟨S,h⟩:=Qbmt ho
 exact⟨Qbkh ho h,(List.reverse_perm _).nodup_iff.2 (Qaje ho h)⟩
theorem Qava {l:List Nat}(hn:l.Nodup):l.map l.idxOf=List.range l.length:=List.ext_getElem (by simp) fun i h1 h2=>by
 rw[List.getElem_map,List.getElem_range]
 exact List.Nodup.idxOf_getElem hn i (by simpa using h1)
theorem Qa64 (ho:q.ok):(Qks q).ok∧ordL (Qks q)=List.range (Qks q).blocks.length:=by
 obtain⟨S,o,h⟩:=Qbkg ho
 have hp:=Qbkh ho h
 have hn:o.reverse.Nodup:=(List.reverse_perm o).nodup_iff.2 (Qaje ho h)
 have he:Qks q=pkE q o.reverse:=by rw[Qks,ordL,Q51 h]
 obtain⟨S',h'⟩:=Qbl8 ho hp hn h
 rw[he]
 have hv:visL (pkE q o.reverse)=o.map o.reverse.idxOf:=Q51 h'
 refine⟨Qbkc ho hp,?_⟩
 rw[ordL,hv,←List.map_reverse,Qava hn,Qdf]
theorem Qa87 (ho:q.ok):Qks (Qks q)=Qks q:=by
 obtain⟨h1,h3⟩:=Qa64 ho
 have e:Qks (Qks q)=pkE (Qks q) (ordL (Qks q)):=rfl
 rw[e,h3]
 exact Qbd4 h1
theorem Qa6s {cs:List CodeD}(hg:Qa0 cs=true):Qa0 (cs.map Qg1)=true:=Qbd8 (lf:=fun c=>rchL c.blocks.length (nxN (gnx c))) hg fun c hc=>by
 obtain⟨i,hi,rfl⟩:=List.mem_iff_getElem.1 hc
 exact⟨(Qdh hg hi).rchPk,Qadp _ _⟩
theorem Qa66 {cs:List CodeD}(hg:Qa0 cs=true):Qa0 (cs.map Qks)=true:=Qbd8 (lf:=ordL) hg fun c hc=>by
 obtain⟨i,hi,rfl⟩:=List.mem_iff_getElem.1 hc
 exact Qbdz (Qdh hg hi)
end Go.AE.Y

namespace Go.AE.Y
attribute [local go_sem] cond_true cond_false Bool.not_true Bool.not_false
open Go.Proofs.Tryz
variable {H H0:Heap}{K:V→Heap→Prop}{q:CodeD}
def twoT (ns:List Int)(k:Nat):Bool:=(ns.take k).any fun v=>v != ns.headD 0
end Go.AE.Y

namespace Go.AE.Y
variable {H H0:Heap}{E:List (Nat×Obj)}{S:Nat→Bool}
end Go.AE.Y

namespace Go.AE.Y
variable {q:CodeD}
structure RsI (q:CodeD)(s:Nat)(os:List OBlk):Prop where
 n:os.length=q.blocks.length
 y:∀j (h:j<os.length),os[j].d=blkN q s j
 ok:∀b∈os,b.ok
def rwO (q:CodeD)(s:Nat)(os:List OBlk):List (List C):=os.map OBlk.row++((nwL q).take s).map Qbnd
def OBlk.nxt (o:OBlk)(ns:List Int):OBlk:=⟨o.phis,o.pc,o.pl,o.ins,o.ic,o.il,o.jump,o.on,⟨ns,o.nx.y⟩⟩
theorem RsI.step {s b:Nat}{v:Int}{os:List OBlk}(h:RsI q s os)(F:SpF (gnx q) q.blocks.length)(he:(nwL q)[s]? = some (b,v))(hb:b<os.length) :
  RsI q (s+1) (os.set b (os[b].nxt (stX (gnx q) q.blocks.length (s+1) b))):=by
 refine⟨by rw[List.length_set];exact h.n,fun j hj=>?_,fun w hw=>?_⟩
 ·have hj':j<os.length:=by simpa using hj
  rw[List.getElem_set]
  split
  ·rename_i e;subst e
   have:=h.y b hb
   rw[OBlk.d,blkN]at this
   simp only[BlkD.mk.injEq]at this
   obtain⟨e1,e2,e3,e4,_⟩:=this
   simp only[OBlk.nxt,OBlk.d,blkN,e1,e2,e3,e4]
  ·rename_i e
   rw[h.y j hj',blkN,blkN,Qbf9 F he (fun hh=>e hh.symm)]
 ·rcases List.mem_or_eq_of_mem_set hw with hw|rfl
  ·exact h.ok w hw
  ·have:=h.ok _ (List.getElem_mem hb)
   exact⟨this.p,this.i,this.a⟩
end Go.AE.Y

namespace Go.AE.Y
attribute [local go_sem] cond_true cond_false Bool.not_true Bool.not_false
open Go.Proofs.Tryz
variable {H H0:Heap}{K:V→Heap→Prop}{E L:List (Nat×Obj)}{q:CodeD}
end Go.AE.Y

namespace Go.AE.Y
attribute [local go_sem] cond_true cond_false Bool.not_true Bool.not_false
open Go.Proofs.Tryz
variable {H H0:Heap}{K:V→Heap→Prop}{E L:List (Nat×Obj)}{q:CodeD}
def shN (q:CodeD)(b i:Nat):Nat:=(newL (gnx q) q.blocks.length b).length+(((gnx q b).take i).filter (shV (gnx q) q.blocks.length b)).length
end Go.AE.Y

namespace Go.AE.Y
variable {H H0:Heap}{q:CodeD}
def goK (e:Nat×Int):KBlk:=⟨goB e.2,.sl true 2 [],[]⟩
end Go.AE.Y

namespace Go.AE.Y
attribute [local go_sem] cond_true cond_false Bool.not_true Bool.not_false
open Go.Proofs.Tryz
variable {H H0:Heap}{K:V→Heap→Prop}{q:CodeD}
end Go.AE.Y

namespace Go.AE.Y
attribute [local go_sem] cond_true cond_false Bool.not_true Bool.not_false
open Go.Proofs.Tryz
variable {H H0:Heap}{K:V→Heap→Prop}{q:CodeD}
end Go.AE.Y

namespace Go.AE.Y
attribute [local go_sem] cond_true cond_false Bool.not_true Bool.not_false
open Go.Proofs.Tryz
variable {H H0:Heap}{K:V→Heap→Prop}{E L:List (Nat×Obj)}{q:CodeD}
end Go.AE.Y

namespace Go.AE.Y
attribute [local go_sem] cond_true cond_false Bool.not_true Bool.not_false
open Go.Proofs.Tryz
variable {H H0:Heap}{K:V→Heap→Prop}{q:CodeD}
def hasT (q:CodeD)(b:Nat):Bool:=(List.range b).any fun b=>(gnx q b).any (shV (gnx q) q.blocks.length b)
end Go.AE.Y

namespace Go.AE.Y
open Go.Proofs.Tryz
def Qlc:List Item:=[mJ 4 9]
def Q9a:SC:=sR (fJ 5 0 2::lJ 6 5::fJ 7 0 3::lJ 8 7::eI 9 (.call Qct [.t 6,.t 8,.k (.c (.fn Qc0 []))])::Qlc) [4] .ret
def Qakr:SC:=sR [vJ 2 0,vJ 3 1,fB 4 false] [2,3] Q9a
def Qwu:List RS:=[.tmp 4]
theorem Qajo:mFn prog Qdx 2 10 Qakr Qwu=true:=by kernel_rfl
def Qlo:List Item:=[pF 37 31 36,mJ 4 37]
def Qlp:List Item:=pF 30 24 29::mJ 31 30::gTf 32 31 1 2::gTl 33 31 32::gTf 34 31 1 3::gTl 35 31 34::.e (some 36) (some (31,true)) (.call Qda [.t 33,.t 35,.k (.c (.fn Qd0 []))])::Qlo
def Qlq:List Item:=pF 23 17 22::mJ 24 23::gTf 25 24 0 2::gTl 26 24 25::gTf 27 24 0 3::gTl 28 24 27::.e (some 29) (some (24,true)) (.call Qdb [.t 26,.t 28,.k (.c (.fn Qd1 []))])::Qlp
def Q92:SC:=sR (fJ 5 2 2::lJ 6 5::fJ 7 2 3::lJ 8 7::bJ 9 .eql 6 8::mJ 10 9::gTf 11 10 3 2::gTl 12 10 11::gTf 13 10 3 3::gTl 14 10 13::gT 15 10 (.bin 0 .eql (.t 12) (.t 14))::pF 16 10 15::mJ 17 16::gTf 18 17 4 2::gTl 19 17 18::gTf 20 17 4 3::gTl 21 17 20::.e (some 22) (some (17,true)) (.call Qhv [.t 19,.t 21])::Qlq) [4] .ret
def Qamk:SC:=sR [vJ 2 0,vJ 3 1,fB 4 false] [2,3] Q92
def Qw1:List RS:=[.tmp 4]
theorem Qajx:mFn prog Qcb 2 38 Qamk Qw1=true:=by kernel_rfl
def Qny:List Item:=[pF 23 17 22,mJ 4 23]
def Qaek:SC:=sR (fJ 5 0 2::lJ 6 5::fJ 7 0 3::lJ 8 7::bJ 9 .eql 6 8::mJ 10 9::gTf 11 10 1 2::gTl 12 10 11::gTf 13 10 1 3::gTl 14 10 13::gT 15 10 (.bin 0 .eql (.t 12) (.t 14))::pF 16 10 15::mJ 17 16::gTf 18 17 2 2::gTl 19 17 18::gTf 20 17 2 3::gTl 21 17 20::.e (some 22) (some (17,true)) (.call Qce [.t 19,.t 21,.k (.c (.fn Qcb []))])::Qny) [4] .ret
def Qarr:SC:=sR [vJ 2 0,vJ 3 1,fB 4 false] [2,3] Qaek
def Q1f:List RS:=[.tmp 4]
theorem Qaqp:mFn prog Qc0 2 24 Qarr Q1f=true:=by kernel_rfl
def Qsc:List Item:=[pF 30 24 29,mJ 4 30]
def Qaml:SC:=sR (fJ 5 0 2::lJ 6 5::fJ 7 0 3::lJ 8 7::bJ 9 .eql 6 8::mJ 10 9::gTf 11 10 1 2::gTl 12 10 11::gTf 13 10 1 3::gTl 14 10 13::gT 15 10 (.bin 0 .eql (.t 12) (.t 14))::pF 16 10 15::mJ 17 16::gTf 18 17 3 2::gTl 19 17 18::gTf 20 17 3 3::gTl 21 17 20::gT 22 17 (.bin 0 .eql (.t 19) (.t 21))::pF 23 17 22::mJ 24 23::gTf 25 24 2 2::gTl 26 24 25::gTf 27 24 2 3::gTl 28 24 27::.e (some 29) (some (24,true)) (.call Qhv [.t 26,.t 28])::Qsc) [4] .ret
def Qavu:SC:=sR [vJ 2 0,vJ 3 1,fB 4 false] [2,3] Qaml
def Q6c:List RS:=[.tmp 4]
theorem Qauu:mFn prog Qd0 2 31 Qavu Q6c=true:=by kernel_rfl
def Qsd:List Item:=[pF 16 10 15,mJ 4 16]
def Qamm:SC:=sR (fJ 5 0 2::lJ 6 5::fJ 7 0 3::lJ 8 7::bJ 9 .eql 6 8::mJ 10 9::gTf 11 10 1 2::gTl 12 10 11::gTf 13 10 1 3::gTl 14 10 13::.e (some 15) (some (10,true)) (.call Qhv [.t 12,.t 14])::Qsd) [4] .ret
def Qavv:SC:=sR [vJ 2 0,vJ 3 1,fB 4 false] [2,3] Qamm
def Q6d:List RS:=[.tmp 4]
theorem Qauv:mFn prog Qd1 2 17 Qavv Q6d=true:=by kernel_rfl
def Qok:List Item:=[gF 45 39 (.not (.t 44)),pT 46 39 45]
def Qag2:SC:=cT 46 (sR [fB 4 false] [4] .ret) .skip
def Qol:List Item:=[gF 81 67 (.not (.t 80)),pT 82 67 81]
def Qag3:SC:=cT 82 (sR [fB 4 false] [4] .ret) .skip
def Qag4:SC:=.reg [mJ 52 5,cJ 53 .add 52 1,mJ 5 53] [2,3,5]
def Qag5:SC:=.seq (.block 1 (.seq (.dreg 29 [0,1,2,3,4,5,6,7,8,9,10,11,12,13,14,15,16,17,18,19,20,21,22,23,24,25,26,27,28] ( fJ 54 0 2::lJ 55 54::mJ 56 5::iJ 57 2 55 56::fJ 58 0 57::lJ 59 58::fJ 60 0 3::lJ 61 60::mJ 62 5::iJ 63 2 61 62::fJ 64 0 63::lJ 65 64::bJ 66 .neq 59 65::mJ 67 66::gFf 68 67 0 2::gFl 69 67 68::gFm 70 67 5::gF 71 67 (.iad 2 (.t 69) (.t 70))::gFf 72 67 1 71::gFl 73 67 72::gFf 74 67 0 3::gFl 75 67 74::gFm 76 67 5::gF 77 67 (.iad 2 (.t 75) (.t 76))::gFf 78 67 1 77::gFl 79 67 78::.e (some 80) (some (67,false)) (.call Qqr [.t 73,.t 79])::Qol) [2,3,5,82]) Qag3)) Qag4
def Qaau:SC:=.seq (sR [mJ 47 5,fJ 48 0 2,lJ 49 48,nJ 50 49,bJ 51 .lss 47 50] [2,3,5,51] (cT 51 .skip (.exit 0))) Qag5
def Qom:List Item:=[sJ 4 7 94]
def Qon:List Item:=[sJ 4 8 99]
def Qoo:List Item:=[gF 125 119 (.not (.t 124)),pT 126 119 125]
def Qaal:SC:=cT 126 (sR [fB 4 false] [4] .ret) .skip
def Qaam:SC:=sR (fJ 100 0 7::lJ 101 100::fJ 102 0 8::lJ 103 102::bJ 104 .neq 101 103::mJ 105 104::gFf 106 105 1 7::gFl 107 105 106::gFf 108 105 1 8::gFl 109 105 108::gF 110 105 (.bin 0 .neq (.t 107) (.t 109))::pT 111 105 110::mJ 112 111::gFf 113 112 3 7::gFl 114 112 113::gFf 115 112 3 8::gFl 116 112 115::gF 117 112 (.bin 0 .neq (.t 114) (.t 116))::pT 118 112 117::mJ 119 118::gFf 120 119 2 7::gFl 121 119 120::gFf 122 119 2 8::gFl 123 119 122::.e (some 124) (some (119,false)) (.call Qqr [.t 121,.t 123])::Qoo) [2,3,6,126] Qaal
def Qaan:SC:=sR (fJ 95 1 3::lJ 96 95::mJ 97 6::iJ 98 4 96 97::tJ 99 4 98::eI 8 (.alloc [.int .i64 0,.int .i64 0,.sl true 1 [],.int .i64 0])::Qon) [2,3,6,7,8] Qaam
def Qaao:SC:=.reg [mJ 88 6,cJ 89 .add 88 1,mJ 6 89] [2,3,6]
def Qaap:SC:=.seq (.block 3 (sR (fJ 90 1 2::lJ 91 90::mJ 92 6::iJ 93 4 91 92::tJ 94 4 93::eI 7 (.alloc [.int .i64 0,.int .i64 0,.sl true 1 [],.int .i64 0])::Qom) [2,3,6,7] Qaan)) Qaao
def Q5k:SC:=.seq (sR [mJ 83 6,fJ 84 1 2,lJ 85 84,nJ 86 85,bJ 87 .lss 83 86] [2,3,6,87] (cT 87 .skip (.exit 2))) Qaap
def Qaaq:SC:=sR [fB 4 true] [4] .ret
def Qaar:SC:=.seq (sR [zJ 6 0] [2,3,6] (bL 2 Q5k)) Qaaq
def Qaas:SC:=.seq (sR [zJ 5 0] [2,3,5] (bL 0 Qaau)) Qaar
def Qaat:SC:=.seq (sR (fJ 9 0 2::lJ 10 9::nJ 11 10::fJ 12 0 3::lJ 13 12::nJ 14 13::bJ 15 .neq 11 14::mJ 16 15::gFf 17 16 1 2::gFl 18 16 17::gF 19 16 (.len (.t 18))::gFf 20 16 1 3::gFl 21 16 20::gF 22 16 (.len (.t 21))::gF 23 16 (.bin 0 .neq (.t 19) (.t 22))::pT 24 16 23::mJ 25 24::gFf 26 25 2 2::gFl 27 25 26::gFf 28 25 2 3::gFl 29 25 28::gF 30 25 (.bin 0 .neq (.t 27) (.t 29))::pT 31 25 30::mJ 32 31::gFf 33 32 3 2::gFl 34 32 33::gFf 35 32 3 3::gFl 36 32 35::gF 37 32 (.bin 0 .neq (.t 34) (.t 36))::pT 38 32 37::mJ 39 38::gFf 40 39 4 2::gFl 41 39 40::gFf 42 39 4 3::gFl 43 39 42::.e (some 44) (some (39,false)) (.call Qqr [.t 41,.t 43])::Qok) [2,3,46] Qag2) Qaas
def Qas2:SC:=sR [vJ 2 0,vJ 3 1,fB 4 false] [2,3] Qaat
def Q1m:List RS:=[.tmp 4]
theorem Qaqt:mFn prog Qjv 2 127 Qas2 Q1m=true:=by kernel_rfl
def Qanb:SC:=cT 26 (sR [fB 4 false] [4] .ret) .skip
def Qtc:List Item:=[oJ 45 44]
def Qanc:SC:=cT 45 (sR [fB 4 false] [4] .ret) .skip
def Qand:SC:=.reg [mJ 32 5,cJ 33 .add 32 1,mJ 5 33] [2,3,5]
def Qane:SC:=.seq (.block 1 (.seq (.dreg 12 [0,1,2,3,4,5,6,7,8,9,10,11] ( fJ 34 2 2::lJ 35 34::mJ 36 5::iJ 37 5 35 36::tJ 38 5 37::fJ 39 2 3::lJ 40 39::mJ 41 5::iJ 42 5 40 41::tJ 43 5 42::aJ 44 Qjv [.t 38,.t 43]::Qtc) [2,3,5,45]) Qanc)) Qand
def Qag6:SC:=.seq (sR [mJ 27 5,fJ 28 2 2,lJ 29 28,nJ 30 29,bJ 31 .lss 27 30] [2,3,5,31] (cT 31 .skip (.exit 0))) Qane
def Qanf:SC:=sR [fB 4 true] [4] .ret
def Qang:SC:=.seq (sR [zJ 5 0] [2,3,5] (bL 0 Qag6)) Qanf
def Qanh:SC:=.seq (sR [fJ 6 0 2,lJ 7 6,fJ 8 0 3,lJ 9 8,bJ 10 .neq 7 9,mJ 11 10,gFf 12 11 1 2,gFl 13 11 12,gFf 14 11 1 3,gFl 15 11 14,gF 16 11 (.bin 0 .neq (.t 13) (.t 15)),pT 17 11 16,mJ 18 17,gFf 19 18 2 2,gFl 20 18 19,gF 21 18 (.len (.t 20)),gFf 22 18 2 3,gFl 23 18 22,gF 24 18 (.len (.t 23)),gF 25 18 (.bin 0 .neq (.t 21) (.t 24)),pT 26 18 25] [2,3,26] Qanb) Qang
def Qayu:SC:=sR [vJ 2 0,vJ 3 1,fB 4 false] [2,3] Qanh
def Q6h:List RS:=[.tmp 4]
theorem Qau3:mFn prog Qmi 2 46 Qayu Q6h=true:=by kernel_rfl
def Qbaa:SC:=cT 10 (sR [fB 4 false] [4] .ret) .skip
def Qbab:SC:=cT 25 (sR [fB 4 false] [4] .ret) .skip
def Qbac:SC:=.reg [mJ 15 5,cJ 16 .add 15 1,mJ 5 16] [0,1,5]
def Qbad:SC:=.seq (.block 1 (.seq (.dreg 9 [0,1,2,3,4,5,6,7,8] ( mJ 17 0::mJ 18 5::iJ 19 1 17 18::lJ 20 19::mJ 21 1::mJ 22 5::iJ 23 1 21 22::lJ 24 23::bJ 25 .neq 20 24::[]) [0,1,5,25]) Qbab)) Qbac
def Qa3y:SC:=.seq (sR [mJ 11 5,mJ 12 0,nJ 13 12,bJ 14 .lss 11 13] [0,1,5,14] (cT 14 .skip (.exit 0))) Qbad
def Qbae:SC:=sR [fB 4 true] [4] .ret
def Qbaf:SC:=.seq (sR [zJ 5 0] [0,1,5] (bL 0 Qa3y)) Qbae
def Qbag:SC:=.seq (sR [mJ 6 0,nJ 7 6,mJ 8 1,nJ 9 8,bJ 10 .neq 7 9] [0,1,10] Qbaa) Qbaf
def Qbjc:SC:=sR [fB 4 false] [0,1] Qbag
def Qa7c:List RS:=[.tmp 4]
theorem Qbh9:mFn prog Qqr 2 26 Qbjc Qa7c=true:=by kernel_rfl
def Qazf:SC:=cT 10 (sR [fB 4 false] [4] .ret) .skip
def Qazg:SC:=cT 24 (sR [fB 4 false] [4] .ret) .skip
def Qazh:SC:=.seq (.dreg 9 [0,1,2,3,4,5,6,7,8] ( mJ 16 0::mJ 17 5::iJ 18 1 16 17::lJ 19 18::mJ 20 1::mJ 21 5::iJ 22 1 20 21::lJ 23 22::bJ 24 .neq 19 23::[]) [0,1,12,13,24]) Qazg
def Qazi:SC:=.reg [cJ 25 .add 13 1,mJ 13 25] [0,1,12,13]
def Qazj:SC:=.seq (.block 1 (sR [mJ 15 13,mJ 5 15] [0,1,5,12,13] Qazh)) Qazi
def Qath:SC:=sR [bJ 14 .lss 13 12] [0,1,12,13,14] (cX 14 0 Qazj)
def Qazk:SC:=sR [fB 4 true] [4] .ret
def Qazl:SC:=.seq (sR [mJ 11 0,nJ 12 11,zJ 13 0] [0,1,12,13] (bL 0 Qath)) Qazk
def Qazm:SC:=.seq (sR [mJ 6 0,nJ 7 6,mJ 8 1,nJ 9 8,bJ 10 .neq 7 9] [0,1,10] Qazf) Qazl
def Qbbl:SC:=sR [fB 4 false] [0,1] Qazm
def Qaph:List RS:=[.tmp 4]
theorem Qa81:mFn prog Qhv 2 26 Qbbl Qaph=true:=by kernel_rfl
def Qpg:SC:=cT 14 (sR [fB 6 false] [6] .ret) .skip
def Qd8:List Item:=[mJ 7 19,sJ 5 8 21]
def Qd9:List Item:=[sJ 5 9 25]
def Qea:List Item:=[oJ 30 29]
def Qph:SC:=cT 30 (sR [fB 6 false] [6] .ret) .skip
def Qpi:SC:=sR (mJ 26 2::tJ 27 5 8::tJ 28 5 9::eI 29 (.callv (.t 26) [.t 27,.t 28])::Qea) [1,2,15,16,17,30] Qph
def Qpj:SC:=sR (mJ 22 1::mJ 23 7::iJ 24 5 22 23::tJ 25 5 24::eI 9 (.alloc [.sl true 2 [],.sl true 4 [],.int .i64 0,.int .i64 0,.sl true 1 []])::Qd9) [1,2,8,9,15,16,17] Qpi
def Qpk:SC:=.reg [cJ 31 .add 17 1,mJ 17 31] [1,2,15,16,17]
def Qpl:SC:=.seq (.block 1 (sR (mJ 19 17::iJ 20 5 15 17::tJ 21 5 20::eI 8 (.alloc [.sl true 2 [],.sl true 4 [],.int .i64 0,.int .i64 0,.sl true 1 []])::Qd8) [1,2,7,8,15,16,17] Qpj)) Qpk
def Qne:SC:=sR [bJ 18 .lss 17 16] [1,2,15,16,17,18] (cX 18 0 Qpl)
def Qnb:SC:=sR [fB 6 true] [6] .ret
def Qnc:SC:=.seq (sR [mJ 15 0,nJ 16 15,zJ 17 0] [1,2,15,16,17] (bL 0 Qne)) Qnb
def Qnd:SC:=.seq (sR [mJ 10 0,nJ 11 10,mJ 12 1,nJ 13 12,bJ 14 .neq 11 13] [0,1,2,14] Qpg) Qnc
def Qvx:SC:=sR [fB 6 false] [0,1,2] Qnd
def Qga:List RS:=[.tmp 6]
theorem Qu5:mFn prog Qce 3 32 Qvx Qga=true:=by kernel_rfl
def Qtv:SC:=cT 14 (sR [fB 6 false] [6] .ret) .skip
def Qem:List Item:=[mJ 7 19,sJ 3 8 21]
def Qen:List Item:=[sJ 3 9 25]
def Qeo:List Item:=[oJ 30 29]
def Qtw:SC:=cT 30 (sR [fB 6 false] [6] .ret) .skip
def Qtx:SC:=sR (mJ 26 2::tJ 27 3 8::tJ 28 3 9::eI 29 (.callv (.t 26) [.t 27,.t 28])::Qeo) [1,2,15,16,17,30] Qtw
def Qty:SC:=sR (mJ 22 1::mJ 23 7::iJ 24 3 22 23::tJ 25 3 24::eI 9 (.alloc [.int .i64 0,.int .i64 0,.sl true 5 []])::Qen) [1,2,8,9,15,16,17] Qtx
def Qtz:SC:=.reg [cJ 31 .add 17 1,mJ 17 31] [1,2,15,16,17]
def Qt0:SC:=.seq (.block 1 (sR (mJ 19 17::iJ 20 3 15 17::tJ 21 3 20::eI 8 (.alloc [.int .i64 0,.int .i64 0,.sl true 5 []])::Qem) [1,2,7,8,15,16,17] Qty)) Qtz
def Qpp:SC:=sR [bJ 18 .lss 17 16] [1,2,15,16,17,18] (cX 18 0 Qt0)
def Qpm:SC:=sR [fB 6 true] [6] .ret
def Qpn:SC:=.seq (sR [mJ 15 0,nJ 16 15,zJ 17 0] [1,2,15,16,17] (bL 0 Qpp)) Qpm
def Qpo:SC:=.seq (sR [mJ 10 0,nJ 11 10,mJ 12 1,nJ 13 12,bJ 14 .neq 11 13] [0,1,2,14] Qtv) Qpn
def Q0a:SC:=sR [fB 6 false] [0,1,2] Qpo
def Qh6:List RS:=[.tmp 6]
theorem Qyx:mFn prog Qct 3 32 Q0a Qh6=true:=by kernel_rfl
def Qvy:SC:=cT 14 (sR [fB 6 false] [6] .ret) .skip
def Qft:List Item:=[mJ 7 19,sJ 4 8 21]
def Qfu:List Item:=[sJ 4 9 25]
def Qfv:List Item:=[oJ 30 29]
def Qvz:SC:=cT 30 (sR [fB 6 false] [6] .ret) .skip
def Qv0:SC:=sR (mJ 26 2::tJ 27 4 8::tJ 28 4 9::eI 29 (.callv (.t 26) [.t 27,.t 28])::Qfv) [1,2,15,16,17,30] Qvz
def Qv1:SC:=sR (mJ 22 1::mJ 23 7::iJ 24 4 22 23::tJ 25 4 24::eI 9 (.alloc [.int .i64 0,.int .i64 0,.sl true 1 [],.int .i64 0])::Qfu) [1,2,8,9,15,16,17] Qv0
def Qv2:SC:=.reg [cJ 31 .add 17 1,mJ 17 31] [1,2,15,16,17]
def Qv3:SC:=.seq (.block 1 (sR (mJ 19 17::iJ 20 4 15 17::tJ 21 4 20::eI 8 (.alloc [.int .i64 0,.int .i64 0,.sl true 1 [],.int .i64 0])::Qft) [1,2,7,8,15,16,17] Qv1)) Qv2
def Qt4:SC:=sR [bJ 18 .lss 17 16] [1,2,15,16,17,18] (cX 18 0 Qv3)
def Qt1:SC:=sR [fB 6 true] [6] .ret
def Qt2:SC:=.seq (sR [mJ 15 0,nJ 16 15,zJ 17 0] [1,2,15,16,17] (bL 0 Qt4)) Qt1
def Qt3:SC:=.seq (sR [mJ 10 0,nJ 11 10,mJ 12 1,nJ 13 12,bJ 14 .neq 11 13] [0,1,2,14] Qvy) Qt2
def Q3p:SC:=sR [fB 6 false] [0,1,2] Qt3
def Qjj:List RS:=[.tmp 6]
theorem Q02:mFn prog Qda 3 32 Q3p Qjj=true:=by kernel_rfl
def Qv4:SC:=cT 14 (sR [fB 6 false] [6] .ret) .skip
def Qfw:List Item:=[mJ 7 19,sJ 2 8 21]
def Qfx:List Item:=[sJ 2 9 25]
def Qfy:List Item:=[oJ 30 29]
def Qv5:SC:=cT 30 (sR [fB 6 false] [6] .ret) .skip
def Qv6:SC:=sR (mJ 26 2::tJ 27 2 8::tJ 28 2 9::eI 29 (.callv (.t 26) [.t 27,.t 28])::Qfy) [1,2,15,16,17,30] Qv5
def Qv7:SC:=sR (mJ 22 1::mJ 23 7::iJ 24 2 22 23::tJ 25 2 24::eI 9 (.alloc [.int .i64 0,.sl true 1 []])::Qfx) [1,2,8,9,15,16,17] Qv6
def Qv8:SC:=.reg [cJ 31 .add 17 1,mJ 17 31] [1,2,15,16,17]
def Qv9:SC:=.seq (.block 1 (sR (mJ 19 17::iJ 20 2 15 17::tJ 21 2 20::eI 8 (.alloc [.int .i64 0,.sl true 1 []])::Qfw) [1,2,7,8,15,16,17] Qv7)) Qv8
def Qt8:SC:=sR [bJ 18 .lss 17 16] [1,2,15,16,17,18] (cX 18 0 Qv9)
def Qt5:SC:=sR [fB 6 true] [6] .ret
def Qt6:SC:=.seq (sR [mJ 15 0,nJ 16 15,zJ 17 0] [1,2,15,16,17] (bL 0 Qt8)) Qt5
def Qt7:SC:=.seq (sR [mJ 10 0,nJ 11 10,mJ 12 1,nJ 13 12,bJ 14 .neq 11 13] [0,1,2,14] Qv4) Qt6
def Q3q:SC:=sR [fB 6 false] [0,1,2] Qt7
def Qjk:List RS:=[.tmp 6]
theorem Q03:mFn prog Qdb 3 32 Q3q Qjk=true:=by kernel_rfl
def Qaba:SC:=cT 12 (sR [fB 4 false] [4] .ret) .skip
def Ql0:List Item:=[oJ 31 30]
def Qabb:SC:=cT 31 (sR [fB 4 false] [4] .ret) .skip
def Qabc:SC:=.reg [mJ 18 5,cJ 19 .add 18 1,mJ 5 19] [2,3,5]
def Qabd:SC:=.seq (.block 1 (.seq (.dreg 12 [0,1,2,3,4,5,6,7,8,9,10,11] ( fJ 20 0 2::lJ 21 20::mJ 22 5::iJ 23 3 21 22::tJ 24 3 23::fJ 25 0 3::lJ 26 25::mJ 27 5::iJ 28 3 26 27::tJ 29 3 28::aJ 30 Qmi [.t 24,.t 29]::Ql0) [2,3,5,31]) Qabb)) Qabc
def Q5q:SC:=.seq (sR [mJ 13 5,fJ 14 0 2,lJ 15 14,nJ 16 15,bJ 17 .lss 13 16] [2,3,5,17] (cT 17 .skip (.exit 0))) Qabd
def Qabe:SC:=sR [fB 4 true] [4] .ret
def Qabf:SC:=.seq (sR [zJ 5 0] [2,3,5] (bL 0 Q5q)) Qabe
def Qabg:SC:=.seq (sR [fJ 6 0 2,lJ 7 6,nJ 8 7,fJ 9 0 3,lJ 10 9,nJ 11 10,bJ 12 .neq 8 11] [2,3,12] Qaba) Qabf
def Qaop:SC:=sR [vJ 2 0,vJ 3 1,fB 4 false] [2,3] Qabg
def Qw6:List RS:=[.tmp 4]
theorem Qaj4:mFn prog Qa5 2 32 Qaop Qw6=true:=by kernel_rfl
end Go.AE.Y

namespace Go.AE.Y
attribute [local go_sem] cond_true cond_false Bool.not_true Bool.not_false
open Go.Proofs.Tryz
variable {H H0 F:Heap}{K:V→Heap→Prop}{E L B:List (Nat×Obj)}{fl:Bool}
attribute [local instance] Classical.propDecidable
def Drc (c d:CodeD):Prop:=Idl c d
def DropOk (cs ds:List CodeD):Prop:=(Qa0 cs=true∧ds.length=cs.length∧∀i (h1:i<cs.length) (h2:i<ds.length),Drc cs[i] ds[i])∨(Qa0 cs=false∧ds=[])
theorem DropOk.unit {cs ds:List CodeD}(h:DropOk cs ds)(hg:Qa0 cs=true):Qa0 ds=true∧ds.length=cs.length∧∀i (h1:i<cs.length) (h2:i<ds.length),Idl cs[i] ds[i]:=by
 rcases h with ⟨_,hl,h⟩|⟨h,_⟩
 ·exact⟨Qbjr hg hl fun k h1 h2=>(h k h1 h2).shr,hl,h⟩
 ·rw[hg]at h;simp at h
theorem DropOk.fits {cs ds:List CodeD}(h:DropOk cs ds):∀c∈ds,c.fits:=by
 rcases h with ⟨hg,hl,h⟩|⟨_,rfl⟩
 ·intro c hc
  obtain⟨i,hi,rfl⟩:=List.mem_iff_getElem.1 hc
  exact ((h i (by omega) hi).shr.ok (Qdh hg (by omega))).fts
 ·simp
theorem DropOk.uniq {cs ds es:List CodeD}(h:DropOk cs ds)(k:DropOk cs es):ds=es:=by
 rcases h with ⟨hg,hl,h⟩|⟨hg,rfl⟩
 ·rcases k with ⟨_,kl,k⟩|⟨hf,_⟩
  ·exact List.ext_getElem (by omega) fun i h1 h2=>(h i (by omega) h1).uniq (k i (by omega) h2)
  ·rw[hg]at hf;simp at hf
 ·rcases k with ⟨hf,_⟩|⟨_,rfl⟩
  ·rw[hg]at hf;simp at hf
  ·rfl
theorem DropOk.again {cs ds:List CodeD}(h:DropOk cs ds)(hg:Qa0 cs=true):DropOk ds ds:=by
 obtain⟨h1,h2,h3⟩:=h.unit hg
 exact .inl ⟨h1,rfl,fun i a b=>(h3 i (by omega) a).again⟩
end Go.AE.Y

namespace Go.AE.Y
attribute [local go_sem] cond_true cond_false Bool.not_true Bool.not_false
attribute [local instance] Classical.propDecidable
open Go.Proofs.Tryz
variable {H H0:Heap}{K:V→Heap→Prop}{fl:Bool}
theorem Qa83 {fn:Nat}{f:CodeD→CodeD}{l:List CodeD}(hl:l.length≤4)(hf:∀p∈l,∀(H:Heap) (K:V→Heap→Prop) (fl:Bool),(∀H',Upd H H' []→K (.ag (f p).cells) H')→Qo prog fn [.ag [.int .i64 p.params,.int .i64 p.regs,.sl fl 5 (Qp p.blocks)]] H K)
  (hK:∀H',Upd H H' []→K (.c (.sl false 3 (Qj (l.map f)))) H') :
  Qo prog Qb6 [.c (.sl fl 3 (Qj l)),.c (.fn fn [])] H K:=by
 refine Qs ?_
 refine Qb Qai Qqy ?_
 refine Qa ?_
 simp only[go_sem]
 refine Qa ?_
 simp only[go_sem]
 refine Q3 ?_
 refine Qa ?_
 simp only[go_sem,Qu]
 intro _
 refine Qh (Qe (Qx (fun m e1 H1=>∃(ds:List CodeD) (t:C) (Lg:List (Nat×Obj)),m=l.length-ds.length∧ds.length≤l.length∧(∀i (h1:i<l.length) (h2:i<ds.length),ds[i]=f l[i])∧Gr Lg 3 (Qj ds) t∧Kn H H1 [] ([]++Lg)∧
  e1=[(1,.c (.fn fn [])),(5,.c t),(8,.c (.sl fl 3 (Qj l))),(9,.c (.int .i64 l.length)),(10,.c (.int .i64 ds.length))]) l.length ?_ ?_))
 ·exact⟨[],_,[],by simp,by simp,by simp,.nil 3,Kn.start0 H,rfl⟩
 ·rintro m e1 H1 ⟨ds,t,Lg,hm,hi,hdr,hgr,kn,rfl⟩
  have htw:=hgr.isOw
  refine Qa ?_
  simp only[go_sem,htw]
  refine Qh (Qf rfl ?_ ?_)
  ·intro hc
   have hlt:ds.length<l.length:=by simpa using hc
   obtain⟨p,hp⟩:∃p,l[ds.length]=p:=⟨_,rfl⟩
   have hpm:p∈l:=by rw[←hp];exact List.getElem_mem hlt
   refine Qi ?_
   try simp only[go_sem]
   refine Qh (Qe ?_)
   refine Qa ?_
   simp only[go_sem,htw,hlt,Qu,Q6 _ _ hlt,CodeD.cells,hp]
   intro x7 hx7 H2 h2
   have kn:=kn.al hx7 h2
   have hx7:H2 x7=.st [.int .i64 0,.int .i64 0,.sl true 5 []]:=(kn.get (x7,.st [.int .i64 0,.int .i64 0,.sl true 5 []]) (by simp)).1
   simp only[go_sem,Qdm,hx7,htw]
   intro H3 h3
   have kn:Kn H H3 [] ([(x7,.st [.int .i64 p.params,.int .i64 p.regs,.sl false 5 (Qp p.blocks)])]++Lg):=by
    have:=kn.stL ([]++Lg).length (x:=x7) (o:=.st [.int .i64 0,.int .i64 0,.sl true 5 []]) (by simp) h3
    refine Kn.perm (by simpa using this) ?_
    exact List.perm_append_comm
   have hx7:=kn.l 0 rfl
   refine Qv ?_
   simp only[go_sem,htw,hx7,List.append_nil,List.map_nil]
   refine hf p hpm _ _ _ fun H4 hu=>?_
   obtain⟨d,hd⟩:∃d,f p=d:=⟨_,rfl⟩
   rw[hd]
   have kn:=kn.call0 hu
   simp only[go_sem,Qdo,htw,CodeD.cells]
   refine kn.growR (new:=Qj [d]) hgr (.mk' _ _ _ _) (Qbc _) (by simp only[Qu,LIM,List.length_cons,List.length_nil];omega) fun t2 Lg2 H5 hgr2 ht2 kn=>?_
   simp only[go_sem,Qdn,ht2]
   refine Qv ?_
   simp only[go_sem,X.next,ht2]
   refine⟨Qq (by omega) (by omega),l.length-(ds.length+1),by omega,ds++[d],t2,Lg2,by simp,by simp;omega,fun i h1 h2=>?_,?_,?_,by simp⟩
   ·by_cases hi:i<ds.length
    ·rw[List.getElem_append_left hi];exact hdr i h1 hi
    ·have hie:i=ds.length:=by simp only[List.length_append,List.length_cons,List.length_nil]at h2;omega
     subst hie
     rw[hp]
     have:(ds++[d])[ds.length]=d:=by simp
     rw[this]
     exact hd.symm
   ·have:Qj (ds++[d])=Qj ds++Qj [d]:=by simp[Qj]
    rw[this];exact hgr2
   ·exact Kn.drop (B:=[(x7,.st [.int .i64 p.params,.int .i64 p.regs,.sl false 5 (Qp p.blocks)])]) (kn.perm List.perm_append_comm)
  ·intro hc
   have hge:ds.length=l.length:=by have:l.length≤ds.length:=(by simpa using hc);omega
   refine Qw ?_
   simp only[go_sem,X.next]
   refine Qa ?_
   simp only[go_sem,htw]
   refine Qk ?_
   simp only[go_sem,Q0,Q5,Qff,List.mem_singleton,forall_eq,RS.op,htw]
   have hde:ds=l.map f:=List.ext_getElem (by rw[List.length_map,hge]) fun i h1 h2=>by rw[List.getElem_map];exact hdr i (by omega) h1
   have hfin:=hK _ kn.fin
   rw[←hde]at hfin
   exact⟨_,.c _ _ (hgr.frz kn (Qbc _)),hfin⟩
noncomputable def Qhk (f:CodeD→CodeD)(cs:List CodeD):List CodeD:=if Qa0 cs=true then cs.map f else []
theorem Qapa {fn:Nat}{f:CodeD→CodeD}{cs:List CodeD}(hfit:∀c∈cs,c.fits)(hf:Qa0 cs=true→∀p∈cs,∀(H:Heap) (K:V→Heap→Prop) (fl:Bool),(∀H',Upd H H' []→K (.ag (f p).cells) H')→Qo prog fn [.ag [.int .i64 p.params,.int .i64 p.regs,.sl fl 5 (Qp p.blocks)]] H K)
  (hK:∀H',Upd H H' []→K (.tup [.ag [.sl false 3 (Qj (Qhk f cs))],.c (.bool (Qa0 cs))]) H') :
  Qo prog Qg4 [.ag [.sl fl 3 (Qj cs)],.c (.fn fn [])] H K:=by
 refine Qs ?_
 refine Qb Qai Qaut ?_
 refine Qa ?_
 simp only[go_sem]
 intro x4 hx4 H1 h1
 have kn:=(Kn.start0 H).al hx4 h1
 simp only[go_sem,Qr1]
 refine Q3 ?_
 refine Qa ?_
 simp only[go_sem]
 refine Q0w hfit fun H2 hu=>?_
 have kn:=kn.call0 hu
 simp only[go_sem,Qr2]
 have hx4:=kn.l 0 rfl
 refine Qh (Qf rfl ?_ ?_)
 ·intro hc
  have hc:=Qpb hc
  refine Qa ?_
  simp only[go_sem,hx4]
  intro H3 h3
  have kn:=kn.stL 0 rfl h3
  have hx4:=kn.l 0 rfl
  simp only[go_sem,Qr3]
  refine Qk ?_
  simp only[go_sem,X.next,Q0,Q5,Qq7,List.forall_mem_cons,List.not_mem_nil,RS.op,hx4]
  have hK:=hK _ kn.fin
  rw[Qhk,hc]at hK
  exact⟨fun _=>trivial,_,Qmn (FrzL.ag (.cons FrzR.nil.sl .nil)) (.c _ _ (Qg rfl)),hK⟩
 ·intro hc
  have hg:=Qf6 hc
  have hc4:cs.length≤4:=by have:=(of_decide_eq_true hg).1;omega
  refine Qi ?_
  try simp only[go_sem]
  refine Qa ?_
  simp only[go_sem]
  refine Qa83 hc4 (hf hg) fun H3 hu=>?_
  have kn:=kn.call0 hu
  have hx4:=kn.l 0 rfl
  simp only[go_sem,Qr5,hx4]
  intro H4 h4
  have kn:=kn.stL 0 rfl h4
  have hx4:=kn.l 0 rfl
  simp only[go_sem,Qr4]
  refine Qk ?_
  simp only[go_sem,X.next,Q0,Q5,Qq7,List.forall_mem_cons,List.not_mem_nil,RS.op,hx4]
  have hK:=hK _ kn.fin
  rw[Qhk,if_pos hg,hg]at hK
  exact⟨fun _=>trivial,_,Qmn (Qjr _) (.c _ _ (Qg rfl)),hK⟩
theorem Q09 {f:CodeD→CodeD}{cs:List CodeD}(hfit:∀c∈cs,c.fits)(hf:∀c,c.fits→(f c).fits):∀c∈Qhk f cs,c.fits:=fun c hc=>by
 rw[Qhk]at hc
 split at hc
 ·obtain⟨x,hx,rfl⟩:=List.mem_map.1 hc
  exact hf x (hfit x hx)
 ·simp at hc
noncomputable def Q07 (cs:List CodeD)(b:Bool):List CodeD:=if (b&&Qa0 cs)=true then cs else []
end Go.AE.Y

namespace Go.AE.Y
attribute [local go_sem] cond_true cond_false Bool.not_true Bool.not_false
attribute [local instance] Classical.propDecidable
open Go.Proofs.Tryz
variable {H H0:Heap}{K:V→Heap→Prop}{fl:Bool}
noncomputable def splL (cs:List CodeD):List CodeD:=Q07 (Qhk spD cs) (Qa0 cs)
noncomputable def splB (cs:List CodeD):Bool:=Qa0 cs&&Qa0 (Qhk spD cs)
end Go.AE.Y

namespace Go.AE.Y
attribute [local go_sem] cond_true cond_false Bool.not_true Bool.not_false
attribute [local instance] Classical.propDecidable
open Go.Proofs.Tryz
variable {H H0:Heap}{K:V→Heap→Prop}{fl:Bool}
set_option maxHeartbeats 4000000 in
theorem Qao2 {cs:List CodeD}{pass:List UInt8}{f:CodeD→CodeD}(hfit:∀c∈cs,c.fits)(hff:∀c∈Qhk f cs,c.fits)
  (hf:Qa0 cs=true→∀p∈cs,∀(H:Heap) (K:V→Heap→Prop),(∀H',Upd H H' []→K (.ag (f p).cells) H')→Qo prog Qkh [.ag [.int .i64 p.params,.int .i64 p.regs,.sl false 5 (Qp p.blocks)],.c (.str pass)] H K)
  (hK:∀H',Upd H H' []→K (.tup [.ag [.sl false 3 (Qj (Q07 (Qhk f cs) (Qa0 cs)))],.c (.bool (Qa0 cs&&Qa0 (Qhk f cs)))]) H') :
  Qo prog Quo [.ag [.sl fl 3 (Qj cs)],.c (.str pass)] H K:=by
 refine Qs ?_
 refine Qb Qai Qbdb ?_
 refine Qa ?_
 simp only[go_sem]
 intro x4 hx4 H1 h1
 have kn:=(Kn.start0 H).al hx4 h1
 simp only[go_sem,Q6u]
 refine Q3 ?_
 refine Qa ?_
 simp only[go_sem]
 refine Qqj hfit fun H2 hu=>?_
 have kn:=kn.call0 hu
 simp only[go_sem,Q6v]
 refine Qh (Qf rfl ?_ ?_)
 ·intro hc
  have hc:Qa0 cs=false:=Qpb hc
  have hx4:=kn.l 0 rfl
  refine Qa ?_
  simp only[go_sem,hx4]
  intro H3 h3
  have kn:=kn.stL 0 rfl h3
  have hx4:=kn.l 0 rfl
  simp only[go_sem,Q6w]
  refine Qk ?_
  simp only[go_sem,X.next,Q0,Q5,Q1g,List.forall_mem_cons,List.not_mem_nil,RS.op,hx4]
  have hK:=hK _ kn.fin
  have eo:Q07 (Qhk f cs) false=[]:=by simp[Q07]
  rw[hc,eo]at hK
  exact⟨fun _=>trivial,_,Qmn (FrzL.ag (.cons (FrzR.nil.sl) .nil)) (.c _ _ (Qg rfl)),hK⟩
 ·intro hc
  have hG:Qa0 cs=true:=Qf6 hc
  refine Qi ?_
  try simp only[go_sem]
  refine Qa ?_
  simp only[go_sem]
  intro x6 hx6 H3 h3
  have kn:=kn.al hx6 h3
  have hx6:=kn.l 1 rfl
  simp only[go_sem,Q6x,hx6]
  intro H4 h4
  have kn:Kn H H4 [] [(x4,.st [.sl true 3 []]),(x6,.st [.sl true 3 []])]:=kn.stL 1 rfl h4
  refine Q3 ?_
  refine Qa ?_
  simp only[go_sem]
  have hcl:=(Qa7p hfit hG).1
  refine Qh (Qe (Qx (fun m e1 H1=>∃(ds:List CodeD) (t:C) (Lg:List (Nat×Obj)),m=cs.length-ds.length∧ds.length≤cs.length∧ds=(cs.take ds.length).map f∧Gr Lg 3 (Qj ds) t∧Kn H H1 [] ([(x4,.st [.sl true 3 []]),(x6,.st [t])]++Lg)∧
   lk 1 e1=.c (.str pass)∧lk 2 e1=.c (.pp [.sl fl 3 (Qj cs)])∧lk 4 e1=.c (.ptr x4 0)∧lk 6 e1=.c (.ptr x6 0)∧lk 7 e1=.c (.int .i64 ds.length)) cs.length ?_ ?_))
  ·exact⟨[],_,[],by simp,by simp,by simp,.nil 3,by simpa using kn,rfl,rfl,rfl,rfl,rfl⟩
  ·clear kn hx6
   rintro m e1 H5 ⟨ds,t,Lg,hm,hdl,hds,hgr,kn,l1,l2,l4,l6,l7⟩
   have htw:=hgr.isOw
   refine Q3 ?_
   refine Qa ?_
   simp only[go_sem,l1,l2,l4,l6,l7,Qu]
   try intro _
   refine Qh (Qf rfl ?_ ?_)
   ·intro hc2
    have hlt:ds.length<cs.length:=by simpa using hc2
    have hx6:=kn.l 1 rfl
    obtain⟨q,hq⟩:∃q,cs[ds.length]=q:=⟨_,rfl⟩
    have hqm:q∈cs:=by rw[←hq];exact List.getElem_mem hlt
    refine Qi ?_
    try simp only[go_sem]
    refine Qh (Qe ?_)
    refine Qbt ?_
    simp only[go_sem,l1,l2,l4,l6,l7,hx6,htw,hlt,Qu,Q6 _ _ hlt,CodeD.cells,hq]
    refine hf hG q hqm _ _ fun H6 hu=>?_
    obtain⟨d,hd⟩:∃d,f q=d:=⟨_,rfl⟩
    rw[hd]
    have kn:=kn.call0 hu
    have hx6:=kn.l 1 rfl
    simp only[go_sem,Q6z,CodeD.cells,hx6,htw]
    refine kn.growR (new:=Qj [d]) hgr (.mk' _ _ _ _) (Qbc _) (by simp only[Qu,LIM,List.length_cons,List.length_nil];omega) fun t2 Lg2 H7 hgr2 ht2 kn=>?_
    have hx6:=kn.l 1 rfl
    simp only[go_sem,Q6y,hx6,ht2]
    intro H8 h8
    have kn:=kn.stL 1 rfl h8
    refine Qv ?_
    simp only[go_sem,l1,l2,l4,l6,l7]
    refine⟨Qq (by omega) (by omega),?_⟩
    show ∃m,_
    refine⟨cs.length-(ds.length+1),by omega,ds++[d],t2,Lg2,by simp,by simp only[List.length_append,List.length_cons,List.length_nil];omega,?_,?_,kn,rfl,rfl,rfl,rfl,by simp[lk]⟩
    ·have e:(ds++[d]).length=ds.length+1:=by simp
     rw[e,List.take_succ_eq_append_getElem hlt,List.map_append,←hds,hq,List.map_cons,List.map_nil,hd]
    ·have:Qj (ds++[d])=Qj ds++Qj [d]:=by simp[Qj]
     rw[this];exact hgr2
   ·intro hcx
    have hdl2:ds.length=cs.length:=by have:cs.length≤ds.length:=(by simpa using hcx);omega
    rw[hdl2,List.take_length]at hds
    have hdp:Qhk f cs=ds:=by rw[Qhk,if_pos hG,←hds]
    rw[hG,hdp]at hK
    rw[hdp]at hff
    refine Qw ?_
    simp only[go_sem,X.next]
    have hx6:=kn.l 1 rfl
    obtain⟨S,hSL,hSB,hfz,kn⟩:=kn.freeze0
    have hx6b:=hSB (x6,.st [t]) (by simp)
    have hft:FrzC H5 S t (.sl false 3 (Qj ds)):=Gr.frzM hgr hSL (FrzR.same (Qbc _))
    have kn:=kn.setL (o':=.st [.sl false 3 (Qj ds)]) 1 rfl (by simp)
    refine c_gh (Qet S (Qaqb ?_) (hfz.set (o:=.st [.sl false 3 (Qj ds)]) hx6b.2 (by rw[hx6b.1];exact FrzKL.st (.cons htw hft .nil)))) (e':=[(4,.c (.ptr x4 0)),(6,.c (.ptr x6 0))]) ?_
    ·simp only[List.forall_mem_cons]
     exact⟨.c _ _ (.same _ rfl),.c _ _ (.same _ rfl),by simp⟩
    generalize (H5.frz S).set x6 (Obj.st [C.sl false 3 (Qj ds)])=H6 at *
    have hx6:=kn.l 1 rfl
    have hx4:=kn.l 0 rfl
    clear hfz hx6b hft hSL hSB
    refine Q3 ?_
    refine Qa ?_
    simp only[go_sem,hx6]
    refine Qqj hff fun H7 hu=>?_
    have kn:=kn.call0 hu
    have hx6:=kn.l 1 rfl
    have hx4:=kn.l 0 rfl
    simp only[go_sem,Q19]
    refine Qh (Qf rfl ?_ ?_)
    ·intro hc3
     have hG2:Qa0 ds=false:=Qpb hc3
     refine Qa ?_
     simp only[go_sem,hx4]
     intro H8 h8
     have kn:=kn.stL 0 rfl h8
     have hx4:=kn.l 0 rfl
     simp only[go_sem,Q2a]
     refine Qk ?_
     simp only[go_sem,X.next,Q0,Q5,Q1g,List.forall_mem_cons,List.not_mem_nil,RS.op,hx4]
     have hK:=hK _ kn.fin
     have eo:Q07 ds true=[]:=by simp[Q07,hG2]
     rw[hG2,eo]at hK
     exact⟨fun _=>trivial,_,Qmn (FrzL.ag (.cons (FrzR.nil.sl) .nil)) (.c _ _ (Qg rfl)),hK⟩
    ·intro hc3
     have hG2:Qa0 ds=true:=Qf6 hc3
     refine Qi ?_
     try simp only[go_sem]
     refine Qa ?_
     simp only[go_sem,hx6,hx4]
     intro H8 h8
     have kn:=kn.stL 0 rfl h8
     have hx4:=kn.l 0 rfl
     simp only[go_sem,Q2b]
     refine Qk ?_
     simp only[go_sem,X.next,Q0,Q5,Q1g,List.forall_mem_cons,List.not_mem_nil,RS.op,hx4]
     have hK:=hK _ kn.fin
     have eo:Q07 ds true=ds:=by simp[Q07,hG2]
     rw[hG2,eo]at hK
     exact⟨fun _=>trivial,_,Qmn (Qjr ds) (.c _ _ (Qg rfl)),hK⟩
end Go.AE.Y

namespace Go.AE.Y
attribute [local go_sem] cond_true cond_false Bool.not_true Bool.not_false
attribute [local instance] Classical.propDecidable
open Go.Proofs.Tryz
variable {H H0:Heap}{K:V→Heap→Prop}{fl:Bool}{q:CodeD}{cs:List CodeD}
theorem Qadq (ho:q.ok):Qapi q.blocks.length (gnx q)=rchL q.blocks.length (nxN (gnx q)):=by
 rw[Qapi,if_pos ho.fitB];rfl
theorem Qaq8 (ho:q.ok)(hK:∀H',Upd H H' []→K (.ag (Qg1 q).cells) H') :
  Qo prog Qer [.ag [.int .i64 q.params,.int .i64 q.regs,.sl fl 5 (Qp q.blocks)]] H K:=by
 have hb1:=ho.b1
 refine Qs ?_
 refine Qb Qai Q8v ?_
 refine Qa ?_
 simp only[go_sem]
 intro x2 hx2 H1 h1
 have kn:=(Kn.start0 H).al hx2 h1
 refine Qag ?_
 simp only[go_sem]
 refine Qyj (rows:=Qp q.blocks) (nx:=gnx q) (Qi8 H1 q fl) (by rw[Ql];omega) fun H2 hu=>?_
 have kn:=kn.call0 hu
 rw[Ql,Qadq ho]
 simp only[go_sem,Qih]
 refine Qa69 ho ho.rchPk (Qadp _ _) fun H3 hu=>?_
 have kn:=kn.call0 hu
 have hx2:=kn.l 0 rfl
 simp only[go_sem,Qig,CodeD.cells,hx2]
 intro H4 h4
 have kn:=kn.stL 0 rfl h4
 have hx2:=kn.l 0 rfl
 refine Qk ?_
 simp only[go_sem,Q0,Q5,Qnq,List.mem_singleton,forall_eq,RS.op,hx2]
 exact⟨_,FrzL.ag (.cons (.same _ rfl) (.cons (.same _ rfl) (.cons (.same _ rfl) .nil))),hK _ kn.fin⟩
theorem Qko (hfit:∀c∈cs,c.fits)(hK:∀H',Upd H H' []→K (.tup [.ag [.sl false 3 (Qj (Qhk Qg1 cs))],.c (.bool (Qa0 cs))]) H') :
  Qo prog Qbv [.ag [.sl fl 3 (Qj cs)]] H K:=by
 refine Qs ?_
 refine Qb Qai Q00 ?_
 refine Qa ?_
 simp only[go_sem]
 intro x2 hx2 H1 h1
 have kn:=(Kn.start0 H).al hx2 h1
 simp only[go_sem,Qfh]
 refine Qa ?_
 simp only[go_sem]
 refine Qapa (f:=Qg1) hfit (fun hg p hp H K fl hK=>?_) fun H2 hu=>?_
 ·obtain⟨i,hi,rfl⟩:=List.mem_iff_getElem.1 hp
  exact Qaq8 (Qdh hg hi) hK
 have kn:=kn.call0 hu
 have hx2:=kn.l 0 rfl
 simp only[go_sem,Qfj,hx2,List.getD_cons_zero,List.getD_cons_succ]
 intro H4 h4
 have kn:=kn.stL 0 rfl h4
 have hx2:=kn.l 0 rfl
 simp only[go_sem,Qfi]
 refine Qk ?_
 simp only[go_sem,X.next,Q0,Q5,Qjd,List.forall_mem_cons,List.not_mem_nil,RS.op,hx2]
 exact⟨fun _=>trivial,_,Qmn (Qjr _) (.c _ _ (Qg rfl)),hK _ kn.fin⟩
theorem Qa8j {fl:Bool}(ho:q.ok)(hK:∀z H',Kn H H' [] [(z,.vec 5 (Qp (Qg1 q).blocks))]→K (.ag [.int .i64 q.params,.int .i64 q.regs,.vsl z 5 0 (Qg1 q).blocks.length]) H') :
  Qo prog Q37 [.ag [.int .i64 q.params,.int .i64 q.regs,.sl fl 5 (Qp q.blocks)]] H K:=by
 refine Qcw ?_
 refine Qb Qai Qbda ?_
 refine Qa ?_
 simp only[go_sem]
 intro x2 hx2 H1 h1
 have kn:=(Kn.start0 H).al hx2 h1
 refine Qag ?_
 simp only[go_sem]
 refine Qatn (rows:=Qp q.blocks) (nx:=gnx q) (Qacn ho.gd) (by rw[Ql];exact ho.fitB) fun H2 hu=>?_
 have kn:=kn.call0 hu
 rw[Ql]
 simp only[go_sem,Q6t]
 refine Qao3 ho ho.rchPk fun d z H3 hR hP k2=>?_
 obtain⟨P,hP,hd⟩:=hP
 rw[Qbkb ho ho.rchPk (Qadp _ _) hP]at hd
 have hd:d=Qg1 q:=hd
 subst hd
 have kn:=kn.comp0 k2
 have hx2:=kn.l 0 rfl
 simp only[go_sem,Q6s,hx2]
 intro H4 h4
 have kn:Kn H H4 [] ([(x2,.st [.int .i64 q.params,.int .i64 q.regs,.vsl z 5 0 (Qg1 q).blocks.length])]++[(z,.vec 5 (Qp (Qg1 q).blocks))]):=kn.stL 0 rfl h4
 have hx2:=kn.l 0 rfl
 refine Qk ?_
 simp only[go_sem,Q0,Q5,Qavh,List.mem_singleton,forall_eq,RS.op,hx2]
 obtain⟨S,hSL,hSB,hfz,kn⟩:=(kn.perm List.perm_append_comm).freeze0
 exact⟨S,_,_,FrzL.ag (.cons (Qg rfl) (.cons (Qg rfl) (.cons (.same _ rfl) .nil))),hfz,hK z _ kn⟩
theorem Qa8n (hq:q.ok)(hK:∀H',Upd H H' []→K (.ag (Qg1 q).cells) H') :
  Qo prog Qkh [.ag [.int .i64 q.params,.int .i64 q.regs,.sl false 5 (Qp q.blocks)],.c (.str [114,101,97,99,104])] H K:=by
 refine Qs ?_
 refine Qb Qai Qauw ?_
 refine Qa ?_
 simp only[go_sem]
 intro x4 hx4 H1 h1
 have kn:=(Kn.start0 H).al hx4 h1
 refine Q3 ?_
 refine Qa ?_
 simp only[go_sem]
 refine Qh (Qe ?_)
 refine Qa ?_
 simp only[go_sem]
 refine Qf rfl (fun _=>?_) (fun hc=>absurd hc (by decide))
 refine Qa ?_
 simp only[go_sem]
 refine Qa8j hq fun z H2 k2=>?_
 have kn:=kn.comp0 k2
 have hx4:=kn.l 0 rfl
 simp only[go_sem,Q67,hx4]
 intro H3 h3
 have kn:Kn H H3 [] ([(x4,.st [.int .i64 q.params,.int .i64 q.regs,.vsl z 5 0 (Qg1 q).blocks.length])]++[(z,.vec 5 (Qp (Qg1 q).blocks))]):=kn.stL 0 rfl h3
 have hx4:=kn.l 0 rfl
 have hz:=kn.l 1 rfl
 refine Qk ?_
 simp only[go_sem,X.next,Q0,Q5,Qadd,List.mem_singleton,forall_eq,RS.op,hx4]
 exact⟨_,FrzL.ag (.cons (Qg rfl) (.cons (Qg rfl) (.cons (FrzR.vsl (kn.un 1 rfl) hz (by rw[Ql]) (FrzR.same (Qyl _))) .nil))),hK _ kn.fin⟩
theorem Qbd7 {l:List Nat}(h:q.fits):(pkE q l).fits:=fun y hy=>by
 obtain⟨b,hb,rfl⟩:=List.mem_iff_getElem.1 hy
 rw[Q58,pkX]
 by_cases hl:l.getD b 0<q.blocks.length
 ·have:=h _ (List.getElem_mem hl)
  rw[Qa8 hl]
  simpa using this
 ·have e:Qaj q (l.getD b 0)=⟨[],[],0,0,[]⟩:=by rw[Qaj,List.getD_eq_getElem?_getD,List.getElem?_eq_none (by omega)];rfl
  rw[e];simp
theorem Qa6r (cs:List CodeD):Q07 (Qhk Qg1 cs) (Qa0 cs)=Qhk Qg1 cs∧(Qa0 cs&&Qa0 (Qhk Qg1 cs))=Qa0 cs:=by
 cases hg:Qa0 cs with
 |false=>simp[Q07,Qhk,hg]
 |true=>
  have h:=Qa6s hg
  have e:Qhk Qg1 cs=cs.map Qg1:=by rw[Qhk,if_pos hg]
  rw[e,Q07,h];simp
theorem Q5x (hfit:∀c∈cs,c.fits)(hK:∀H',Upd H H' []→K (.tup [.ag [.sl false 3 (Qj (Qhk Qg1 cs))],.c (.bool (Qa0 cs))]) H') :
  Qo prog Qde [.ag [.sl fl 3 (Qj cs)]] H K:=by
 refine Qs ?_
 refine Qb Qai Q06 ?_
 refine Qa ?_
 simp only[go_sem]
 intro x2 hx2 H1 h1
 have kn:=(Kn.start0 H).al hx2 h1
 simp only[go_sem,Qf1]
 refine Qa ?_
 simp only[go_sem]
 refine Qao2 (f:=Qg1) hfit (Q09 (f:=Qg1) hfit fun c h=>Qbd7 h) (fun hg p hp H K hK=>?_) fun H2 hu=>?_
 ·obtain⟨i,hi,rfl⟩:=List.mem_iff_getElem.1 hp
  exact Qa8n (Qdh hg hi) hK
 rw[(Qa6r cs).1,(Qa6r cs).2]
 have kn:=kn.call0 hu
 have hx2:=kn.l 0 rfl
 simp only[go_sem,Qf3,List.getD_cons_zero,List.getD_cons_succ,hx2]
 intro H3 h3
 have kn:=kn.stL 0 rfl h3
 have hx2:=kn.l 0 rfl
 simp only[go_sem,Qf2]
 refine Qk ?_
 simp only[go_sem,Q0,Q5,Qjm,List.forall_mem_cons,List.not_mem_nil,RS.op,hx2]
 exact⟨fun _=>trivial,_,Qmn (Qjr _) (.c _ _ (Qg rfl)),hK _ kn.fin⟩
end Go.AE.Y

namespace Go.AE.Y
attribute [local go_sem] cond_true cond_false Bool.not_true Bool.not_false
open Go.Proofs.Tryz
variable {H H0:Heap}{K:V→Heap→Prop}
theorem Qai6 {f g:Bool}{ns:List Int}(hK:K (.c (.bool true)) H):Qo prog Qhv [.c (.sl f 1 (Qd ns)),.c (.sl g 1 (Qd ns))] H K:=by
 refine Qb Qai Qa81 ?_
 refine Qa ?_
 simp only[go_sem]
 refine Q3 ?_
 refine Qa ?_
 simp only[go_sem,Qc,decide_true]
 intro hl
 try intro _
 simp only[LIM]at hl
 refine Qh (Qf rfl ?_ ?_)
 ·intro h;simp at h
 intro _
 refine Qi ?_
 try simp only[go_sem]
 refine Q3 ?_
 refine Qa ?_
 simp only[go_sem,Qc]
 try intro _
 refine Qh (Qe (Qx (fun m e1 H1=>∃(i:Nat),m=ns.length-i∧i≤ns.length∧H1=H∧lk 0 e1=.c (.sl f 1 (Qd ns))∧lk 1 e1=.c (.sl g 1 (Qd ns))∧lk 12 e1=.c (.int .i64 ns.length)∧lk 13 e1=.c (.int .i64 i)) ns.length ?_ ?_))
 ·exact⟨0,by omega,by omega,rfl,rfl,rfl,rfl,rfl⟩
 ·rintro m e1 H1 ⟨i,hm,hi,rfl,l0,l1,l12,l13⟩
  refine Qa ?_
  simp only[go_sem,l0,l1,l12,l13]
  refine Qh (Qf rfl ?_ ?_)
  ·intro hc
   have hlt:i<ns.length:=by simpa using hc
   refine Qi ?_
   try simp only[go_sem]
   refine Qh (Qe ?_)
   refine Qa ?_
   simp only[go_sem,l0,l1,l12,l13]
   refine Qag ?_
   simp only[go_sem,l0,l1,l12,l13,hlt,Qc,Qt _ _ hlt,decide_true]
   refine Qf rfl ?_ ?_
   ·intro h;simp at h
   intro _
   refine Qi ?_
   try simp only[go_sem]
   refine Qv ?_
   simp only[go_sem,l0,l1,l12,l13]
   refine⟨Qq (by omega) (by omega),?_⟩
   show ∃m,_
   exact⟨ns.length-(i+1),by omega,i+1,rfl,by omega,rfl,rfl,rfl,rfl,rfl⟩
  ·intro hc
   refine Qw ?_
   simp only[go_sem,X.next]
   refine Qa ?_
   simp only[go_sem]
   refine Qk ?_
   simp only[go_sem,Q0,Q5,Qaph,List.mem_singleton,forall_eq,RS.op]
   exact hK
theorem Qaqh {f g:Bool}{ns:List Int}(hK:K (.c (.bool true)) H):Qo prog Qqr [.c (.sl f 1 (Qd ns)),.c (.sl g 1 (Qd ns))] H K:=by
 refine Qb Qai Qbh9 ?_
 refine Qa ?_
 simp only[go_sem]
 refine Q3 ?_
 refine Qa ?_
 simp only[go_sem,Qc,decide_true]
 intro hl
 try intro _
 simp only[LIM]at hl
 refine Qh (Qf rfl ?_ ?_)
 ·intro h;simp at h
 intro _
 refine Qi ?_
 try simp only[go_sem]
 refine Q3 ?_
 refine Qa ?_
 simp only[go_sem,Qc]
 try intro _
 refine Qh (Qe (Qx (fun m e1 H1=>∃(i:Nat),m=ns.length-i∧i≤ns.length∧H1=H∧lk 0 e1=.c (.sl f 1 (Qd ns))∧lk 1 e1=.c (.sl g 1 (Qd ns))∧lk 5 e1=.c (.int .i64 i)) ns.length ?_ ?_))
 ·exact⟨0,by omega,by omega,rfl,rfl,rfl,rfl⟩
 ·rintro m e1 H1 ⟨i,hm,hi,rfl,l0,l1,l5⟩
  refine Q3 ?_
  refine Qa ?_
  simp only[go_sem,l0,l1,l5,Qc]
  try intro _
  refine Qh (Qf rfl ?_ ?_)
  ·intro hc
   have hlt:i<ns.length:=by simpa using hc
   refine Qi ?_
   try simp only[go_sem]
   refine Qh (Qe ?_)
   refine Qag ?_
   simp only[go_sem,l0,l1,l5,hlt,Qc,Qt _ _ hlt,decide_true]
   refine Qf rfl ?_ ?_
   ·intro h;simp at h
   intro _
   refine Qi ?_
   try simp only[go_sem]
   refine Qv ?_
   simp only[go_sem,l0,l1,l5]
   refine⟨Qq (by omega) (by omega),?_⟩
   show ∃m,_
   exact⟨ns.length-(i+1),by omega,i+1,rfl,by omega,rfl,rfl,rfl,rfl⟩
  ·intro hc
   refine Qw ?_
   simp only[go_sem,X.next]
   refine Qa ?_
   simp only[go_sem]
   refine Qk ?_
   simp only[go_sem,Q0,Q5,Qa7c,List.mem_singleton,forall_eq,RS.op]
   exact hK
set_option maxHeartbeats 1000000 in
theorem Qbf5 {p:PhiD}(hK:∀H',Upd H H' []→K (.c (.bool true)) H'):Qo prog Qd1 [.ag p.cells,.ag p.cells] H K:=by
 refine Qs ?_
 refine Qb Qai Qauv ?_
 have kn:=Kn.start0 H
 refine Qa ?_
 simp only[go_sem,PhiD.cells]
 refine Qa ?_
 simp only[go_sem,decide_true]
 refine Qai6 ?_
 simp only[go_sem,Qsd,decide_true]
 refine Qk ?_
 simp only[go_sem,Q0,Q5,Q6d,List.mem_singleton,forall_eq,RS.op]
 exact⟨_,.c _ _ (Qg rfl),hK _ kn.fin⟩
set_option maxHeartbeats 2000000 in
theorem Qbg1 {f g:Bool}{l:List PhiD}(hK:∀H',Upd H H' []→K (.c (.bool true)) H'):Qo prog Qdb [.c (.sl f 2 (Q2 l)),.c (.sl g 2 (Q2 l)),.c (.fn Qd1 [])] H K:=by
 refine Qs ?_
 refine Qb Qai Q03 ?_
 refine Qa ?_
 simp only[go_sem]
 refine Q3 ?_
 refine Qa ?_
 simp only[go_sem,Qy,decide_true]
 intro hl
 try intro _
 simp only[LIM]at hl
 refine Qh (Qf rfl ?_ ?_)
 ·intro h;simp at h
 intro _
 refine Qi ?_
 try simp only[go_sem]
 refine Q3 ?_
 refine Qa ?_
 simp only[go_sem,Qy]
 try intro _
 refine Qh (Qe (Qx (fun m e1 H1=>∃(i:Nat),m=l.length-i∧i≤l.length∧Kn H H1 [] []∧lk 1 e1=.c (.sl g 2 (Q2 l))∧lk 2 e1=.c (.fn Qd1 [])∧lk 15 e1=.c (.sl f 2 (Q2 l))∧lk 16 e1=.c (.int .i64 l.length)∧lk 17 e1=.c (.int .i64 i)) l.length ?_ ?_))
 ·exact⟨0,by omega,by omega,.start0 H,rfl,rfl,rfl,rfl,rfl⟩
 ·rintro m e1 H1 ⟨i,hm,hi,kn,l1,l2,l15,l16,l17⟩
  refine Qa ?_
  simp only[go_sem,l1,l2,l15,l16,l17]
  refine Qh (Qf rfl ?_ ?_)
  ·intro hc
   have hlt:i<l.length:=by simpa using hc
   obtain⟨p,hp⟩:∃p,l[i]=p:=⟨_,rfl⟩
   refine Qi ?_
   try simp only[go_sem]
   refine Qh (Qe ?_)
   refine Qa ?_
   simp only[go_sem,l1,l2,l15,l16,l17,hlt,Qy,Qa3 _ _ hlt,hp,PhiD.cells]
   intro x8 hx8 H2 h2
   have kn:=kn.al hx8 h2
   have hx8:=kn.l 0 rfl
   simp only[go_sem,Qfw,hx8]
   intro H3 h3
   have kn:Kn H H3 [] [(x8,.st p.cells)]:=kn.stL 0 rfl h3
   refine Qa ?_
   simp only[go_sem,l1,l2,l15,l16,l17,hlt,Qy,Qa3 _ _ hlt,hp,PhiD.cells]
   intro x9 hx9 H4 h4
   have kn:=kn.al hx9 h4
   have hx9:=kn.l 1 rfl
   simp only[go_sem,Qfx,hx9]
   intro H5 h5
   have kn:Kn H H5 [] [(x8,.st p.cells),(x9,.st p.cells)]:=kn.stL 1 rfl h5
   have hx8:H5 x8=.st p.cells:=kn.l 0 rfl
   have hx9:H5 x9=.st p.cells:=kn.l 1 rfl
   refine Qa ?_
   simp only[go_sem,hx8,hx9,PhiD.cells,List.append_nil,List.map_nil]
   refine Qbf5 (p:=p) fun H6 hu=>?_
   have kn:=kn.call0 hu
   simp only[go_sem,Qfy]
   refine Qf rfl ?_ ?_
   ·intro h;simp at h
   intro _
   refine Qi ?_
   try simp only[go_sem]
   refine Qv ?_
   simp only[go_sem,l1,l2,l15,l16,l17]
   refine⟨Qq (by omega) (by omega),?_⟩
   show ∃m,_
   exact⟨l.length-(i+1),by omega,i+1,rfl,by omega,Kn.drop (A:=[]) (B:=[(x8,_),(x9,_)]) kn,rfl,rfl,rfl,rfl,rfl⟩
  ·intro hc
   refine Qw ?_
   simp only[go_sem,X.next]
   refine Qa ?_
   simp only[go_sem]
   refine Qk ?_
   simp only[go_sem,Q0,Q5,Qjk,List.mem_singleton,forall_eq,RS.op]
   exact⟨_,.c _ _ (Qg rfl),hK _ kn.fin⟩
set_option maxHeartbeats 1000000 in
theorem Qbf4 {p:InsD}(hK:∀H',Upd H H' []→K (.c (.bool true)) H'):Qo prog Qd0 [.ag p.cells,.ag p.cells] H K:=by
 refine Qs ?_
 refine Qb Qai Qauu ?_
 have kn:=Kn.start0 H
 refine Qa ?_
 simp only[go_sem,InsD.cells]
 refine Qa ?_
 simp only[go_sem,decide_true]
 refine Qai6 ?_
 simp only[go_sem,Qsc,decide_true]
 refine Qk ?_
 simp only[go_sem,Q0,Q5,Q6c,List.mem_singleton,forall_eq,RS.op]
 exact⟨_,.c _ _ (Qg rfl),hK _ kn.fin⟩
set_option maxHeartbeats 2000000 in
theorem Qbg0 {f g:Bool}{l:List InsD}(hK:∀H',Upd H H' []→K (.c (.bool true)) H'):Qo prog Qda [.c (.sl f 4 (Qav l)),.c (.sl g 4 (Qav l)),.c (.fn Qd0 [])] H K:=by
 refine Qs ?_
 refine Qb Qai Q02 ?_
 refine Qa ?_
 simp only[go_sem]
 refine Q3 ?_
 refine Qa ?_
 simp only[go_sem,Qaq,decide_true]
 intro hl
 try intro _
 simp only[LIM]at hl
 refine Qh (Qf rfl ?_ ?_)
 ·intro h;simp at h
 intro _
 refine Qi ?_
 try simp only[go_sem]
 refine Q3 ?_
 refine Qa ?_
 simp only[go_sem,Qaq]
 try intro _
 refine Qh (Qe (Qx (fun m e1 H1=>∃(i:Nat),m=l.length-i∧i≤l.length∧Kn H H1 [] []∧lk 1 e1=.c (.sl g 4 (Qav l))∧lk 2 e1=.c (.fn Qd0 [])∧lk 15 e1=.c (.sl f 4 (Qav l))∧lk 16 e1=.c (.int .i64 l.length)∧lk 17 e1=.c (.int .i64 i)) l.length ?_ ?_))
 ·exact⟨0,by omega,by omega,.start0 H,rfl,rfl,rfl,rfl,rfl⟩
 ·rintro m e1 H1 ⟨i,hm,hi,kn,l1,l2,l15,l16,l17⟩
  refine Qa ?_
  simp only[go_sem,l1,l2,l15,l16,l17]
  refine Qh (Qf rfl ?_ ?_)
  ·intro hc
   have hlt:i<l.length:=by simpa using hc
   obtain⟨p,hp⟩:∃p,l[i]=p:=⟨_,rfl⟩
   refine Qi ?_
   try simp only[go_sem]
   refine Qh (Qe ?_)
   refine Qa ?_
   simp only[go_sem,l1,l2,l15,l16,l17,hlt,Qaq,Qdk _ _ hlt,hp,InsD.cells]
   intro x8 hx8 H2 h2
   have kn:=kn.al hx8 h2
   have hx8:=kn.l 0 rfl
   simp only[go_sem,Qft,hx8]
   intro H3 h3
   have kn:Kn H H3 [] [(x8,.st p.cells)]:=kn.stL 0 rfl h3
   refine Qa ?_
   simp only[go_sem,l1,l2,l15,l16,l17,hlt,Qaq,Qdk _ _ hlt,hp,InsD.cells]
   intro x9 hx9 H4 h4
   have kn:=kn.al hx9 h4
   have hx9:=kn.l 1 rfl
   simp only[go_sem,Qfu,hx9]
   intro H5 h5
   have kn:Kn H H5 [] [(x8,.st p.cells),(x9,.st p.cells)]:=kn.stL 1 rfl h5
   have hx8:H5 x8=.st p.cells:=kn.l 0 rfl
   have hx9:H5 x9=.st p.cells:=kn.l 1 rfl
   refine Qa ?_
   simp only[go_sem,hx8,hx9,InsD.cells,List.append_nil,List.map_nil]
   refine Qbf4 (p:=p) fun H6 hu=>?_
   have kn:=kn.call0 hu
   simp only[go_sem,Qfv]
   refine Qf rfl ?_ ?_
   ·intro h;simp at h
   intro _
   refine Qi ?_
   try simp only[go_sem]
   refine Qv ?_
   simp only[go_sem,l1,l2,l15,l16,l17]
   refine⟨Qq (by omega) (by omega),?_⟩
   show ∃m,_
   exact⟨l.length-(i+1),by omega,i+1,rfl,by omega,Kn.drop (A:=[]) (B:=[(x8,_),(x9,_)]) kn,rfl,rfl,rfl,rfl,rfl⟩
  ·intro hc
   refine Qw ?_
   simp only[go_sem,X.next]
   refine Qa ?_
   simp only[go_sem]
   refine Qk ?_
   simp only[go_sem,Q0,Q5,Qjj,List.mem_singleton,forall_eq,RS.op]
   exact⟨_,.c _ _ (Qg rfl),hK _ kn.fin⟩
set_option maxHeartbeats 1000000 in
theorem Qa6c {p:BlkD}(hK:∀H',Upd H H' []→K (.c (.bool true)) H'):Qo prog Qcb [.ag p.cells,.ag p.cells] H K:=by
 refine Qs ?_
 refine Qb Qai Qajx ?_
 have kn:=Kn.start0 H
 refine Qa ?_
 simp only[go_sem,BlkD.cells]
 refine Qa ?_
 simp only[go_sem,decide_true]
 refine Qai6 ?_
 simp only[go_sem,Qlq,decide_true]
 refine Qbg1 fun H1 hu=>?_
 have kn:=kn.call0 hu
 simp only[go_sem,Qlp,decide_true]
 refine Qbg0 fun H1 hu=>?_
 have kn:=kn.call0 hu
 simp only[go_sem,Qlo,decide_true]
 refine Qk ?_
 simp only[go_sem,Q0,Q5,Qw1,List.mem_singleton,forall_eq,RS.op]
 exact⟨_,.c _ _ (Qg rfl),hK _ kn.fin⟩
set_option maxHeartbeats 2000000 in
theorem Qa78 {f g:Bool}{l:List BlkD}(hK:∀H',Upd H H' []→K (.c (.bool true)) H'):Qo prog Qce [.c (.sl f 5 (Qp l)),.c (.sl g 5 (Qp l)),.c (.fn Qcb [])] H K:=by
 refine Qs ?_
 refine Qb Qai Qu5 ?_
 refine Qa ?_
 simp only[go_sem]
 refine Q3 ?_
 refine Qa ?_
 simp only[go_sem,Ql,decide_true]
 intro hl
 try intro _
 simp only[LIM]at hl
 refine Qh (Qf rfl ?_ ?_)
 ·intro h;simp at h
 intro _
 refine Qi ?_
 try simp only[go_sem]
 refine Q3 ?_
 refine Qa ?_
 simp only[go_sem,Ql]
 try intro _
 refine Qh (Qe (Qx (fun m e1 H1=>∃(i:Nat),m=l.length-i∧i≤l.length∧Kn H H1 [] []∧lk 1 e1=.c (.sl g 5 (Qp l))∧lk 2 e1=.c (.fn Qcb [])∧lk 15 e1=.c (.sl f 5 (Qp l))∧lk 16 e1=.c (.int .i64 l.length)∧lk 17 e1=.c (.int .i64 i)) l.length ?_ ?_))
 ·exact⟨0,by omega,by omega,.start0 H,rfl,rfl,rfl,rfl,rfl⟩
 ·rintro m e1 H1 ⟨i,hm,hi,kn,l1,l2,l15,l16,l17⟩
  refine Qa ?_
  simp only[go_sem,l1,l2,l15,l16,l17]
  refine Qh (Qf rfl ?_ ?_)
  ·intro hc
   have hlt:i<l.length:=by simpa using hc
   obtain⟨p,hp⟩:∃p,l[i]=p:=⟨_,rfl⟩
   refine Qi ?_
   try simp only[go_sem]
   refine Qh (Qe ?_)
   refine Qa ?_
   simp only[go_sem,l1,l2,l15,l16,l17,hlt,Ql,Qax _ _ hlt,hp,BlkD.cells]
   intro x8 hx8 H2 h2
   have kn:=kn.al hx8 h2
   have hx8:=kn.l 0 rfl
   simp only[go_sem,Qd8,hx8]
   intro H3 h3
   have kn:Kn H H3 [] [(x8,.st p.cells)]:=kn.stL 0 rfl h3
   refine Qa ?_
   simp only[go_sem,l1,l2,l15,l16,l17,hlt,Ql,Qax _ _ hlt,hp,BlkD.cells]
   intro x9 hx9 H4 h4
   have kn:=kn.al hx9 h4
   have hx9:=kn.l 1 rfl
   simp only[go_sem,Qd9,hx9]
   intro H5 h5
   have kn:Kn H H5 [] [(x8,.st p.cells),(x9,.st p.cells)]:=kn.stL 1 rfl h5
   have hx8:H5 x8=.st p.cells:=kn.l 0 rfl
   have hx9:H5 x9=.st p.cells:=kn.l 1 rfl
   refine Qa ?_
   simp only[go_sem,hx8,hx9,BlkD.cells,List.append_nil,List.map_nil]
   refine Qa6c (p:=p) fun H6 hu=>?_
   have kn:=kn.call0 hu
   simp only[go_sem,Qea]
   refine Qf rfl ?_ ?_
   ·intro h;simp at h
   intro _
   refine Qi ?_
   try simp only[go_sem]
   refine Qv ?_
   simp only[go_sem,l1,l2,l15,l16,l17]
   refine⟨Qq (by omega) (by omega),?_⟩
   show ∃m,_
   exact⟨l.length-(i+1),by omega,i+1,rfl,by omega,Kn.drop (A:=[]) (B:=[(x8,_),(x9,_)]) kn,rfl,rfl,rfl,rfl,rfl⟩
  ·intro hc
   refine Qw ?_
   simp only[go_sem,X.next]
   refine Qa ?_
   simp only[go_sem]
   refine Qk ?_
   simp only[go_sem,Q0,Q5,Qga,List.mem_singleton,forall_eq,RS.op]
   exact⟨_,.c _ _ (Qg rfl),hK _ kn.fin⟩
set_option maxHeartbeats 1000000 in
theorem Qbbn {p:CodeD}(hK:∀H',Upd H H' []→K (.c (.bool true)) H'):Qo prog Qc0 [.ag p.cells,.ag p.cells] H K:=by
 refine Qs ?_
 refine Qb Qai Qaqp ?_
 have kn:=Kn.start0 H
 refine Qa ?_
 simp only[go_sem,CodeD.cells]
 refine Qa ?_
 simp only[go_sem,decide_true]
 refine Qa78 fun H1 hu=>?_
 have kn:=kn.call0 hu
 simp only[go_sem,Qny,decide_true]
 refine Qk ?_
 simp only[go_sem,Q0,Q5,Q1f,List.mem_singleton,forall_eq,RS.op]
 exact⟨_,.c _ _ (Qg rfl),hK _ kn.fin⟩
set_option maxHeartbeats 2000000 in
theorem Qbcc {f g:Bool}{l:List CodeD}(hK:∀H',Upd H H' []→K (.c (.bool true)) H'):Qo prog Qct [.c (.sl f 3 (Qj l)),.c (.sl g 3 (Qj l)),.c (.fn Qc0 [])] H K:=by
 refine Qs ?_
 refine Qb Qai Qyx ?_
 refine Qa ?_
 simp only[go_sem]
 refine Q3 ?_
 refine Qa ?_
 simp only[go_sem,Qu,decide_true]
 intro hl
 try intro _
 simp only[LIM]at hl
 refine Qh (Qf rfl ?_ ?_)
 ·intro h;simp at h
 intro _
 refine Qi ?_
 try simp only[go_sem]
 refine Q3 ?_
 refine Qa ?_
 simp only[go_sem,Qu]
 try intro _
 refine Qh (Qe (Qx (fun m e1 H1=>∃(i:Nat),m=l.length-i∧i≤l.length∧Kn H H1 [] []∧lk 1 e1=.c (.sl g 3 (Qj l))∧lk 2 e1=.c (.fn Qc0 [])∧lk 15 e1=.c (.sl f 3 (Qj l))∧lk 16 e1=.c (.int .i64 l.length)∧lk 17 e1=.c (.int .i64 i)) l.length ?_ ?_))
 ·exact⟨0,by omega,by omega,.start0 H,rfl,rfl,rfl,rfl,rfl⟩
 ·rintro m e1 H1 ⟨i,hm,hi,kn,l1,l2,l15,l16,l17⟩
  refine Qa ?_
  simp only[go_sem,l1,l2,l15,l16,l17]
  refine Qh (Qf rfl ?_ ?_)
  ·intro hc
   have hlt:i<l.length:=by simpa using hc
   obtain⟨p,hp⟩:∃p,l[i]=p:=⟨_,rfl⟩
   refine Qi ?_
   try simp only[go_sem]
   refine Qh (Qe ?_)
   refine Qa ?_
   simp only[go_sem,l1,l2,l15,l16,l17,hlt,Qu,Q6 _ _ hlt,hp,CodeD.cells]
   intro x8 hx8 H2 h2
   have kn:=kn.al hx8 h2
   have hx8:=kn.l 0 rfl
   simp only[go_sem,Qem,hx8]
   intro H3 h3
   have kn:Kn H H3 [] [(x8,.st p.cells)]:=kn.stL 0 rfl h3
   refine Qa ?_
   simp only[go_sem,l1,l2,l15,l16,l17,hlt,Qu,Q6 _ _ hlt,hp,CodeD.cells]
   intro x9 hx9 H4 h4
   have kn:=kn.al hx9 h4
   have hx9:=kn.l 1 rfl
   simp only[go_sem,Qen,hx9]
   intro H5 h5
   have kn:Kn H H5 [] [(x8,.st p.cells),(x9,.st p.cells)]:=kn.stL 1 rfl h5
   have hx8:H5 x8=.st p.cells:=kn.l 0 rfl
   have hx9:H5 x9=.st p.cells:=kn.l 1 rfl
   refine Qa ?_
   simp only[go_sem,hx8,hx9,CodeD.cells,List.append_nil,List.map_nil]
   refine Qbbn (p:=p) fun H6 hu=>?_
   have kn:=kn.call0 hu
   simp only[go_sem,Qeo]
   refine Qf rfl ?_ ?_
   ·intro h;simp at h
   intro _
   refine Qi ?_
   try simp only[go_sem]
   refine Qv ?_
   simp only[go_sem,l1,l2,l15,l16,l17]
   refine⟨Qq (by omega) (by omega),?_⟩
   show ∃m,_
   exact⟨l.length-(i+1),by omega,i+1,rfl,by omega,Kn.drop (A:=[]) (B:=[(x8,_),(x9,_)]) kn,rfl,rfl,rfl,rfl,rfl⟩
  ·intro hc
   refine Qw ?_
   simp only[go_sem,X.next]
   refine Qa ?_
   simp only[go_sem]
   refine Qk ?_
   simp only[go_sem,Q0,Q5,Qh6,List.mem_singleton,forall_eq,RS.op]
   exact⟨_,.c _ _ (Qg rfl),hK _ kn.fin⟩
theorem Q0v {f g:Bool}{cs:List CodeD}(hK:∀H',Upd H H' []→K (.c (.bool true)) H'):Qo prog Qdx [.ag [.sl f 3 (Qj cs)],.ag [.sl g 3 (Qj cs)]] H K:=by
 refine Qs ?_
 refine Qb Qai Qajo ?_
 refine Qa ?_
 simp only[go_sem]
 refine Qa ?_
 simp only[go_sem]
 refine Qbcc fun H1 hu=>?_
 have kn:=(Kn.start0 H).call0 hu
 simp only[go_sem,Qlc]
 refine Qk ?_
 simp only[go_sem,Q0,Q5,Qwu,List.mem_singleton,forall_eq,RS.op]
 exact⟨_,.c _ _ (Qg rfl),hK _ kn.fin⟩
set_option maxHeartbeats 4000000 in
theorem Qaqi {p:BlkD}(hK:∀H',Upd H H' []→K (.c (.bool true)) H'):Qo prog Qjv [.ag p.cells,.ag p.cells] H K:=by
 refine Qs ?_
 refine Qb Qai Qaqt ?_
 refine Qa ?_
 simp only[go_sem,BlkD.cells]
 refine Q3 ?_
 refine Qa ?_
 simp only[go_sem,Qy,Qaq,decide_true]
 intro hlp hli
 simp only[LIM]at hlp hli
 refine Qaqh ?_
 simp only[go_sem,Qok]
 refine Qh (Qf rfl ?_ ?_)
 ·intro h;simp at h
 intro _
 refine Qi ?_
 try simp only[go_sem]
 refine Q3 ?_
 refine Qa ?_
 simp only[go_sem]
 refine Qh (Qe (Qx (fun m e1 H1=>∃(i:Nat),m=p.phis.length-i∧i≤p.phis.length∧H1=H∧lk 2 e1=.c (.pp p.cells)∧lk 3 e1=.c (.pp p.cells)∧lk 5 e1=.c (.int .i64 i)) p.phis.length ?_ ?_))
 ·exact⟨0,by omega,by omega,rfl,rfl,rfl,rfl⟩
 ·rintro m e1 H1 ⟨i,hm,hi,rfl,l2,l3,l5⟩
  simp only[BlkD.cells]at l2 l3
  refine Q3 ?_
  refine Qa ?_
  simp only[go_sem,l2,l3,l5,Qy]
  try intro _
  refine Qh (Qf rfl ?_ ?_)
  ·intro hc
   have hlt:i<p.phis.length:=by simpa using hc
   obtain⟨x,hx⟩:∃x,p.phis[i]=x:=⟨_,rfl⟩
   refine Qi ?_
   try simp only[go_sem]
   refine Qh (Qe ?_)
   refine Qag ?_
   simp only[go_sem,l2,l3,l5,hlt,Qy,Qa3 _ _ hlt,hx,PhiD.cells,decide_true]
   refine Qaqh ?_
   simp only[go_sem,Qol]
   refine Qf rfl ?_ ?_
   ·intro h;simp at h
   intro _
   refine Qi ?_
   try simp only[go_sem]
   refine Qv ?_
   simp only[go_sem,l2,l3,l5]
   refine⟨Qq (by omega) (by omega),?_⟩
   show ∃m,_
   exact⟨p.phis.length-(i+1),by omega,i+1,rfl,by omega,rfl,rfl,rfl,rfl⟩
  ·intro hc
   refine Qw ?_
   simp only[go_sem,X.next]
   refine Q3 ?_
   refine Qa ?_
   simp only[go_sem,l2,l3]
   refine Qh (Qe (Qx (fun m e1 H2=>∃(i:Nat),m=p.ins.length-i∧i≤p.ins.length∧Kn H1 H2 [] []∧lk 2 e1=.c (.pp p.cells)∧lk 3 e1=.c (.pp p.cells)∧lk 6 e1=.c (.int .i64 i)) p.ins.length ?_ ?_))
   ·exact⟨0,by omega,by omega,.start0 H1,rfl,rfl,rfl⟩
   ·clear l2 l3 l5
    rintro m e1 H2 ⟨i,hm,hi,kn,l2,l3,l6⟩
    simp only[BlkD.cells]at l2 l3
    refine Q3 ?_
    refine Qa ?_
    simp only[go_sem,l2,l3,l6,Qaq]
    try intro _
    refine Qh (Qf rfl ?_ ?_)
    ·intro hc
     have hlt:i<p.ins.length:=by simpa using hc
     obtain⟨x,hx⟩:∃x,p.ins[i]=x:=⟨_,rfl⟩
     refine Qi ?_
     try simp only[go_sem]
     refine Qh (Qe ?_)
     refine Qa ?_
     simp only[go_sem,l2,l3,l6,hlt,Qaq,Qdk _ _ hlt,hx,InsD.cells]
     intro x7 hx7 H3 h3
     have kn:=kn.al hx7 h3
     have hx7:=kn.l 0 rfl
     simp only[go_sem,Qom,hx7]
     intro H4 h4
     have kn:Kn H1 H4 [] [(x7,.st x.cells)]:=kn.stL 0 rfl h4
     refine Qa ?_
     simp only[go_sem,l2,l3,l6,hlt,Qaq,Qdk _ _ hlt,hx,InsD.cells]
     intro x8 hx8 H5 h5
     have kn:=kn.al hx8 h5
     have hx8:=kn.l 1 rfl
     simp only[go_sem,Qon,hx8]
     intro H6 h6
     have kn:Kn H1 H6 [] [(x7,.st x.cells),(x8,.st x.cells)]:=kn.stL 1 rfl h6
     have hx7:H6 x7=.st x.cells:=kn.l 0 rfl
     have hx8:H6 x8=.st x.cells:=kn.l 1 rfl
     refine Qa ?_
     simp only[go_sem,hx7,hx8,InsD.cells,decide_true]
     refine Qaqh ?_
     simp only[go_sem,Qoo]
     refine Qf rfl ?_ ?_
     ·intro h;simp at h
     intro _
     refine Qi ?_
     try simp only[go_sem]
     refine Qv ?_
     simp only[go_sem,l2,l3,l6]
     refine⟨Qq (by omega) (by omega),?_⟩
     show ∃m,_
     exact⟨p.ins.length-(i+1),by omega,i+1,rfl,by omega,Kn.drop (A:=[]) (B:=[(x7,_),(x8,_)]) kn,rfl,rfl,rfl⟩
    ·intro hc
     refine Qw ?_
     simp only[go_sem,X.next]
     refine Qa ?_
     simp only[go_sem]
     refine Qk ?_
     simp only[go_sem,Q0,Q5,Q1m,List.mem_singleton,forall_eq,RS.op]
     exact⟨_,.c _ _ (Qg rfl),hK _ kn.fin⟩
set_option maxHeartbeats 1000000 in
theorem Qaum {p:CodeD}(hK:∀H',Upd H H' []→K (.c (.bool true)) H'):Qo prog Qmi [.ag p.cells,.ag p.cells] H K:=by
 refine Qs ?_
 refine Qb Qai Qau3 ?_
 refine Qa ?_
 simp only[go_sem,CodeD.cells]
 refine Q3 ?_
 refine Qa ?_
 simp only[go_sem,Ql,decide_true]
 intro hl
 try intro _
 simp only[LIM]at hl
 refine Qh (Qf rfl ?_ ?_)
 ·intro h;simp at h
 intro _
 refine Qi ?_
 try simp only[go_sem]
 refine Q3 ?_
 refine Qa ?_
 simp only[go_sem]
 refine Qh (Qe (Qx (fun m e1 H1=>∃(i:Nat),m=p.blocks.length-i∧i≤p.blocks.length∧Kn H H1 [] []∧lk 2 e1=.c (.pp [.int .i64 p.params,.int .i64 p.regs,.sl false 5 (Qp p.blocks)])∧lk 3 e1=.c (.pp [.int .i64 p.params,.int .i64 p.regs,.sl false 5 (Qp p.blocks)])∧lk 5 e1=.c (.int .i64 i)) p.blocks.length ?_ ?_))
 ·exact⟨0,by omega,by omega,.start0 H,rfl,rfl,rfl⟩
 ·rintro m e1 H1 ⟨i,hm,hi,kn,l2,l3,l5⟩
  refine Q3 ?_
  refine Qa ?_
  simp only[go_sem,l2,l3,l5,Ql]
  try intro _
  refine Qh (Qf rfl ?_ ?_)
  ·intro hc
   have hlt:i<p.blocks.length:=by simpa using hc
   obtain⟨x,hx⟩:∃x,p.blocks[i]=x:=⟨_,rfl⟩
   refine Qi ?_
   try simp only[go_sem]
   refine Qh (Qe ?_)
   refine Qag ?_
   simp only[go_sem,l2,l3,l5,hlt,Ql,Qax _ _ hlt,hx,BlkD.cells]
   refine Qaqi (p:=x) fun H2 hu=>?_
   have kn:=kn.call0 hu
   simp only[go_sem,Qtc]
   refine Qf rfl ?_ ?_
   ·intro h;simp at h
   intro _
   refine Qi ?_
   try simp only[go_sem]
   refine Qv ?_
   simp only[go_sem,l2,l3,l5]
   refine⟨Qq (by omega) (by omega),?_⟩
   show ∃m,_
   exact⟨p.blocks.length-(i+1),by omega,i+1,rfl,by omega,kn,rfl,rfl,rfl⟩
  ·intro hc
   refine Qw ?_
   simp only[go_sem,X.next]
   refine Qa ?_
   simp only[go_sem]
   refine Qk ?_
   simp only[go_sem,Q0,Q5,Q6h,List.mem_singleton,forall_eq,RS.op]
   exact⟨_,.c _ _ (Qg rfl),hK _ kn.fin⟩
set_option maxHeartbeats 1000000 in
theorem Qcm {f g:Bool}{cs:List CodeD}(hK:∀H',Upd H H' []→K (.c (.bool true)) H'):Qo prog Qa5 [.ag [.sl f 3 (Qj cs)],.ag [.sl g 3 (Qj cs)]] H K:=by
 refine Qs ?_
 refine Qb Qai Qaj4 ?_
 refine Qa ?_
 simp only[go_sem]
 refine Q3 ?_
 refine Qa ?_
 simp only[go_sem,Qu,decide_true]
 intro hl
 try intro _
 simp only[LIM]at hl
 refine Qh (Qf rfl ?_ ?_)
 ·intro h;simp at h
 intro _
 refine Qi ?_
 try simp only[go_sem]
 refine Q3 ?_
 refine Qa ?_
 simp only[go_sem]
 refine Qh (Qe (Qx (fun m e1 H1=>∃(i:Nat),m=cs.length-i∧i≤cs.length∧Kn H H1 [] []∧lk 2 e1=.c (.pp [.sl f 3 (Qj cs)])∧lk 3 e1=.c (.pp [.sl g 3 (Qj cs)])∧lk 5 e1=.c (.int .i64 i)) cs.length ?_ ?_))
 ·exact⟨0,by omega,by omega,.start0 H,rfl,rfl,rfl⟩
 ·rintro m e1 H1 ⟨i,hm,hi,kn,l2,l3,l5⟩
  refine Q3 ?_
  refine Qa ?_
  simp only[go_sem,l2,l3,l5,Qu]
  try intro _
  refine Qh (Qf rfl ?_ ?_)
  ·intro hc
   have hlt:i<cs.length:=by simpa using hc
   obtain⟨x,hx⟩:∃x,cs[i]=x:=⟨_,rfl⟩
   refine Qi ?_
   try simp only[go_sem]
   refine Qh (Qe ?_)
   refine Qag ?_
   simp only[go_sem,l2,l3,l5,hlt,Qu,Q6 _ _ hlt,hx,CodeD.cells]
   refine Qaum (p:=x) fun H2 hu=>?_
   have kn:=kn.call0 hu
   simp only[go_sem,Ql0]
   refine Qf rfl ?_ ?_
   ·intro h;simp at h
   intro _
   refine Qi ?_
   try simp only[go_sem]
   refine Qv ?_
   simp only[go_sem,l2,l3,l5]
   refine⟨Qq (by omega) (by omega),?_⟩
   show ∃m,_
   exact⟨cs.length-(i+1),by omega,i+1,rfl,by omega,kn,rfl,rfl,rfl⟩
  ·intro hc
   refine Qw ?_
   simp only[go_sem,X.next]
   refine Qa ?_
   simp only[go_sem]
   refine Qk ?_
   simp only[go_sem,Q0,Q5,Qw6,List.mem_singleton,forall_eq,RS.op]
   exact⟨_,.c _ _ (Qg rfl),hK _ kn.fin⟩
end Go.AE.Y

namespace Go.AE.Y
attribute [local go_sem] cond_true cond_false Bool.not_true Bool.not_false
attribute [local instance] Classical.propDecidable
open Go.Proofs.Tryz
variable {H H0:Heap}{K:V→Heap→Prop}{fl:Bool}{cs:List CodeD}
theorem Qyi {bs:List UInt8}(hK:∀(cs:List CodeD) H',Upd H H' []→UnitOk cs→K (.ag [.sl false 3 (Qj cs)]) H') :
  Qo prog Qbx [.c (.sl fl 1 (Qbh bs))] H K:=by
 refine Qs ?_
 refine Qb Qai Qo9 ?_
 refine Qa ?_
 simp only[go_sem]
 intro x2 hx2 H1 h1
 have kn:=(Kn.start0 H).al hx2 h1
 refine Qa ?_
 simp only[go_sem]
 refine Qauk fun R H2 hR h2=>?_
 have kn:=kn.al hR h2 (R.o_ne 0)
 simp only[go_sem,Qc8]
 refine Qauj (kn.l 1 rfl) (by omega) fun cs H3 k2 hk3 hk4 hu hok=>?_
 have kn:=kn.callL 1 rfl hu (R.o_ne _)
 have hx2:=kn.l 0 rfl
 simp only[go_sem,Qc7,hx2]
 intro H4 h4
 have kn:=kn.stL 0 rfl h4
 have hx2:=kn.l 0 rfl
 refine Qk ?_
 simp only[go_sem,Q0,Q5,Qed,List.mem_singleton,forall_eq,RS.op,hx2]
 exact⟨_,Qjr cs,hK cs _ kn.fin hok⟩
theorem Qbb5 (hfit:∀c∈cs,c.fits):∀c∈Qhk Qg1 cs,c.fits:=Q09 (f:=Qg1) hfit fun c h=>Qbd7 h
theorem Qajc {f:CodeD→CodeD}:∀{l:List CodeD},(∀c∈l,Qma (f c)≤Qma c)→Qfc Qma (l.map f)≤Qfc Qma l
 |[],_=>by simp[Qfc]
 |c::l,h=>by
  have h1:=h c List.mem_cons_self
  have h2:=Qajc (f:=f) fun x hx=>h x (List.mem_cons_of_mem _ hx)
  simp only[Qfc,List.map_cons,List.sum_cons]at h2⊢
  omega
theorem Qbb6 (hg:Qa0 cs=true):Qhk Qg1 cs=cs.map Qg1∧Qa0 (cs.map Qg1)=true∧Qhk Qg1 (Qhk Qg1 cs)=Qhk Qg1 cs∧Qwn (Qhk Qg1 cs)≤Qwn cs:=by
 have e:Qhk Qg1 cs=cs.map Qg1:=by rw[Qhk,if_pos hg]
 have hd:=Qa6s hg
 refine⟨e,hd,?_,?_⟩
 ·rw[e,Qhk,if_pos hd,List.map_map]
  refine List.map_congr_left fun q hq=>?_
  obtain⟨i,hi,rfl⟩:=List.mem_iff_getElem.1 hq
  exact Qa75 (Qdh hg hi)
 ·rw[e,Qwn,if_pos hd,Qwn,if_pos hg]
  have:=Qajc (f:=Qg1) (l:=cs) fun c hc=>by
   obtain⟨i,hi,rfl⟩:=List.mem_iff_getElem.1 hc
   exact Qbd5 (Qdh hg hi).rchPk (Qadp _ _)
  omega
set_option maxHeartbeats 8000000 in
theorem FnDropAgain_c {bs:List UInt8}(hK:∀H',K (.c (.bool true)) H'):Qo prog Qkl [.c (.sl false 1 (Qbh bs))] H K:=by
 refine Qb Qai Q8w ?_
 have retT':∀(e:Env) (H':Heap),lk 2 e=.c (.bool true)→Q0 Qf7 K .ret e H':=by
  intro e H' h2
  simp only[go_sem,Q0,Q5,Qf7,List.mem_singleton,forall_eq,RS.op,h2]
  exact hK H'
 refine Qa ?_
 simp only[go_sem]
 refine Q3 ?_
 refine Qa ?_
 simp only[go_sem,Qao]
 intro _
 refine Qh (Qf rfl (fun hc=>?_) (fun hc=>?_))
 ·refine Qa ?_
  simp only[go_sem]
  refine Qk ?_
  exact retT' _ _ rfl
 refine Qi ?_
 try simp only[go_sem]
 refine Qa ?_
 simp only[go_sem]
 refine Qyi fun cs H1 hu hok=>?_
 have hfit:=hok.fits
 have hfd:=Qbb5 hfit
 obtain⟨ds,hds⟩:∃ds,Qhk Qg1 cs=ds:=⟨_,rfl⟩
 rw[hds]at hfd
 have kn:=(Kn.start0 H).call0 hu
 simp only[go_sem,Qil]
 intro x3 hx3 H2 h2
 have kn:=kn.al hx3 h2
 have hx3:=kn.l 0 rfl
 simp only[go_sem,Qik,hx3]
 intro H3 h3
 have kn:Kn H H3 [] [(x3,.st [.sl false 3 (Qj cs)])]:=kn.stL 0 rfl h3
 have hx3:=kn.l 0 rfl
 refine Qa ?_
 simp only[go_sem,hx3]
 refine Qko hfit fun H4 hu=>?_
 rw[hds]
 have kn:=kn.call0 hu
 simp only[go_sem,Qio,List.getD_cons_zero,List.getD_cons_succ]
 intro x4 hx4 H5 h5
 have kn:=kn.al hx4 h5
 have hx4:=kn.l 1 rfl
 simp only[go_sem,Qin,hx4]
 intro H6 h6
 have kn:Kn H H6 [] [(x3,.st [.sl false 3 (Qj cs)]),(x4,.st [.sl false 3 (Qj ds)])]:=kn.stL 1 rfl h6
 have hx3:=kn.l 0 rfl
 simp only[go_sem,Qim]
 refine Qa ?_
 simp only[go_sem,hx3]
 refine Q5x hfit fun H7 hu=>?_
 rw[hds]
 have kn:=kn.call0 hu
 simp only[go_sem,Qir,List.getD_cons_zero,List.getD_cons_succ]
 intro x6 hx6 H8 h8
 have kn:=kn.al hx6 h8
 have hx6:=kn.l 2 rfl
 simp only[go_sem,Qiq,hx6]
 intro H9 h9
 have kn:Kn H H9 [] [(x3,.st [.sl false 3 (Qj cs)]),(x4,.st [.sl false 3 (Qj ds)]),(x6,.st [.sl false 3 (Qj ds)])]:=kn.stL 2 rfl h9
 have hx4:=kn.l 1 rfl
 have hx6:=kn.l 2 rfl
 simp only[go_sem,Qip]
 refine Q3 ?_
 cases hg:Qa0 cs with
 |false=>
  refine Qa ?_
  simp only[go_sem,hg,hx4,hx6,decide_true]
  refine Qcm fun H10 hu=>?_
  have kn:=kn.call0 hu
  have hx4:=kn.l 1 rfl
  have hx6:=kn.l 2 rfl
  simp only[go_sem,Qdg]
  refine Qh (Qf rfl ?_ ?_)
  ·intro _
   refine Qa ?_
   simp only[go_sem,hx4,hx6,decide_true]
   refine Qcm fun H11 hu=>?_
   simp only[go_sem,Qgd]
   refine Qk ?_
   exact retT' _ _ rfl
  ·intro h;simp at h
 |true=>
  obtain⟨hdm,hgd,hda,hcnt⟩:=Qbb6 hg
  rw[hds]at hdm hda hcnt
  rw[←hdm]at hgd
  have hgc:=hg
  have hge:=hgd
  have hcd:decide (Qwn ds≤Qwn cs)=true:=decide_eq_true hcnt
  have hdl:ds.length=cs.length:=by rw[hdm,List.length_map]
  have h14:=(of_decide_eq_true hgd).1
  refine Qa ?_
  simp only[go_sem,hg,hx4,hx6,decide_true]
  refine Qcm fun H10 hu=>?_
  have kn:=kn.call0 hu
  simp only[go_sem,Qdg]
  refine Qh (Qf rfl ?_ ?_)
  ·intro h;simp at h
  intro _
  refine Qi ?_
  try simp only[go_sem]
  have kn:Kn H H10 [] [(x3,.st [.sl false 3 (Qj cs)]),(x4,.st [.sl false 3 (Qj ds)])]:=Kn.drop (A:=[_,_]) (B:=[_]) kn
  have hx4:=kn.l 1 rfl
  refine Qa ?_
  simp only[go_sem,hx4]
  refine Qko hfd fun H11 hu=>?_
  have kn:=kn.call0 hu
  rw[hge,hda]
  simp only[go_sem,Qgg,List.getD_cons_zero,List.getD_cons_succ]
  intro x8 hx8 H12 h12
  have kn:=kn.al hx8 h12
  have hx8:=kn.l 2 rfl
  simp only[go_sem,Qgf,hx8]
  intro H13 h13
  have kn:Kn H H13 [] [(x3,.st [.sl false 3 (Qj cs)]),(x4,.st [.sl false 3 (Qj ds)]),(x8,.st [.sl false 3 (Qj ds)])]:=kn.stL 2 rfl h13
  have hx4:=kn.l 1 rfl
  simp only[go_sem,Qge]
  refine Q3 ?_
  refine Qa ?_
  simp only[go_sem,hx4,Qu]
  try intro _
  refine Qh (Qe (Qx (fun mm e1 H1=>∃(i:Nat),mm=ds.length-i∧i≤ds.length∧Kn H H1 [] [(x3,.st [.sl false 3 (Qj cs)]),(x4,.st [.sl false 3 (Qj ds)]),(x8,.st [.sl false 3 (Qj ds)])]∧
   lk 3 e1=.c (.ptr x3 0)∧lk 4 e1=.c (.ptr x4 0)∧lk 8 e1=.c (.ptr x8 0)∧lk 9 e1=.c (.bool true)∧lk 54 e1=.c (.sl false 3 (Qj ds))∧lk 55 e1=.c (.int .i64 ds.length)∧lk 56 e1=.c (.int .i64 i)) ds.length ?_ ?_))
  ·exact⟨0,by omega,by omega,kn,rfl,rfl,rfl,rfl,rfl,rfl,rfl⟩
  ·clear kn hx3 hx4 hx6 hx8
   rintro mm e1 H14 ⟨i,hmm,hi,kn,l3,l4,l8,l9,l54,l55,l56⟩
   have hx3:=kn.l 0 rfl
   have hx4:=kn.l 1 rfl
   have hx8:=kn.l 2 rfl
   refine Qa ?_
   simp only[go_sem,l3,l4,l8,l9,l54,l55,l56]
   refine Qh (Qf rfl ?_ ?_)
   ·intro hc1
    have hlt:i<ds.length:=by simpa using hc1
    have hltc:i<cs.length:=by omega
    obtain⟨q,hq⟩:∃q,cs[i]=q:=⟨_,rfl⟩
    have hqo:q.ok:=by rw[←hq];exact Qdh hgc hltc
    have hdi:ds[i]=Qg1 q:=by subst hdm;rw[List.getElem_map,hq]
    have hdo:(Qg1 q).ok:=by rw[←hdi];exact Qdh hgd hlt
    have hl1:(rchL (Qg1 q).blocks.length (nxN (gnx (Qg1 q)))).length=(Qg1 q).blocks.length:=by rw[Qa6q hqo,List.length_range]
    have hl2:(rchL q.blocks.length (nxN (gnx q))).length=(Qg1 q).blocks.length:=(Qbgs q).symm
    obtain⟨d,hd⟩:∃d,Qg1 q=d:=⟨_,rfl⟩
    rw[hd]at hdi hdo hl1 hl2
    have hqn:=hqo.b1
    have hdn:=hdo.b1
    refine Qi ?_
    try simp only[go_sem]
    refine Qh (Qe ?_)
    refine Qa ?_
    simp only[go_sem,l3,l4,l8,l9,l54,l55,l56,hlt,Qu,Q6 _ _ hlt,CodeD.cells,hdi]
    intro x11 hx11 H15 h15
    have kn:=kn.al hx11 h15
    have hx11:=kn.l 3 rfl
    simp only[go_sem,Qgh,hx11]
    intro H16 h16
    have kn:Kn H H16 [] [(x3,.st [.sl false 3 (Qj cs)]),(x4,.st [.sl false 3 (Qj ds)]),(x8,.st [.sl false 3 (Qj ds)]),(x11,.st [.int .i64 d.params,.int .i64 d.regs,.sl false 5 (Qp d.blocks)])]:=kn.stL 3 rfl h16
    have hx11:=kn.l 3 rfl
    refine Qag ?_
    simp only[go_sem,hx11]
    refine Qyj (rows:=Qp d.blocks) (nx:=gnx d) (Qi8 H16 d false) (by rw[Ql];omega) fun H17 hu=>?_
    have kn:=kn.call0 hu
    have hx11:=kn.l 3 rfl
    have hx3:=kn.l 0 rfl
    rw[Ql,Qadq hdo]
    simp only[go_sem,Qgj,hx11,hx3,hltc,Qu,Q6 _ _ hltc,CodeD.cells,hq,Ql,Qad,hl1,decide_true]
    try intro _
    try intro _
    refine Qyj (rows:=Qp q.blocks) (nx:=gnx q) (Qi8 H17 q false) (by rw[Ql];omega) fun H18 hu=>?_
    have kn:=kn.call0 hu
    have hx11:=kn.l 3 rfl
    have hx3:=kn.l 0 rfl
    rw[Ql,Qadq hqo]
    simp only[go_sem,Qgi,hx11,hx3,hltc,Qu,Q6 _ _ hltc,CodeD.cells,hq,Ql,Qad,hl2,decide_true]
    try intro _
    try intro _
    refine Qf rfl ?_ ?_
    ·intro h;simp at h
    intro _
    refine Qi ?_
    try simp only[go_sem]
    have kn:Kn H H18 [] [(x3,.st [.sl false 3 (Qj cs)]),(x4,.st [.sl false 3 (Qj ds)]),(x8,.st [.sl false 3 (Qj ds)])]:=Kn.drop (A:=[_,_,_]) (B:=[_]) kn
    refine Qv ?_
    simp only[go_sem]
    refine⟨Qq (by omega) (by omega),?_⟩
    show ∃m,_
    exact⟨ds.length-(i+1),by omega,i+1,rfl,by omega,kn,rfl,rfl,rfl,rfl,rfl,rfl,rfl⟩
   ·intro hc1
    refine Qw ?_
    simp only[go_sem,X.next]
    refine Qag ?_
    simp only[go_sem,l3,l4,l8,l9,hx4,hx8]
    refine Q0v fun H15 hu=>?_
    have kn:=kn.call0 hu
    have hx4:=kn.l 1 rfl
    have hx3:=kn.l 0 rfl
    simp only[go_sem,Qgm,hx4,hx3]
    refine Qaor hfd fun H16 hu=>?_
    have kn:=kn.call0 hu
    have hx3:=kn.l 0 rfl
    simp only[go_sem,Qgl,hx3]
    refine Qaor hfit fun H17 hu=>?_
    have kn:=kn.call0 hu
    simp only[go_sem,Qgk,hcd,decide_true]
    try intro _
    refine Qk ?_
    exact retT' _ _ rfl
end Go.AE.Y

namespace Go.AE.Y
open Go.Proofs.Tryz
variable {H H0:Heap}{K:V→Heap→Prop}{E B Lg:List (Nat×Obj)}
def Gq (Lg:List (Nat×Obj))(W:List Nat)(c:C):Prop:=
 (c=.sl true 1 []∧W=[]∧Lg=[])∨∃z st R,c=.vsl z 1 st W.length∧Lg=[(z,.vec 1 R)]∧(R.drop st).take W.length=Q9 W∧st+W.length≤R.length
theorem Gq.isOw {W:List Nat}{c:C}(h:Gq Lg W c):c.isOw=false:=by rcases h with ⟨rfl,_⟩|⟨z,st,R,rfl,_⟩ <;> rfl
theorem Gq.elemSz {W:List Nat}{c:C}(h:Gq Lg W c):c.elemSz=1:=by rcases h with ⟨rfl,_⟩|⟨z,st,R,rfl,_⟩ <;> rfl
theorem Gq.lenC {W:List Nat}{c:C}(h:Gq Lg W c):lenC c=W.length:=by rcases h with ⟨rfl,rfl,_⟩|⟨z,st,R,rfl,_⟩ <;> rfl
theorem Gq.get {W:List Nat}{c:C}(h:Gq Lg W c)(kn:Kn H0 H E (B++Lg)):okSl H c∧rowsOf H c=Q9 W:=by
 rcases h with ⟨rfl,rfl,_⟩|⟨z,st,R,rfl,rfl,h1,h2⟩
 ·exact⟨trivial,rfl⟩
 ·have hz:H z=.vec 1 R:=(kn.get (z,.vec 1 R) (by simp)).1
  exact⟨by simp[okSl,hz,h2],by simp[rowsOf,hz,h1]⟩
end Go.AE.Y

namespace Go.AE.Y
open Go.Proofs.Tryz
variable {H H0:Heap}{K:V→Heap→Prop}{E B Lg:List (Nat×Obj)}
def Qbpi (ns:List Int):List C:=[.sl true 2 [],.sl true 4 [],.int .i64 0,.int .i64 0,.sl false 1 (Qd ns)]
def Qbob (nx:Nat→List Int)(i:Nat):List Int:=(nx i).map (· + 1)
def shRows (nx:Nat→List Int)(n:Nat):List (List C):=(List.range n).map fun i=>Qbpi (Qbob nx i)
structure ShB where
 c:C
 lg:List (Nat×Obj)
def ShB.row (x:ShB):List C:=[.sl true 2 [],.sl true 4 [],.int .i64 0,.int .i64 0,x.c]
def ShOk (nx:Nat→List Int)(bs:List ShB):Prop:=∀i (h:i<bs.length),Gr bs[i].lg 1 (Qd (Qbob nx i)) bs[i].c
end Go.AE.Y

namespace Go.AE.Y
open Go.Proofs.Tryz
variable {H H0:Heap}{K:V→Heap→Prop}{E B Lg:List (Nat×Obj)}
end Go.AE.Y

namespace Go.AE.Y
end Go.AE.Y

namespace Go.AE.Y
open Go.Proofs.Tryz
variable {H H0:Heap}{K:V→Heap→Prop}{E B Lg:List (Nat×Obj)}
end Go.AE.Y

namespace Go.AE.Y
attribute [local instance] Classical.propDecidable
def flt (nx:Nat→List Int)(L:List Int)(i:Nat):List Int:=(nx i).filter fun n=>L.contains (i:Int)&&L.contains n
def gy (nx:Nat→List Int)(b:Nat):Nat→List Int
 |0=>[(b:Int)+1]
 |i+1=>(nx i).map (· + 1)
variable {n h b:Nat}{nx:Nat→List Int}
end Go.AE.Y

namespace Go.AE.Y
attribute [local instance] Classical.propDecidable
noncomputable def outS (n:Nat)(g:Nat→List Nat)(h:Nat)(s:Int×Int)(o:Nat):Int×Int:=
 if (!decide (o=h)&&decide (h∈Qaji n g o))&&(decide (s.1<0) || decide (((Qaji n g o).length:Int)<s.2))then ((o:Int),((Qaji n g o).length:Int))else s
noncomputable def outF (n:Nat)(g:Nat→List Nat)(h:Nat)(l:List Nat):Int×Int:=l.foldl (outS n g h) (-1,0)
variable {n:Nat}{g:Nat→List Nat}{h o b k:Nat}
noncomputable def depN (n:Nat)(g:Nat→List Nat)(b:Nat):Nat:=((Qbg7 n g).filter fun k=>decide (b∈Qaji n g k)).length
end Go.AE.Y

namespace Go.AE.Y
open Go.Proofs.Tryz
variable {H H0:Heap}{K:V→Heap→Prop}{E B Lg:List (Nat×Obj)}
noncomputable def depT (n:Nat)(g:Nat→List Nat)(b i:Nat):Nat:=(((Qbg7 n g).take i).filter fun k=>decide (b∈Qaji n g k)).length
noncomputable def outI (n:Nat)(nx:Nat→List Int)(h:Int):Int:=if ((Qbj8 n nx).map Int.ofNat).contains h then (outF n (nxN nx) h.toNat (Qbg7 n (nxN nx))).1 else -1
end Go.AE.Y

namespace Go.AE.Y
open Go.Proofs.Tryz
variable {H H0:Heap}{K:V→Heap→Prop}{E B Lg:List (Nat×Obj)}
end Go.AE.Y

namespace Go.AE.Y
open Go.Proofs.Tryz
variable {H H0:Heap}{K:V→Heap→Prop}{E B Lg:List (Nat×Obj)}
def InN (n:Nat)(ns:List Int):Prop:=∀x∈ns,0≤x∧x<(n:Int)
def MInt (es:List (C×V)):Prop:=∀e∈es,∃k n:Int,e=(.int .i64 k,.c (.int .i64 n))
theorem MInt.ok {es:List (C×V)}(h:MInt es)(k:Int):Qmq 0 (.int .i64 k) es=True:=by
 refine eq_true ?_
 simp only[Qmq]
 intro e he
 obtain⟨k,n,rfl⟩:=h e he
 exact⟨k,rfl⟩
theorem MInt.upd {es:List (C×V)}(h:MInt es)(k n:Int):MInt (updE (.int .i64 k) (.c (.int .i64 n)) es)∧(updE (.int .i64 k) (.c (.int .i64 n)) es).length≤es.length+1:=by
 induction es with
 |nil=>exact⟨fun e he=>⟨k,n,by simpa[updE]using he⟩,by simp[updE]⟩
 |cons e es ih=>
  obtain⟨i1,i2⟩:=ih fun x hx=>h x (List.mem_cons_of_mem _ hx)
  simp only[updE]
  split
  ·refine⟨fun x hx=>?_,by simp⟩
   rcases List.mem_cons.1 hx with rfl|hx
   ·exact⟨k,n,rfl⟩
   ·exact h x (List.mem_cons_of_mem _ hx)
  ·refine⟨fun x hx=>?_,by simp only[List.length_cons];omega⟩
   rcases List.mem_cons.1 hx with rfl|hx
   ·exact h x List.mem_cons_self
   ·exact i1 x hx
def edgC (x:Int×Int):C:=.sl true 1 [[.int .i64 x.1],[.int .i64 x.2]]
def edgR (l:List (Int×Int)):List (List C):=l.map fun x=>[edgC x]
theorem Qabn (l:List (Int×Int)):(edgR l).length=l.length:=by simp[edgR]
theorem Qat7 (l:List (Int×Int)):∀r∈edgR l,noOw r=true:=by intro r hr;obtain⟨x,_,rfl⟩:=List.mem_map.1 hr;rfl
theorem Qbb8 (l:List (Int×Int))(i:Nat)(h:i<l.length):(edgR l).getD i []=[edgC (l.getD i (0,0))]:=by simp[edgR,List.getD_eq_getElem?_getD,h]
theorem Qbgt (a b:List (Int×Int)):edgR (a++b)=edgR a++edgR b:=by simp[edgR]
def InE (n:Nat)(l:List (Int×Int)):Prop:=∀x∈l,(0≤x.1∧x.1<(n:Int))∧0≤x.2∧x.2<(n:Int)
end Go.AE.Y

