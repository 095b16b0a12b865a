/- Part 6 of the proof: the engine, codes, walks and plain laws, each named where it stands. -/
import Derived.Test.YtajdffbgjodbfaaGreatZE
import Derived.Below
import Derived.OpenShut
import Derived.ProofKit
open Nat (reduceEqDiff reduceAdd reduceLeDiff reduceLT)
set_option linter.unusedVariables false
set_option linter.unusedSimpArgs false
set_option maxRecDepth 4000
namespace Go.AE.Y
attribute [local go_sem] cond_true cond_false Bool.not_true Bool.not_false
open Go.Proofs.Tryz
variable {H H' F:Heap} {K:V→Heap→Prop} {q:CodeD} {os:List OBlk} {zb wl cy R n b:Nat} {ids:List Int} {U:Nat→Prop} {Z Z':Nat→Nat→Prop} {nx:Int} {cs:List Int} {o:OBlk} {y:BlkD} {e:Env} {Q:X→Env→Heap→Prop}
def XC (os:List OBlk) (zb:Nat) (U:Nat→Prop) (o:OBlk) (b:Nat) (j:Bool) (i k m r:Nat):Prop:=XU os zb U m r∨XP o zb b j i k m r
theorem XC.stepA {i k m r:Nat} (h:XC os zb U o b true i (k+1) m r):XC os zb U o b true i k m r:=by
 rcases h with h|h|h|⟨i',hi',h1,h2⟩
 ·exact .inl h
 ·exact .inr (.inl h)
 ·exact .inr (.inr (.inl h))
 ·exact .inr (.inr (.inr ⟨i',hi',h1,by omega⟩))
theorem XC.stepI {i k m r:Nat} (h:XC os zb U o b true (i+1) 0 m r):XC os zb U o b true i k m r:=by
 rcases h with h|h|⟨p,hp,h1,h2⟩|⟨i',hi',h1,h2⟩
 ·exact .inl h
 ·exact .inr (.inl h)
 ·exact .inr (.inr (.inl ⟨p,hp,h1,by omega⟩))
 ·exact .inr (.inr (.inr ⟨i',hi',h1,by omega⟩))
theorem XC.notA (ap:Apart os zb) (hl:b<os.length) (ho:os[b]=o) (hU:¬U b) {i k:Nat} (hi:i<o.ins.length):¬XC os zb U o b true i (k+1) o.ins[i].a.y k:=by
 subst ho
 have hm:(os[b].ins[i].a.y,Obj.vec 1 (Qf os[b].ins[i].a.ns))∈os[b].inN:=List.mem_append_left _ (os[b].aM hi)
 rintro (h|⟨_,h,_⟩|⟨p,hp,h1,h2⟩|⟨i',hi',h1,h2⟩)
 ·exact ap.inU hl hm hU _ h
 ·exact ap.zbn hl (OBlk.inM hm) h
 ·exact (ap.blk hl).ii _ (os[b].aM hi) p hp h1
 ·by_cases hii:i=i'
  ·subst hii;omega
  ·exact (ap.blk hl).ij i i' hi hi' hii h1
theorem XC.notI (ap:Apart os zb) (hl:b<os.length) (ho:os[b]=o) (hU:¬U b) {i z:Nat} {ob:Obj} (hz:(z,ob)∈o.il):¬XC os zb U o b true (i+1) 0 z i:=by
 subst ho
 have hm:(z,ob)∈os[b].inN:=List.mem_append_right _ hz
 rintro (h|⟨_,h,_⟩|⟨p,hp,h1,h2⟩|⟨i',hi',h1,h2⟩)
 ·exact ap.inU hl hm hU _ h
 ·exact ap.zbn hl (OBlk.inM hm) h
 ·omega
 ·exact (ap.blk hl).ii _ (os[b].aM hi') (z,ob) hz h1.symm
set_option maxHeartbeats 8000000 in
theorem phC (c:NC q os zb R n ids) (hb:b<n) (hl:b<os.length) (ho:os[b]=o) (hy:o.d=y) (hq:b<q.blocks.length) (hyq:q.blocks[b]=y) (hU:¬U b) (s:NSt q os zb n R wl cy ids F nx cs (XC os zb U o b true 0 0) H) (hk:LK wl b cy R n zb e)
  (h0:0≤nx) (h1:nx+o.ins.length≤2 ^ 40) (hN:o.ins.length≤100000)
  (h:∀e' H' nx' cs',nx≤nx'→nx'≤nx+o.ins.length→NSt q os zb n R wl cy ids F nx' cs' (XC os zb U o b true o.ins.length 0) H'→LK wl b cy R n zb e'→Qac prog Qcy Q e' H'):Qac prog Qcz Q e H:=by
 obtain⟨l0,l1,l2,l6⟩:=hk
 have hok:=c.bo _ (List.getElem_mem hl)
 rw[ho]at hok
 have hyo:=c.ok.bs b hq
 rw[hyq]at hyo
 have ap:Apart os zb:=s.t.nodup
 refine Q3 ?_
 refine Qa ?_
 simp only[go_sem,l0,l1,l2,l6]
 refine Qh (Qc (Qu (fun m e1 H1=>∃(i:Nat) (nx':Int) (cs:List Int),m=o.ins.length-i∧i≤o.ins.length∧nx≤nx'∧nx'≤nx+i∧NSt q os zb n R wl cy ids F nx' cs (XC os zb U o b true i 0) H1∧lk 0 e1=.c (.ptr wl 0)∧lk 1 e1=.c (.int .i64 b)∧lk 2 e1=.c (.vsl cy 1 0 R)∧lk 6 e1=.c (.ep (.vsl zb 5 0 n) 5 b 0)∧lk 9 e1=.c (.int .i64 i)) o.ins.length ?_ ?_))
 ·exact⟨0,nx,cs,by omega,by omega,by omega,by omega,s,rfl,rfl,rfl,rfl,rfl⟩
 ·clear s l0 l1 l2 l6
  rintro m e1 H1 ⟨i,nx',cs,hm,hi,hnx,hnx2,s,l0,l1,l2,l6,l9⟩
  obtain⟨RW,j,on,hzb,hRWl,hRWt,hRWg,_,_⟩:=Q4b s.t c hb hl ho
  obtain⟨_,_,hpw,hiw⟩:=Qa0r s.t c hl ho
  obtain⟨hiok,hilen⟩:=Qbf3 s.t c hl ho
  refine Q3 ?_
  refine Qa ?_
  simp only[go_sem,l0,l1,l2,l6,l9,hzb,hRWl,hRWt,hRWg,hb,hiok,hilen,hpw,hiw,Nat.zero_add,Nat.le_refl]
  try intro _
  refine Qh (Qd rfl ?_ ?_)
  ·intro hc
   have hlt:i<o.ins.length:=by simpa using hc
   clear hzb hRWl hRWt hRWg hiok hilen
   obtain⟨z,hic,hil⟩:=OBlk.inZ hok hlt
   have hzm:(z,Obj.vec 4 (o.ins.map OIns.row))∈o.il:=by rw[hil];simp
   obtain⟨x,hx⟩:∃x,o.ins[i]=x:=⟨_,rfl⟩
   have hxm:x.d∈y.ins:=by rw[←hy,←hx];exact List.mem_map.2 ⟨_,List.getElem_mem hlt,rfl⟩
   have hal3:x.a.ns.length≤3:=hyo.al _ hxm
   have hXz:∀k,XC os zb U o b true i k z i:=fun k=>.inr (.inr (.inl ⟨_,hzm,rfl,Nat.le_refl _⟩))
   refine Qi ?_
   try simp only[go_sem]
   refine Qc6 (fun e2 H2=>∃(nx2:Int) (cs:List Int),nx'≤nx2∧nx2≤nx'+1∧NSt q os zb n R wl cy ids F nx2 cs (XC os zb U o b true (i+1) 0) H2∧lk 0 e2=.c (.ptr wl 0)∧lk 1 e2=.c (.int .i64 b)∧lk 2 e2=.c (.vsl cy 1 0 R)∧lk 6 e2=.c (.ep (.vsl zb 5 0 n) 5 b 0)∧lk 9 e2=.c (.int .i64 i)) ?_ ?_
   ·intro Q2 hnr _ _
    refine Qc ?_
    refine Q3 ?_
    refine Qa ?_
    simp only[go_sem,l0,l1,l2,l6,l9]
    refine Qh (Qc (Qu (fun m e1 H1=>∃(k:Nat),m=x.a.ns.length-k∧k≤x.a.ns.length∧NSt q os zb n R wl cy ids F nx' cs (XC os zb U o b true i k) H1∧lk 0 e1=.c (.ptr wl 0)∧lk 1 e1=.c (.int .i64 b)∧lk 2 e1=.c (.vsl cy 1 0 R)∧lk 6 e1=.c (.ep (.vsl zb 5 0 n) 5 b 0)∧lk 9 e1=.c (.int .i64 i)∧lk 10 e1=.c (.int .i64 k)) x.a.ns.length ?_ ?_))
    ·exact⟨0,by omega,by omega,s,rfl,rfl,rfl,rfl,rfl,rfl⟩
    ·clear s l0 l1 l2 l6 l9
     rintro m2 e3 H3 ⟨k,hm2,hk2,s,l0,l1,l2,l6,l9,l10⟩
     obtain⟨RW,j,on,hzb,hRWl,hRWt,hRWg,_,_⟩:=Q4b s.t c hb hl ho
     rw[hic]at hRWg
     obtain⟨IR,hz,hIl,hIt,hIg,_⟩:=rdIn s.t hl ho hil hlt (hXz k)
     have hsa:SimO (XC os zb U o b true i k o.ins[i].a.y) (.vec 1 (Qf o.ins[i].a.ns)) (H3 o.ins[i].a.y):=s.t.get (LGo.of hl (by rw[ho];exact OBlk.inM (List.mem_append_left _ (o.aM hlt))))
     obtain⟨ns',hay,hnl,hex,hsim⟩:=Qazb hsa
     have hnot:=fun k=>XC.notA (k:=k) ap hl ho hU hlt
     have hmem:(o.ins[i].a.y,Obj.vec 1 (Qf o.ins[i].a.ns))∈LGo os zb:=LGo.of hl (by rw[ho];exact OBlk.inM (List.mem_append_left _ (o.aM hlt)))
     rw[hx]at hIg hay hnl hex hsim hnot hmem
     refine Q3 ?_
     refine Qa ?_
     simp only[go_sem,l0,l1,l2,l6,l9,l10,hzb,hRWl,hRWt,hRWg,hb,hpw,hz,hIl,hIt,hIg,hlt,hay,Qe,hnl,Nat.zero_add,Nat.le_refl]
     try intro _
     refine Qh (Qd rfl ?_ ?_)
     ·intro hc2
      have hlt2:k<x.a.ns.length:=by simpa using hc2
      have hlt3:k<ns'.length:=by omega
      have hXk:XC os zb U o b true i k x.a.y k:=.inr (.inr (.inr ⟨i,hlt,by rw[hx],.inr ⟨rfl,Nat.le_refl _⟩⟩))
      have hv0:=hex k hlt2 hXk
      have hvm:x.a.ns.getD k 0∈x.d.args:=Qhk hlt2
      obtain⟨hv,hvl⟩:=(hyo.args _ hxm _ hvm).nat
      rw[c.hR]at hvl
      rw[←hv0]at hv hvl
      have hat:(Qf ns').take x.a.ns.length=Qf ns':=List.take_of_length_le (by rw[Qe];omega)
      have hcu:=s.cu
      have hct:=s.ct
      have hcl:=s.cl
      refine Qi ?_
      try simp only[go_sem]
      refine Qh (Qc ?_)
      refine Qa9 ?_
      generalize hr:(ns'.getD k 0).toNat=r at *
      have hrc:r<cs.length:=by rw[s.c];exact hvl
      simp only[go_sem,l0,l1,l2,l6,l9,l10,hzb,hRWl,hRWt,hRWg,hb,hpw,hz,hIl,hIt,hIg,hlt,hay,hat,Qe,hnl,hlt2,Qs _ _ hlt3,hv,hvl,hcu,hct,s.c,Qs _ _ hrc,Qcg,Nat.zero_add,Nat.le_refl]
      intro H4 h4
      have s:NSt q os zb n R wl cy ids F nx' cs (XC os zb U o b true i (k+1)) H4:=⟨Qbbq s.t hmem hsim hlt2 _ h4 (fun m' r' _ hh=>hh.stepA) (hnot k),s.c⟩
      refine Qq ?_
      simp only[go_sem,l0,l1,l2,l6,l9,l10]
      refine⟨Qo (by omega) (by omega),?_⟩
      show ∃m,_
      exact⟨x.a.ns.length-(k+1),by omega,k+1,rfl,by omega,s,rfl,rfl,rfl,rfl,rfl,rfl⟩
     ·intro hc2
      refine Qt ?_
      simp only[go_sem,X.next]
      refine Qa ?_
      simp only[go_sem,l0,l1,l2,l6,l9,l10,hzb,hRWl,hRWt,hRWg,hb,hpw,hz,hIl,hIt,hIg,hlt,Nat.zero_add,Nat.le_refl]
      refine Qlg ?_
      try simp only[go_sem]
      refine Qd rfl ?_ ?_
      ·intro hc3
       obtain⟨hv,hvl⟩:=(hyo.to _ hxm hc3).nat
       rw[c.hR]at hvl
       have hxto:x.d.to=x.to:=rfl
       rw[hxto]at hv hvl
       refine Qa ?_
       simp only[go_sem]
       refine Qay0 s.w (by omega) (by omega) fun H4 h4=>?_
       have s:=s.setW h4
       obtain⟨RW,j,on,hzb,hRWl,hRWt,hRWg,_,_⟩:=Q4b s.t c hb hl ho
       rw[hic]at hRWg
       obtain⟨IR,hz,hIl,hIt,hIg,_⟩:=rdIn s.t hl ho hil hlt (hXz k)
       rw[hx]at hIg
       have hcu:=s.cu
       have hct:=s.ct
       have hcl:=s.cl
       simp only[go_sem,Qej]
       generalize hr:x.to.toNat=r at *
       have hrc:r<cs.length:=by rw[s.c];exact hvl
       refine Qa ?_
       simp only[go_sem,hzb,hRWl,hRWt,hRWg,hb,hpw,hz,hIl,hIt,hIg,hlt,hv,hvl,hcu,hct,Qe,s.c,Qs _ _ hrc,Qcg,Nat.zero_add,Nat.le_refl]
       intro H5 h5
       have s:=s.setC h5
       obtain⟨RW,j,on,hzb,hRWl,hRWt,hRWg,_,_⟩:=Q4b s.t c hb hl ho
       rw[hic]at hRWg
       obtain⟨IR,hz,hIl,hIt,hIg,hsimI⟩:=rdIn s.t hl ho hil hlt (hXz k)
       rw[hx]at hIg
       refine Qq ?_
       simp only[go_sem,hzb,hRWl,hRWt,hRWg,hb,hpw,hz,hIl,hIt,hIg,hlt,Nat.zero_add,Nat.le_refl]
       intro H6 h6
       have s:NSt q os zb n R wl cy ids F (nx'+1) (cs.set r nx') (XC os zb U o b true (i+1) 0) H6:=⟨Ty.st s.t (LGo.of hl (by rw[ho];exact OBlk.inM (List.mem_append_right _ hzm))) h6 (hsimI.set (by rw[List.length_map];exact hlt) (by
        have hg:(o.ins.map OIns.row).getD i []=[.int .i64 x.op,.int .i64 x.to,.vsl x.a.y 1 0 x.a.ns.length,.int .i64 x.n]:=by
         simp only[List.getD_eq_getElem?_getD,List.getElem?_map,List.getElem?_eq_getElem hlt,Option.map_some,Option.getD_some,hx];rfl
        rw[hg]
        exact .cons (.inl rfl) (.cons (.inr ⟨_,_,rfl,rfl⟩) (.cons (.inl rfl) (.cons (.inl rfl) .nil)))) (fun r' _ hh=>hh.stepI) (XC.notI ap hl ho hU hzm)) (fun m' _ r' hh=>hh.stepI),s.c⟩
       exact hnr _ _ ⟨nx'+1,_,by omega,by omega,s,rfl,rfl,rfl,rfl,rfl⟩
      ·intro hc3
       refine Qi ?_
       try simp only[go_sem]
       exact hnr _ _ ⟨nx',cs,by omega,by omega,s.weak fun m r hh=>hh.stepI,rfl,rfl,rfl,rfl,rfl⟩
   ·rintro e2 H2 ⟨nx2,cs,hn1,hn2,s,l0,l1,l2,l6,l9⟩
    refine Qq ?_
    simp only[go_sem,l0,l1,l2,l6,l9]
    refine⟨Qo (by omega) (by omega),?_⟩
    show ∃m,_
    exact⟨o.ins.length-(i+1),by omega,i+1,nx2,cs,rfl,by omega,by omega,by omega,s,rfl,rfl,rfl,rfl,rfl⟩
  ·intro hc
   have hie:i=o.ins.length:=by have:o.ins.length≤i:=(by simpa using hc);omega
   subst hie
   refine Qt ?_
   simp only[go_sem,X.next]
   exact h _ _ _ _ hnx hnx2 s ⟨rfl,rfl,rfl,rfl⟩
set_option maxHeartbeats 4000000 in
theorem phD (c:NC q os zb R n ids) (hb:b<n) (hl:b<os.length) (ho:os[b]=o) (hy:o.d=y) (hq:b<q.blocks.length) (hyq:q.blocks[b]=y) (hU:¬U b) {i0:Nat} (s:NSt q os zb n R wl cy ids F nx cs (XC os zb U o b true i0 0) H) (hk:LK wl b cy R n zb e)
  (h:∀e' H',NSt q os zb n R wl cy ids F nx cs (XU os zb U) H'→LK wl b cy R n zb e'→Qac prog Qcx Q e' H'):Qac prog Qcy Q e H:=by
 obtain⟨l0,l1,l2,l6⟩:=hk
 have hyo:=c.ok.bs b hq
 rw[hyq]at hyo
 have ap:Apart os zb:=s.t.nodup
 obtain⟨RW,j,on,hzb,hRWl,hRWt,hRWg,hex,hsim⟩:=Q4b s.t c hb hl ho
 obtain⟨_,_,hpw,hiw⟩:=Qa0r s.t c hl ho
 obtain⟨rfl,rfl⟩:=hex (.inr (.inl ⟨rfl,rfl,rfl⟩))
 have hyj:y.jump=o.jump∧y.on=o.on:=by rw[←hy];exact⟨rfl,rfl⟩
 refine Q3 ?_
 refine Qa ?_
 simp only[go_sem,l0,l1,l2,l6,hzb,hRWl,hRWt,hRWg,hb,hpw,hiw,Nat.zero_add,Nat.le_refl]
 refine Qc6 (fun e2 H2=>NSt q os zb n R wl cy ids F nx cs (XU os zb U) H2∧LK wl b cy R n zb e2) ?_ ?_
 ·intro Q2 hnr _ _
  refine Qd rfl ?_ ?_
  ·intro hc
   have hj:¬y.jump=1:=by rw[hyj.1];simpa using hc
   obtain⟨hv,hvl⟩:=(hyo.on hj).nat
   rw[c.hR]at hvl
   rw[hyj.2]at hv hvl
   have hcu:=s.cu
   have hct:=s.ct
   generalize hr:o.on.toNat=r at *
   have hrc:r<cs.length:=by rw[s.c];exact hvl
   refine Qq ?_
   simp only[go_sem,l0,l1,l2,l6,hzb,hRWl,hRWt,hRWg,hb,hpw,hiw,hv,hvl,hcu,hct,Qe,s.c,Qs _ _ hrc,Nat.zero_add,Nat.le_refl]
   intro H2 h2
   have hne:=fun r'=>ap.zbP hl i0 0 r'
   have hX:∀m' r',XU os zb U m' r'→XC os zb U o b true i0 0 m' r':=fun m' r' hh=>.inl hh
   refine hnr _ _ ⟨⟨Ty.st s.t LGo.zbm h2 (hsim.set (by rw[List.length_map];exact hl) (by
    have hg:(os.map OBlk.row).getD b []=o.row:=by
     simp only[List.getD_eq_getElem?_getD,List.getElem?_map,List.getElem?_eq_getElem hl,Option.map_some,Option.getD_some,ho]
    rw[hg,OBlk.row_eq]
    exact .cons (.inl rfl) (.cons (.inl rfl) (.cons (.inl rfl) (.cons (.inr ⟨_,_,rfl,rfl⟩) (.cons (.inl rfl) .nil))))) (fun r' _ hh=>hX _ _ hh) (ap.zbU hU)) (fun m' _ r' hh=>hX _ _ hh),s.c⟩,rfl,rfl,rfl,rfl⟩
  ·intro _
   refine Qi ?_
   try simp only[go_sem]
   exact hnr _ _ ⟨s.weak fun m r hh=>.inl hh,rfl,rfl,rfl,rfl⟩
 ·rintro e2 H2 ⟨s,hk⟩
  exact h _ _ s hk
set_option maxHeartbeats 8000000 in
theorem phE (c:NC q os zb R n ids) (hb:b<n) (hl:b<os.length) (ho:os[b]=o) (hy:o.d=y) (hq:b<q.blocks.length) (hyq:q.blocks[b]=y) (s:NSt q os zb n R wl cy ids F nx cs (XU os zb U) H) (hk:LK wl b cy R n zb e)
  (h:∀e' H',NSt q os zb n R wl cy ids F nx cs (XU os zb U) H'→LK wl b cy R n zb e'→Qac prog Qfr Q e' H'):Qac prog Qcx Q e H:=by
 obtain⟨l0,l1,l2,l6⟩:=hk
 have hyo:=c.ok.bs b hq
 rw[hyq]at hyo
 have ap:Apart os zb:=s.t.nodup
 have hnl0:o.nx.ns.length≤2:=by have:=hyo.nxl;rw[←hy]at this;exact this
 have hny:y.next=o.nx.ns:=by rw[←hy];rfl
 refine Q3 ?_
 refine Qa ?_
 simp only[go_sem,l0,l1,l2,l6]
 refine Qh (Qc (Qu (fun m e1 H1=>∃(i:Nat),m=o.nx.ns.length-i∧i≤o.nx.ns.length∧NSt q os zb n R wl cy ids F nx cs (XU os zb U) H1∧lk 0 e1=.c (.ptr wl 0)∧lk 1 e1=.c (.int .i64 b)∧lk 2 e1=.c (.vsl cy 1 0 R)∧lk 6 e1=.c (.ep (.vsl zb 5 0 n) 5 b 0)∧lk 12 e1=.c (.int .i64 i)) o.nx.ns.length ?_ ?_))
 ·exact⟨0,by omega,by omega,s,rfl,rfl,rfl,rfl,rfl⟩
 ·clear s l0 l1 l2 l6
  rintro m e1 H1 ⟨i,hm,hi,s,l0,l1,l2,l6,l12⟩
  obtain⟨RW,j,on,hzb,hRWl,hRWt,hRWg,_,_⟩:=Q4b s.t c hb hl ho
  obtain⟨_,_,hpw,hiw⟩:=Qa0r s.t c hl ho
  have hsn:SimO (XU os zb U o.nx.y) (.vec 1 (Qf o.nx.ns)) (H1 o.nx.y):=s.t.get (LGo.of hl (by rw[ho];exact o.nxM))
  obtain⟨ns',hay,hnl,hex,_⟩:=Qazb hsn
  refine Q3 ?_
  refine Qa ?_
  simp only[go_sem,l0,l1,l2,l6,l12,hzb,hRWl,hRWt,hRWg,hb,hpw,hiw,hay,Qe,hnl,Nat.zero_add,Nat.le_refl]
  try intro _
  refine Qh (Qd rfl ?_ ?_)
  ·intro hc
   have hlt:i<o.nx.ns.length:=by simpa using hc
   have hlt2:i<ns'.length:=by omega
   have hat:(Qf ns').take o.nx.ns.length=Qf ns':=List.take_of_length_le (by rw[Qe];omega)
   have hv0:=hex i hlt (.inl ⟨b,hl,by rw[ho]⟩)
   have hvm:o.nx.ns.getD i 0∈y.next:=by rw[hny];exact Qhk hlt
   have hvr:=hyo.nx _ hvm
   obtain⟨v,hv⟩:∃v:Nat,o.nx.ns.getD i 0=(v:Int):=⟨(o.nx.ns.getD i 0).toNat,by omega⟩
   rw[hv]at hv0 hvr
   have hvq:v<q.blocks.length:=by omega
   have hvn:v<n:=by rw[←c.hn];exact hvq
   refine Qi ?_
   try simp only[go_sem]
   refine Qh (Qc ?_)
   refine Qa ?_
   simp only[go_sem,l0,l1,l2,l6,l12,hzb,hRWl,hRWt,hRWg,hb,hpw,hiw,hay,hat,Qe,hnl,hlt,Qs _ _ hlt2,hv0,Nat.zero_add,Nat.le_refl]
   have hw:=s.w
   rw[wO]at hw
   refine Qa ?_
   simp only[go_sem,hw]
   refine Qeb (nx:=gnx q) (.mk' _ _ _ _) rfl (Qf7 H1 q false).x fun H2 hu=>?_
   have s:NSt q os zb n R wl cy ids F nx cs (XU os zb U) H2:=⟨s.t.call0 hu,s.c⟩
   rw[Qj]
   simp only[go_sem,Qel]
   refine Qaer (ns:=Q7 (gnx q) (v:Int) q.blocks.length) (.mk' _ _ _ _) rfl fun r hr=>?_
   have hbm:(b:Int)∈Q7 (gnx q) (v:Int) q.blocks.length:=by
    simp only[Q7,List.mem_map,List.mem_filter,List.mem_range]
    refine⟨b,⟨hq,List.contains_iff_mem.2 ?_⟩,rfl⟩
    rw[Qrp hq,hyq,←hv];exact hvm
   obtain⟨a,ra,hal⟩:∃a:Nat,r=(a:Int)∧a<(Q7 (gnx q) (v:Int) q.blocks.length).length:=by
    rcases hr with ⟨_,hn⟩|⟨a,h1,h2,_⟩
    ·exact absurd hbm hn
    ·exact⟨a,h1,h2⟩
   subst ra
   clear hr
   simp only[go_sem,Qek]
   obtain⟨hvl,_,hvd,hvok,hvyo,hvp,_⟩:=c.get hvn
   obtain⟨o',ho'⟩:∃o',os[v]=o':=⟨_,rfl⟩
   obtain⟨y',hy'⟩:∃y',q.blocks[v]=y':=⟨_,rfl⟩
   rw[ho',hy']at hvd
   rw[ho']at hvok hvp
   rw[hy']at hvyo
   have hyl':y'.phis.length=o'.phis.length:=by rw[←hvd];simp[OBlk.d]
   refine Qa ?_
   simp only[go_sem]
   refine Qc (Qu (fun m e1 H1=>∃(k:Nat),m=o'.phis.length-k∧k≤o'.phis.length∧NSt q os zb n R wl cy ids F nx cs (XU os zb U) H1∧lk 0 e1=.c (.ptr wl 0)∧lk 1 e1=.c (.int .i64 b)∧lk 2 e1=.c (.vsl cy 1 0 R)∧lk 6 e1=.c (.ep (.vsl zb 5 0 n) 5 b 0)∧lk 12 e1=.c (.int .i64 i)∧
    lk 13 e1=.c (.int .i64 v)∧lk 14 e1=.c (.int .i64 a)∧lk 15 e1=.c (.int .i64 k)) o'.phis.length ?_ ?_)
   ·exact⟨0,by omega,by omega,s,rfl,rfl,rfl,rfl,rfl,rfl,rfl,rfl⟩
   ·clear s hw hzb hRWl hRWt hRWg hay hat hnl hex hlt2 hsn l0 l1 l2 l6 l12
    rintro m2 e2 H3 ⟨k,hm2,hk2,s,l0,l1,l2,l6,l12,l13,l14,l15⟩
    have hw:=s.w
    rw[wO]at hw
    refine Q3 ?_
    refine Qa ?_
    simp only[go_sem,l0,l1,l2,l6,l12,l13,l14,l15,hw,hvq,Qj,Q5 _ _ hvq,BlkD.cells,hy',Q9]
    try intro _
    refine Qh (Qd rfl ?_ ?_)
    ·intro hc2
     have hlt2:k<y'.phis.length:=by simpa using hc2
     have hlt3:k<o'.phis.length:=by omega
     obtain⟨z,hpc,hpl⟩:=OBlk.phZ hvok hlt3
     obtain⟨RW,j,on,hzb,hRWl,hRWt,hRWg,_,_⟩:=Q4b s.t c hvn hvl ho'
     obtain⟨_,_,hpw',hiw'⟩:=Qa0r s.t c hvl ho'
     rw[hpc]at hRWg
     obtain⟨PR,to,ya,hz,hPl,hPt,hPg,hya,hac,_⟩:=rdPh s.t c hvl ho' hpl hlt3
     obtain⟨p,hp⟩:∃p,y'.phis[k]=p:=⟨_,rfl⟩
     have hpm:p∈y'.phis:=by rw[←hp];exact List.getElem_mem hlt2
     have hpns:p.args=o'.phis[k].ns:=by
      have h1:(o'.phis.map OPhi.d)[k]? = some o'.phis[k].d:=by simp[hlt3]
      have h2:o'.phis.map OPhi.d=y'.phis:=by rw[←hvd];rfl
      rw[h2,List.getElem?_eq_getElem hlt2,hp]at h1
      rw[Option.some.inj h1];rfl
     have hpal:=hvyo.pal p hpm
     have hap:a<p.args.length:=by omega
     have hnsl:o'.phis[k].ns.length=p.args.length:=by rw[hpns]
     have hyam:(ya,Obj.vec 1 (Qf o'.phis[k].ns))∈LGo os zb:=LGo.of hvl (by rw[ho'];exact OBlk.phM hya)
     obtain⟨ns',hay,hnl,_,hsim⟩:=Qazb (s.t.get hyam)
     rw[hnsl]at hPg hnl
     have hnotX:∀r,¬XU os zb U ya r:=fun r=>ap.ph hvl (p:=(ya,Obj.vec 1 (Qf o'.phis[k].ns))) (by rw[ho'];exact hya) r
     have hat:(Qf ns').take p.args.length=Qf ns':=List.take_of_length_le (by rw[Qe];omega)
     have han:a<ns'.length:=by omega
     obtain⟨hu,hul⟩:=(hvyo.pargs p hpm _ (Qhk hap)).nat
     rw[c.hR]at hul
     have hcu:=s.cu
     have hct:=s.ct
     generalize hr:(p.args.getD a 0).toNat=r at *
     have hrc:r<cs.length:=by rw[s.c];exact hul
     refine Qi ?_
     try simp only[go_sem]
     refine Qh (Qc ?_)
     refine Qa9 ?_
     simp only[go_sem,l0,l1,l2,l6,l12,l13,l14,l15,hw,hvq,hvn,Qj,Q5 _ _ hvq,BlkD.cells,hy',Q9,hlt2,Qbb _ _ hlt2,PhiD.cells,hp,hzb,hRWl,hRWt,hRWg,hpw',hiw',hz,hPl,hPt,hPg,hlt3,hay,hat,Qe,hnl,hap,Qs _ _ hap,Qs _ _ han,hu,hul,hcu,hct,s.c,Qs _ _ hrc,Qcg,Nat.zero_add,Nat.le_refl]
     intro H4 h4
     have s:NSt q os zb n R wl cy ids F nx cs (XU os zb U) H4:=⟨Qbbq s.t hyam hsim (by rw[hnsl];exact hap) _ h4 (fun m' r' _ hh=>hh) (hnotX a),s.c⟩
     refine Qq ?_
     simp only[go_sem,l0,l1,l2,l6,l12,l13,l14,l15]
     refine⟨Qo (by omega) (by omega),?_⟩
     show ∃m,_
     exact⟨o'.phis.length-(k+1),by omega,k+1,rfl,by omega,s,rfl,rfl,rfl,rfl,rfl,rfl,rfl,rfl⟩
    ·intro _
     refine Qt ?_
     simp only[go_sem,X.next]
     refine Qq ?_
     simp only[go_sem,l0,l1,l2,l6,l12]
     refine⟨Qo (by omega) (by omega),?_⟩
     show ∃m,_
     exact⟨o.nx.ns.length-(i+1),by omega,i+1,rfl,by omega,s,rfl,rfl,rfl,rfl,rfl⟩
  ·intro _
   refine Qt ?_
   simp only[go_sem,X.next]
   exact h _ _ s ⟨rfl,rfl,rfl,rfl⟩
end Go.AE.Y

namespace Go.AE.Y
attribute [local go_sem] cond_true cond_false Bool.not_true Bool.not_false
attribute [local instance] Classical.propDecidable
open Go.Proofs.Tryz
variable {H H' F:Heap} {K:V→Heap→Prop} {q:CodeD} {os:List OBlk} {zb wl cy R n b:Nat} {ids:List Int} {nx:Int} {cs:List Int}
def wgt (os:List OBlk) (x:Nat):Nat:=match os[x]? with
 |some o=>o.phis.length+o.ins.length
 |none=>0
theorem Qbfi {x:Nat} {o:OBlk} (h:x<os.length) (ho:os[x]=o):wgt os x=o.phis.length+o.ins.length:=by simp[wgt,h,ho]
theorem Qbb9 {n:Nat} {g:Nat→List Nat} {b:Nat}:depL n g b≤n:=by
 have:=List.length_filter_le (fun a=>Qrh g a b) (List.range n)
 simpa[depL]using this
theorem Qaq8 (ids:List Int) (b:Nat):(Qn3 ids b).Nodup:=List.Nodup.sublist List.filter_sublist List.nodup_range
theorem Qa0p {N B:Nat} {w:Nat→Nat} (hw:∀x,w x≤B) (U:Nat→Prop):potW N w U≤N * B:=by
 have key:∀m,(((List.range m).filter fun x=>decide (U x)).map w).sum≤m * B:=fun m=>by
  induction m with
  |zero=>simp
  |succ m ih=>
   rw[List.range_succ,List.filter_append,List.map_append,List.sum_append,Nat.succ_mul]
   have h1:(((List.filter (fun x=>decide (U x)) [m]).map w)).sum≤B:=by
    by_cases h:U m
    ·simp[h];exact hw m
    ·simp[h]
   omega
 exact key N
noncomputable def pW (n:Nat) (w:Nat→Nat) (U:Nat→Prop):Nat:=@potW n w U fun _=>Classical.propDecidable _
theorem Qbe0 {w:Nat→Nat} {U V:Nat→Prop} {b:Nat} (hb:b<n) (hU:U b) (hV:∀x,V x↔U x∧x≠b):pW n w V+w b=pW n w U:=by
 unfold pW;exact Qa98 hb hU hV
theorem Qbez {w:Nat→Nat} {U V:Nat→Prop} (h:∀x,V x→U x):pW n w V≤pW n w U:=by
 unfold pW;exact Qbdm h
theorem Qa92 {N B:Nat} {w:Nat→Nat} (hw:∀x,w x≤B) (U:Nat→Prop):pW N w U≤N * B:=by
 unfold pW;exact Qa0p hw U
set_option maxHeartbeats 8000000 in
theorem Qbdf (c:NC q os zb R n ids) (M:Int) (hM:M≤2 ^ 40):∀(N b:Nat) (U:Nat→Prop) (nx:Int) (cs:List Int) (cy:Nat) (H:Heap) (K:V→Heap→Prop),n<N+depL n (nxN (gnx q)) b→b<n→(∀x,Sub ids b x→U x)→NSt q os zb n R wl cy ids H nx cs (XU os zb U) H→0≤nx→nx+pW n (wgt os) U≤M→
  (∀nx' cs' H',NSt q os zb n R wl cy ids H nx' cs' (XU os zb fun x=>U x∧¬Sub ids b x) H'→0≤nx'→nx'+pW n (wgt os) (fun x=>U x∧¬Sub ids b x)≤M→K (.tup []) H')→
  Qw prog Qce [.c (.ptr wl 0),.c (.int .i64 b),.c (.vsl cy 1 0 R)] H K:=by
 intro N
 induction N with
 |zero=>intro b U nx cs cy H K h1;have:=Qbb9 (n:=n) (g:=nxN (gnx q)) (b:=b);omega
 |succ N ih=>
  intro b U nx cs cy H K hN hb hUs s h0 hpot hK
  obtain⟨hl,hq,hd,hok,hyo,hpl,hil⟩:=c.get hb
  obtain⟨o,ho⟩:∃o,os[b]=o:=⟨_,rfl⟩
  obtain⟨y,hy⟩:∃y,q.blocks[b]=y:=⟨_,rfl⟩
  rw[ho]at hd hok hpl hil
  rw[hy]at hd hyo
  have ap:Apart os zb:=s.t.nodup
  have hbU:U b:=hUs b .refl
  obtain⟨U1,hU1⟩:∃U1:Nat→Prop,U1=fun x=>U x∧x≠b:=⟨_,rfl⟩
  have hU1b:¬U1 b:=by rw[hU1];exact fun h=>h.2 rfl
  have hpo:=Qbe0 (n:=n) (w:=wgt os) (U:=U) (V:=U1) hb hbU (fun x=>by rw[hU1])
  rw[Qbfi hl ho]at hpo
  have s1:NSt q os zb n R wl cy ids H nx cs (XC os zb U1 o b true 0 0) H:=by
   refine⟨?_,s.c⟩
   refine s.t.weak fun m r hh=>?_
   rcases hh with (h|⟨x,hx,hUx,he⟩)|⟨_,h1,h2⟩|⟨p,hp,h1,_⟩|⟨i',hi',h1,_⟩
   ·exact .inl h
   ·rw[hU1]at hUx;exact .inr ⟨x,hx,hUx.1,he⟩
   ·exact .inr ⟨b,hl,hbU,.inl ⟨h1,h2⟩⟩
   ·exact .inr ⟨b,hl,hbU,.inr ⟨p,by rw[ho];exact List.mem_append_right _ hp,h1⟩⟩
   ·exact .inr ⟨b,hl,hbU,.inr ⟨_,by rw[ho];exact List.mem_append_left _ (o.aM hi'),h1⟩⟩
  have hXph:∀p∈o.phN,∀r,¬XC os zb U1 o b true 0 0 p.1 r:=fun p hp r hh=>by
   have hp':p∈os[b].phN:=by rw[ho];exact hp
   rcases hh with h|h
   ·exact ap.ph hl hp' r h
   ·exact ap.phP hl hl hp' true 0 0 r (by rw[ho];exact h)
  clear s
  refine Qb Qat Qz6 ?_
  have hw:=s1.w
  rw[wO]at hw
  obtain⟨RW,j,on,hzb,hRWl,hRWt,hRWg,_,_⟩:=Q4b s1.t c hb hl ho
  refine Qa ?_
  simp only[go_sem,hw,hzb,hRWl,hb,Nat.zero_add,Nat.le_refl]
  refine phA c hb hl ho hXph s1 ⟨rfl,rfl,rfl,rfl⟩ h0 (by omega) (by omega) fun e2 H2 s2 k2=>?_
  refine phB c hb hl ho hd hq hy s2 k2 (by omega) fun e3 H3 cs3 s3 k3=>?_
  refine phC c hb hl ho hd hq hy hU1b s3 k3 (by omega) (by omega) (by omega) fun e4 H4 nx4 cs4 hn1 hn2 s4 k4=>?_
  refine phD c hb hl ho hd hq hy hU1b s4 k4 fun e5 H5 s5 k5=>?_
  refine phE c hb hl ho hd hq hy s5 k5 fun e6 H6 s6 k6=>?_
  obtain⟨l0,l1,l2,l6⟩:=k6
  have hw:=s6.w
  rw[wO]at hw
  refine Qa ?_
  simp only[go_sem,l0,l1,l2,l6,hw]
  refine Qa36 (by rw[c.t.1];have:=c.ok.b1;rw[c.hn]at this;omega) fun H7 hu=>?_
  have s7:NSt q os zb n R wl cy ids H nx4 cs4 (XU os zb U1) H7:=⟨s6.t.call0 hu,s6.c⟩
  simp only[go_sem,Qem,l0,l1,l2,l6]
  obtain⟨kl,hkl⟩:∃kl,Qn3 ids b=kl:=⟨_,rfl⟩
  rw[hkl]
  have hkll:kl.length≤160:=by
   have h1:=List.length_filter_le (fun i=>decide (ids.getD i 0=(b:Int))) (List.range ids.length)
   rw[List.length_range,c.t.1]at h1
   have h2:=c.ok.b1
   rw[c.hn]at h2
   rw[←hkl,Qn3,c.t.1];omega
  have hkm:∀k∈kl,k∈Qn3 ids b:=fun k hk=>by rw[hkl];exact hk
  have hknd:kl.Nodup:=by rw[←hkl];exact Qaq8 ids b
  refine Qa ?_
  simp only[go_sem]
  refine Qc (Qu (fun m e1 H1=>∃(i:Nat) (nx':Int) (cs:List Int),m=kl.length-i∧i≤kl.length∧NSt q os zb n R wl cy ids H nx' cs (XU os zb fun x=>U1 x∧∀k∈kl.take i,¬Sub ids k x) H1∧0≤nx'∧nx'+pW n (wgt os) (fun x=>U1 x∧∀k∈kl.take i,¬Sub ids k x)≤M∧
   lk 0 e1=.c (.ptr wl 0)∧lk 2 e1=.c (.vsl cy 1 0 R)∧lk 16 e1=.c (.sl false 1 (Qaa kl))∧lk 17 e1=.c (.int .i64 i)) kl.length ?_ ?_)
  ·refine⟨0,nx4,cs4,by omega,by omega,⟨s7.t.weak fun m r hh=>?_,s7.c⟩,by omega,?_,rfl,rfl,rfl,rfl⟩
   ·rcases hh with h|⟨x,hx,hUx,he⟩
    ·exact .inl h
    ·exact .inr ⟨x,hx,hUx.1,he⟩
   ·have:=Qbez (n:=n) (w:=wgt os) (U:=U1) (V:=fun x=>U1 x∧∀k∈kl.take 0,¬Sub ids k x) fun x hx=>hx.1
    omega
  ·clear hw hzb hRWl hRWt hRWg s1 s6 s7 hu l0 l1 l2 l6
   rintro m e7 H8 ⟨i,nx',cs,hm,hi,s,hn0,hpot',l0,l2,l16,l17⟩
   refine Q3 ?_
   refine Qa ?_
   simp only[go_sem,l0,l2,l16,l17,Q1]
   try intro _
   refine Qh (Qd rfl ?_ ?_)
   ·intro hc
    have hlt:i<kl.length:=by simpa using hc
    obtain⟨k,hk⟩:∃k,kl[i]=k:=⟨_,rfl⟩
    have hkmem:k∈Qn3 ids b:=hkm k (by rw[←hk];exact List.getElem_mem hlt)
    have hgd:kl.getD i 0=k:=by simp[List.getD_eq_getElem?_getD,hlt,hk]
    have hkid:=kidsL_mem.1 hkmem
    have hkn:k<n:=by rw[←c.t.1];exact hkid.1
    have hdep:=(c.t.up hkid.1 hkid.2).2
    have hcu:=s.cu
    refine Qi ?_
    try simp only[go_sem]
    refine Qh (Qc ?_)
    refine Qa9 ?_
    simp only[go_sem,l0,l2,l16,l17,hlt,Q1,Qas _ _ hlt,hgd,hcu,s.ct,s.cl,List.nil_append,List.length_nil,List.drop_zero,Nat.zero_add,Nat.le_refl]
    refine⟨.inl trivial,Qv _,by have h1:=c.ok.r1;have h2:=c.ok.r0;have:=c.hR;simp only[LIM];omega,fun z hz H9 h9=>?_⟩
    have t9:=s.t.al hz h9
    simp only[go_sem,Qen,l0,l2,l16,l17,hlt,Q1,Qas _ _ hlt,hgd]
    have hsub:Ty (LGo os zb) H9 [(wl,wO q ids zb n nx'),(z,.vec 1 (Qf cs))] (XU os zb fun x=>U1 x∧∀k∈kl.take i,¬Sub ids k x) H9 []:=Ty.sub (L:=[]) t9
    refine ih k (fun x=>U1 x∧∀k∈kl.take i,¬Sub ids k x) nx' cs z H9 _ (by omega) hkn (fun x hx=>?_) ⟨hsub,s.c⟩ hn0 hpot' fun nx2 cs2 H10 s10 hn2' hpot2=>?_
    ·refine⟨?_,fun k' hk' hs'=>?_⟩
     ·rw[hU1]
      refine⟨hUs x (Sub.kid hkmem hx),fun hxb=>?_⟩
      subst hxb
      exact Sub.kid_ne c.t hkmem hx
     ·have hk'm:k'∈kl:=List.mem_of_mem_take hk'
      have:=Sub.kids_apart c.t (hkm k' hk'm) hkmem hs' hx
      subst this
      rw[←hk]at hk'
      exact Qay1 hknd hlt hk'
    have hXeq:∀x,(U1 x∧∀k∈kl.take (i+1),¬Sub ids k x)↔((U1 x∧∀k∈kl.take i,¬Sub ids k x)∧¬Sub ids k x):=fun x=>by
     rw[List.take_succ_eq_append_getElem hlt,hk]
     constructor
     ·rintro⟨g1,g2⟩
      exact⟨⟨g1,fun k' hk'=>g2 k' (List.mem_append_left _ hk')⟩,g2 k (List.mem_append_right _ (by simp))⟩
     ·rintro⟨⟨g1,g2⟩,g3⟩
      refine⟨g1,fun k' hk'=>?_⟩
      rcases List.mem_append.1 hk' with h|h
      ·exact g2 k' h
      ·simp only[List.mem_singleton]at h;rw[h];exact g3
    have hfe:(fun x=>U1 x∧∀k∈kl.take (i+1),¬Sub ids k x)=fun x=>(U1 x∧∀k∈kl.take i,¬Sub ids k x)∧¬Sub ids k x:=funext fun x=>propext (hXeq x)
    have t11:=Ty.ret (L:=[]) t9 s10.t
    refine Qq ?_
    simp only[go_sem,l0,l2,l16,l17]
    refine⟨Qo (by omega) (by omega),?_⟩
    show ∃m,_
    refine⟨kl.length-(i+1),by omega,i+1,nx2,cs,rfl,by omega,?_,hn2',?_,rfl,rfl,rfl,rfl⟩
    ·rw[hfe];exact⟨t11,s.c⟩
    ·rw[hfe];exact hpot2
   ·intro hc
    have hie:i=kl.length:=by have:kl.length≤i:=(by simpa using hc);omega
    subst hie
    rw[List.take_length]at s hpot'
    refine Qt ?_
    simp only[go_sem,X.next,Q6,Qad,Qjo,List.not_mem_nil,false_imp_iff,implies_true,List.map_nil]
    have hsubset:∀x,(U x∧¬Sub ids b x)→(U1 x∧∀k∈kl,¬Sub ids k x):=fun x hx=>by
     refine⟨by rw[hU1];exact⟨hx.1,fun hxb=>hx.2 (by rw[hxb];exact .refl)⟩,fun k hk hs=>hx.2 (Sub.kid (hkm k hk) hs)⟩
    refine hK nx' cs H8 ⟨s.t.weak fun m r hh=>?_,s.c⟩ hn0 ?_
    ·rcases hh with h|⟨x,hx,hUx,he⟩
     ·exact .inl h
     ·exact .inr ⟨x,hx,hsubset x hUx,he⟩
    ·have:=Qbez (n:=n) (w:=wgt os) hsubset
     omega
theorem LGo.vec {zb:Nat} (hok:∀b∈os,b.ok) (how:∀b∈os,∀p∈b.phis,p.own):∀p∈LGo os zb,∃sz rows,p.2=.vec sz rows:=fun p hp=>by
 rcases List.mem_append.1 hp with hp|hp
 ·obtain⟨o,ho,hp⟩:=List.mem_flatMap.1 hp
  have h1:=hok o ho
  simp only[OBlk.lg,List.mem_append]at hp
  rcases hp with hp|hp|hp|hp|hp
  ·simp only[OInts.lg,List.mem_singleton]at hp;rw[hp];exact⟨_,_,rfl⟩
  ·obtain⟨x,hx,hp⟩:=List.mem_flatMap.1 hp
   obtain⟨y,_,e⟩:=how o ho x hx
   rw[e]at hp
   simp only[List.mem_singleton]at hp;rw[hp];exact⟨_,_,rfl⟩
  ·rcases h1.p with ⟨_,_,e⟩|⟨y,_,e⟩
   ·rw[e]at hp;simp at hp
   ·rw[e]at hp;simp only[List.mem_singleton]at hp;rw[hp];exact⟨_,_,rfl⟩
  ·obtain⟨x,hx,hp⟩:=List.mem_flatMap.1 hp
   simp only[OIns.lg,OInts.lg,List.mem_singleton]at hp;rw[hp];exact⟨_,_,rfl⟩
  ·rcases h1.i with ⟨_,_,e⟩|⟨y,_,e⟩
   ·rw[e]at hp;simp at hp
   ·rw[e]at hp;simp only[List.mem_singleton]at hp;rw[hp];exact⟨_,_,rfl⟩
 ·simp only[List.mem_singleton]at hp;rw[hp];exact⟨_,_,rfl⟩
theorem Qbba {LG E0:List (Nat×Obj)} {Z:Nat→Nat→Prop} (hv:∀p∈LG,∃sz rows,p.2=.vec sz rows) (kn:Kn H H (E0++LG) []):Ty LG H E0 Z H []:=by
 refine⟨LG,rfl,fun p hp ob hob=>?_,kn⟩
 have hd:=kn.dE
 rw[List.map_append]at hd
 have hnd:=(List.nodup_append.1 hd).2.1
 obtain⟨i1,g1⟩:=List.getElem?_of_mem hp
 obtain⟨i2,g2⟩:=List.getElem?_of_mem hob
 have:=Qb9 hnd g1 g2 rfl
 subst this
 rw[g1]at g2
 have e:p.2=ob:=by rw[Option.some.inj g2]
 obtain⟨sz,rows,h⟩:=hv p hp
 rw[←e,h];exact .same _ _
theorem Qaeb {S:Nat→Bool} {Z:Nat→Prop} {m k:Nat} {ns:List Int} (hs:SimO Z (.vec 1 (Qf ns)) (H m)) (hS:S m=true) (hk:k=ns.length):∃ns':List Int,ns'.length=ns.length∧FrzC H S (.vsl m 1 0 k) (.sl false 1 (Qf ns')):=by
 obtain⟨ns',h1,h2,_⟩:=Qazb (X:=fun _=>Z) (m:=m) hs
 exact⟨ns',h2,(FrzR.same (Qv _)).vsl hS h1 (by rw[Qe];omega)⟩
theorem Q14 {β:Type} {S:Nat→Bool} {g:β→List C} {P:β→Prop}:∀(l:List (List C)),(∀r∈l,∃y,FrzL H S r (g y)∧P y)→∃l':List β,FrzR H S l (l'.map g)∧l'.length=l.length∧∀y∈l',P y
 |[],_=>⟨[],.nil,rfl,by simp⟩
 |x::l,h=>by
  obtain⟨y,hy,hp⟩:=h x List.mem_cons_self
  obtain⟨l',hl',hn,hps⟩:=Q14 l fun z hz=>h z (List.mem_cons_of_mem _ hz)
  refine⟨y::l',.cons hy hl',by simp[hn],fun z hz=>?_⟩
  rcases List.mem_cons.1 hz with rfl|hz
  ·exact hp
  ·exact hps z hz
theorem Qa5v {l:List (List C)} {r:List C} (h:r∈l):∃i,i<l.length∧l.getD i []=r:=by
 obtain⟨i,hi,rfl⟩:=List.mem_iff_getElem.1 h
 exact⟨i,hi,by simp[List.getD_eq_getElem?_getD,hi]⟩
theorem Qa74 {S:Nat→Bool} {Z:Nat→Nat→Prop} {o:OBlk} (hok:o.ok) (how:∀p∈o.phis,p.own) (hs:∀p∈o.phN,SimO (Z p.1) p.2 (H p.1)∧S p.1=true):∃ps:List PhiD,FrzC H S o.pc (.sl false 2 (Qai ps))∧ps.length=o.phis.length:=by
 rcases hok.p with ⟨h1,h2,_⟩|⟨z,h1,h2⟩
 ·have h0:o.phis=[]:=List.map_eq_nil_iff.1 h2
  exact⟨[],by rw[h1];exact FrzR.nil.sl,by simp[h0]⟩
 ·obtain⟨hz,hSz⟩:=hs (z,.vec 2 (o.phis.map OPhi.row)) (List.mem_append_right _ (by rw[h2];simp))
  obtain⟨PR,g1,g2,g3⟩:=hz.get
  rw[List.length_map]at g2 g3
  obtain⟨ps,e1,e2,_⟩:=Q14 (H:=H) (S:=S) (g:=PhiD.cells) (P:=fun _=>True) PR fun r hr=>by
   obtain⟨i,hi,he⟩:=Qa5v hr
   have hi':i<o.phis.length:=by omega
   obtain⟨h4,_⟩:=g3 i hi'
   obtain⟨ya,e3,e4⟩:=how _ (List.getElem_mem hi')
   have hg:(o.phis.map OPhi.row).getD i []=[.int .i64 o.phis[i].to,.vsl ya 1 0 o.phis[i].ns.length]:=by
    simp only[List.getD_eq_getElem?_getD,List.getElem?_map,List.getElem?_eq_getElem hi',Option.map_some,Option.getD_some,OPhi.row,e3]
   rw[hg,he]at h4
   have hya:=hs (ya,.vec 1 (Qf o.phis[i].ns)) (List.mem_append_left _ (List.mem_flatMap.2 ⟨_,List.getElem_mem hi',by rw[e4];simp⟩))
   obtain⟨ns',_,hfr⟩:=Qaeb hya.1 hya.2 rfl
   cases h4 with
   |cons a1 t1=>cases t1 with
    |cons a2 t2=>cases t2 with
     |nil=>
      obtain⟨v,e⟩:=a1.int
      have e5:=a2.vsl
      subst e;subst e5
      exact⟨⟨v,ns'⟩,.cons (Qg rfl) (.cons hfr .nil),trivial⟩
  exact⟨ps,by rw[h1];exact e1.vsl hSz g1 (by rw[List.length_map,g2]),by omega⟩
theorem Qbbz {S:Nat→Bool} {Z:Nat→Nat→Prop} {o:OBlk} (hok:o.ok) (hs:∀p∈o.inN,SimO (Z p.1) p.2 (H p.1)∧S p.1=true):∃is:List InsD,FrzC H S o.ic (.sl false 4 (Qbk is))∧is.length=o.ins.length:=by
 rcases hok.i with ⟨h1,h2,_⟩|⟨z,h1,h2⟩
 ·have h0:o.ins=[]:=List.map_eq_nil_iff.1 h2
  exact⟨[],by rw[h1];exact FrzR.nil.sl,by simp[h0]⟩
 ·obtain⟨hz,hSz⟩:=hs (z,.vec 4 (o.ins.map OIns.row)) (List.mem_append_right _ (by rw[h2];simp))
  obtain⟨PR,g1,g2,g3⟩:=hz.get
  rw[List.length_map]at g2 g3
  obtain⟨ps,e1,e2,_⟩:=Q14 (H:=H) (S:=S) (g:=InsD.cells) (P:=fun _=>True) PR fun r hr=>by
   obtain⟨i,hi,he⟩:=Qa5v hr
   have hi':i<o.ins.length:=by omega
   obtain⟨h4,_⟩:=g3 i hi'
   have hg:(o.ins.map OIns.row).getD i []=[.int .i64 o.ins[i].op,.int .i64 o.ins[i].to,.vsl o.ins[i].a.y 1 0 o.ins[i].a.ns.length,.int .i64 o.ins[i].n]:=by
    simp only[List.getD_eq_getElem?_getD,List.getElem?_map,List.getElem?_eq_getElem hi',Option.map_some,Option.getD_some]
    rfl
   rw[hg,he]at h4
   have hya:=hs (o.ins[i].a.y,.vec 1 (Qf o.ins[i].a.ns)) (List.mem_append_left _ (o.aM hi'))
   obtain⟨ns',_,hfr⟩:=Qaeb hya.1 hya.2 rfl
   cases h4 with
   |cons a1 t1=>cases t1 with
    |cons a2 t2=>cases t2 with
     |cons a3 t3=>cases t3 with
      |cons a4 t4=>cases t4 with
       |nil=>
        obtain⟨v1,f1⟩:=a1.int
        obtain⟨v2,f2⟩:=a2.int
        have f3:=a3.vsl
        obtain⟨v4,f4⟩:=a4.int
        subst f1;subst f2;subst f3;subst f4
        exact⟨⟨v1,v2,ns',v4⟩,.cons (Qg rfl) (.cons (Qg rfl) (.cons hfr (.cons (Qg rfl) .nil))),trivial⟩
  exact⟨ps,by rw[h1];exact e1.vsl hSz g1 (by rw[List.length_map,g2]),by omega⟩
theorem Qa73 {S:Nat→Bool} {Z:Nat→Nat→Prop} (c:NC q os zb R n ids) (t:∀p∈LGo os zb,SimO (Z p.1) p.2 (H p.1)) (hS:∀p∈LGo os zb,S p.1=true) :
  ∃bs:List BlkD,FrzC H S (.vsl zb 5 0 n) (.sl false 5 (Ql bs))∧bs.length=n∧∀y∈bs,y.ins.length≤1200∧y.phis.length≤1200:=by
 have hs:=t _ LGo.zbm
 obtain⟨RW,h1,h2,h3⟩:=hs.get
 rw[List.length_map,c.l]at h2
 obtain⟨bs,e1,e2,e3⟩:=Q14 (H:=H) (S:=S) (g:=BlkD.cells) (P:=fun y=>y.ins.length≤1200∧y.phis.length≤1200) RW fun r hr=>by
  obtain⟨x,hx,he⟩:=Qa5v hr
  have hxn:x<n:=by omega
  obtain⟨hl,hq,hd,hok,hyo,hpl,hil⟩:=c.get hxn
  obtain⟨RW',j,on,g1,g2,_,g4,_,_⟩:=Qa5t hs c hxn hl rfl
  rw[h1]at g1
  cases g1
  rw[g4]at he
  subst he
  have hsx:∀p∈os[x].lg,SimO (Z p.1) p.2 (H p.1)∧S p.1=true:=fun p hp=>⟨t p (LGo.of hl hp),hS p (LGo.of hl hp)⟩
  obtain⟨ps,p1,p2⟩:=Qa74 (H:=H) (S:=S) (Z:=Z) hok (c.ow _ (List.getElem_mem hl)) fun p hp=>hsx p (OBlk.phM hp)
  obtain⟨is,i1,i2⟩:=Qbbz (H:=H) (S:=S) (Z:=Z) hok fun p hp=>hsx p (OBlk.inM hp)
  have hnx:=hsx _ os[x].nxM
  obtain⟨ns',_,n2⟩:=Qaeb hnx.1 hnx.2 rfl
  exact⟨⟨ps,is,j,on,ns'⟩,.cons p1 (.cons i1 (.cons (Qg rfl) (.cons (Qg rfl) (.cons n2 .nil)))),by show is.length≤_;omega,by show ps.length≤_;omega⟩
 exact⟨bs,e1.vsl (hS _ LGo.zbm) h1 (by omega),by omega,e3⟩
set_option maxHeartbeats 8000000 in
theorem Qarb {q:CodeD} (ho:q.ok) (hpar:0≤q.params) (hpr:q.params≤q.regs) (h9:∀y∈q.blocks,y.ins.length≤900∧y.phis.length≤900) (hK:∀(d:CodeD) H',d.fits→Upd H H' []→K (.ag d.cells) H') :
  Qw prog Qk7 [.ag [.int .i64 q.params,.int .i64 q.regs,.sl false 5 (Ql q.blocks)]] H K:=by
 refine Qz ?_
 refine Qb Qat Qarl ?_
 refine Qa ?_
 simp only[go_sem]
 intro x2 hx2 H1 h1
 have kn:=(Kn.start0 H).al hx2 h1
 refine Qa ?_
 simp only[go_sem]
 refine Qaz8 ho hpar h9 fun d1 H2 hd1 hp1 hr1 h9d hu=>?_
 have kn:=kn.call0 hu
 simp only[go_sem,Qo6,CodeD.cells]
 refine Qa4a hd1 h9d fun d2 H3 hd2 hp2 hr2 hu=>?_
 have kn:=kn.call0 hu
 have hp:d2.params=q.params:=hp2.trans hp1
 have hr:d2.regs=q.regs:=hr2.trans hr1
 simp only[go_sem,Qo5,CodeD.cells]
 intro x3 hx3 H4 h4
 have kn:=kn.al hx3 h4
 have hx3:=kn.l 1 rfl
 simp only[go_sem,Qo4,hx3]
 intro H5 h5
 have kn:Kn H H5 [] [(x2,.st [.int .i64 0,.int .i64 0,.sl true 5 []]),(x3,.st [.int .i64 d2.params,.int .i64 d2.regs,.sl false 5 (Ql d2.blocks)])]:=kn.stL 1 rfl h5
 have hx3:=kn.l 1 rfl
 have hb0:=hd2.b0
 have hb1:=hd2.b1
 have hrr0:=hd2.r0
 have hrr1:=hd2.r1
 refine Qal ?_
 simp only[go_sem,hx3]
 refine Qaev hd2.sg fun o H6 k2 hok hod how=>?_
 have kn:=kn.comp0 k2
 obtain⟨n,hn⟩:∃n,d2.blocks.length=n:=⟨_,rfl⟩
 have hol:o.blocks.length=n:=by rw[←hn,←hod];simp[OCode.d]
 obtain⟨zb,hbc,hbl⟩:∃z,o.bc=.vsl z 5 0 n∧o.bl=[(z,.vec 5 (o.blocks.map OBlk.row))]:=by
  rcases hok.b with ⟨_,h,_⟩|⟨y,h1,h2⟩
  ·have:=congrArg List.length h;simp only[List.length_map,List.length_nil]at this;omega
  ·exact⟨y,by rw[h1,List.length_map,hol],h2⟩
 have hrow:o.row=[.int .i64 d2.params,.int .i64 d2.regs,.vsl zb 5 0 n]:=by
  rw[OCode.row,hbc,←hod];rfl
 have hlg:o.lg=LGo o.blocks zb:=by rw[OCode.lg,hbl];rfl
 have hos:o.blocks.map OBlk.d=d2.blocks:=by rw[←hod];rfl
 have hobs:=hok.bs
 rw[hlg]at kn
 have hx3:=kn.l 1 rfl
 simp only[go_sem,Qpa,hx3]
 refine Qaja (rows:=Ql d2.blocks) (nx:=gnx d2) (Qaq7 hd2.gd) (by rw[Qj];exact hd2.fitB) fun H7 hu=>?_
 have kn:=kn.call0 hu
 have hx3:=kn.l 1 rfl
 rw[Qj,hn]
 simp only[go_sem,Qo9,hx3]
 refine Qaz7 (by omega) (by omega) fun ids H8 htree hu=>?_
 have kn:=kn.call0 hu
 have hx3:=kn.l 1 rfl
 rw[hrow]
 simp only[go_sem,Qo8,hx3]
 intro x4 hx4 H9 h9'
 have kn:=kn.al hx4 h9'
 have hx3:=kn.l 1 rfl
 simp only[go_sem,Qo7]
 obtain⟨R,hR⟩:∃R:Nat,d2.regs.toNat=R:=⟨_,rfl⟩
 have hRq:d2.regs=(R:Int):=by omega
 refine Qa ?_
 simp only[go_sem,hx3]
 refine⟨by omega,by simp only[LIM];omega,fun cy hcy H10 h10=>?_⟩
 rw[Qrs,hR]at h10
 have kn:=kn.al hcy h10
 simp only[go_sem,Qpb,hR]
 refine Q3 ?_
 refine Qa ?_
 simp only[go_sem]
 generalize hos0:o.blocks=os at *
 have kn:Kn H H10 [] ([(cy,.vec 1 (Qf (List.replicate R 0)))]++([(x2,.st [.int .i64 0,.int .i64 0,.sl true 5 []]),(x3,.st [.int .i64 d2.params,.int .i64 d2.regs,.sl false 5 (Ql d2.blocks)])]++([(x4,wO d2 ids zb n q.params)]++LGo os zb))):=kn.perm (Qr fun f hf h0 hc hp=>by
  have e2:∀(a b:Nat×Obj),f [a,b]=f [a]+f [b]:=fun a b=>hc a [b]
  simp only[hf,e2,wO];omega)
 refine Qh (Qc (Qu (fun m e1 H1=>∃(r:Nat) (cs:List Int),m=q.params.toNat-r∧(r:Int)≤q.params∧cs.length=R∧
  Kn H H1 [] ([(cy,.vec 1 (Qf cs))]++([(x2,.st [.int .i64 0,.int .i64 0,.sl true 5 []]),(x3,.st [.int .i64 d2.params,.int .i64 d2.regs,.sl false 5 (Ql d2.blocks)])]++([(x4,wO d2 ids zb n q.params)]++LGo os zb)))∧
  lk 1 e1=.c (.pp [.int .i64 q.params,.int .i64 q.regs,.sl false 5 (Ql q.blocks)])∧lk 2 e1=.c (.ptr x2 0)∧lk 4 e1=.c (.ptr x4 0)∧lk 5 e1=.c (.vsl cy 1 0 R)∧lk 6 e1=.c (.int .i64 r)) q.params.toNat ?_ ?_))
 ·exact⟨0,List.replicate R 0,by omega,hpar,by simp,kn,rfl,rfl,rfl,rfl,rfl⟩
 ·clear kn h10
  rintro m e1 H11 ⟨r,cs,hm,hrp,hcl,kn,l1,l2,l4,l5,l6⟩
  refine Q3 ?_
  refine Qa ?_
  simp only[go_sem,l1,l2,l4,l5,l6]
  refine Qh (Qd rfl ?_ ?_)
  ·intro hc
   have hlt:(r:Int)<q.params:=by simpa using hc
   have hrR:r<R:=by omega
   have hrc:r<cs.length:=by omega
   have hcu:=kn.l 0 rfl
   have hct:(Qf cs).take R=Qf cs:=List.take_of_length_le (by rw[Qe];omega)
   refine Qi ?_
   try simp only[go_sem]
   refine Qh (Qc ?_)
   refine Qq ?_
   simp only[go_sem,hcu,hct,Qe,hcl,hrR,Qs _ _ hrc,Qcg,Nat.zero_add,Nat.le_refl]
   intro H12 h12
   have kn:=kn.stL 0 rfl h12
   refine Qq ?_
   simp only[go_sem]
   refine⟨Qo (by omega) (by omega),?_⟩
   show ∃m,_
   exact⟨q.params.toNat-(r+1),by omega,r+1,_,rfl,by omega,by rw[List.length_set];exact hcl,kn,rfl,rfl,rfl,rfl,by simp[lk]⟩
  ·intro hc
   refine Qt ?_
   simp only[go_sem,X.next]
   have hC:NC d2 os zb R n ids:=⟨hd2,hn,hR,hol,fun x h h'=>by
    have h1:(os.map OBlk.d)[x]? = some os[x].d:=by simp[h]
    rw[hos,List.getElem?_eq_getElem h']at h1
    exact (Option.some.inj h1).symm,hobs,how,htree⟩
   have kn:Kn H H11 [] ((([(x4,wO d2 ids zb n q.params),(cy,.vec 1 (Qf cs))])++LGo os zb)++[(x2,.st [.int .i64 0,.int .i64 0,.sl true 5 []]),(x3,.st [.int .i64 d2.params,.int .i64 d2.regs,.sl false 5 (Ql d2.blocks)])]):=kn.perm (Qr fun f hf h0 hc hp=>by
    have e2:∀(a b:Nat×Obj),f [a,b]=f [a]+f [b]:=fun a b=>hc a [b]
    simp only[hf,e2];omega)
   have hw0:wgt os=wgt os:=rfl
   have hwb:∀x,wgt os x≤2400:=fun x=>by
    rw[wgt]
    cases hx:os[x]? with
    |none=>simp
    |some o'=>
     obtain⟨hxl,hxo⟩:=List.getElem?_eq_some_iff.1 hx
     have hxn:x<n:=by omega
     obtain⟨_,_,_,_,_,a1,a2⟩:=hC.get hxn
     rw[hxo]at a1 a2
     show o'.phis.length+o'.ins.length≤2400
     omega
   have hpb:=Qa92 (N:=n) hwb (fun _=>True)
   have hst:NSt d2 os zb n R x4 cy ids H11 q.params cs (XU os zb fun _=>True) H11:=⟨Qbba (LGo.vec hobs how) kn.mid,hcl⟩
   refine Qa ?_
   simp only[go_sem,l1,l2,l4,l5,l6]
   refine Qbdf hC (2 ^ 40) (Int.le_refl _) (n+1) 0 (fun _=>True) q.params cs cy H11 _ (by omega) (by omega) (fun _ _=>trivial) hst (by omega) (by
    have:n * 2400≤160 * 2400:=Nat.mul_le_mul_right _ (by omega)
    omega) fun nx' cs' H12 s2 hn0 hpot=>?_
   obtain⟨t2,hcl2⟩:=s2
   have hwx:=Ty.e t2 0 rfl
   have ht2:=t2
   obtain⟨E1,g1,g2,k3⟩:=t2
   have kn:=kn.comp k3 (by simp[g1])
   have kn:Kn H H12 [] ([(x4,wO d2 ids zb n nx'),(x2,.st [.int .i64 0,.int .i64 0,.sl true 5 []])]++([(x3,.st [.int .i64 d2.params,.int .i64 d2.regs,.sl false 5 (Ql d2.blocks)])]++([(cy,.vec 1 (Qf cs'))]++E1))):=kn.perm (Qr fun f hf h0 hc hp=>by
    have e2:∀(a b:Nat×Obj),f [a,b]=f [a]+f [b]:=fun a b=>hc a [b]
    simp only[hf,h0,e2];omega)
   rw[wO]at hwx
   try simp only[go_sem,l2,l4]
   refine Qa ?_
   simp only[go_sem,l2,l4,hwx]
   intro H13 h13
   have kn:=kn.stL 0 rfl h13
   have hx4:=kn.l 0 rfl
   have hx2:=kn.l 1 rfl
   refine Qa ?_
   simp only[go_sem,hx4,hx2]
   intro H14 h14
   have kn:=kn.stL 1 rfl h14
   have hx2:=kn.l 1 rfl
   refine Qk ?_
   simp only[go_sem,Q6,Qad,Q3y,List.mem_singleton,forall_eq,RS.op,hx2]
   have hE:∀p∈E1,H14 p.1=p.2∧un H p.1=true:=fun p hp=>by
    have hm:p∈([(x4,Obj.st [.int .i64 d2.params,.int .i64 d2.regs,.sl false 5 (Ql d2.blocks),.int .i64 d2.params,.int .i64 nx',.vsl zb 5 0 n,.sl false 1 (Qf ids),.int .i64 nx']),(x2,.st [.int .i64 d2.params,.int .i64 nx',.vsl zb 5 0 n])]++([(x3,.st [.int .i64 d2.params,.int .i64 d2.regs,.sl false 5 (Ql d2.blocks)])]++([(cy,.vec 1 (Qf cs'))]++E1)):List (Nat×Obj)):=by
     simp[hp]
    exact⟨(kn.get p (List.mem_append_right _ hm)).1,Qd0 (kn.loc p hm)⟩
   have hty:TT d2 os zb n x4 cy ids H11 nx' cs' (XU os zb fun x=>True∧¬Sub ids 0 x) H12:=ht2
   have hH:∀p∈LGo os zb,H14 p.1=H12 p.1:=fun p hp=>by
    have h1:p.1∈E1.map Prod.fst:=by rw[g1];exact Qak hp
    obtain⟨p',hp',he⟩:=List.mem_map.1 h1
    rw[←he,(hE p' hp').1,(k3.get p' (List.mem_append_left _ (List.mem_append_right _ hp'))).1]
   have hS:∀p∈LGo os zb,un H p.1=true:=fun p hp=>by
    have h1:p.1∈E1.map Prod.fst:=by rw[g1];exact Qak hp
    obtain⟨p',hp',he⟩:=List.mem_map.1 h1
    rw[←he];exact (hE p' hp').2
   have hty2:∀p∈LGo os zb,SimO (XU os zb (fun x=>True∧¬Sub ids 0 x) p.1) p.2 (H14 p.1):=fun p hp=>by
    rw[hH p hp];exact Ty.get hty hp
   obtain⟨bs,b1,b2,b3⟩:=Qa73 (S:=un H) hC hty2 hS
   exact⟨_,FrzL.ag (.cons (Qg rfl) (.cons (Qg rfl) (.cons b1 .nil))),hK ⟨d2.params,nx',bs⟩ _ (fun y hy=>by have:=b3 y hy;exact⟨by omega,by omega⟩) kn.fin⟩
end Go.AE.Y

namespace Go.AE.Y
attribute [local go_sem] cond_true cond_false Bool.not_true Bool.not_false
attribute [local instance] Classical.propDecidable
open Go.Proofs.Tryz
variable {H H0:Heap} {K:V→Heap→Prop} {E B Lg:List (Nat×Obj)} {q:CodeD}
theorem Qa79 {S:Nat→Bool} (q:CodeD):FrzV H S (.ag q.cells) (.ag q.cells):=FrzL.ag (.cons (.same _ rfl) (.cons (.same _ rfl) (.cons (.same _ rfl) .nil)))
structure CodeD.sgl (q:CodeD):Prop where
 ok:q.ok
 p0:0≤q.params
 pr:q.params≤q.regs
 h9:∀y∈q.blocks,y.ins.length≤900∧y.phis.length≤900
theorem Qbbb {cs:List CodeD} (h:Qkx cs=true) {c:CodeD} (hc:c∈cs):c.sgl:=by
 obtain⟨k,hk,rfl⟩:=List.mem_iff_getElem.1 hc
 have ho:=Qa7z h hk
 obtain⟨_,h2,h3⟩:=of_decide_eq_true h
 obtain⟨g1,g2⟩:=h2 k hk
 simp only[Qp4,Bool.and_eq_true,decide_eq_true_eq]at g1
 refine⟨ho,by omega,by omega,fun y hy=>?_⟩
 have a1:=Q15 (f:=cntQ) (List.getElem_mem hk)
 have a2:=Q15 (f:=Qz5) hy
 simp only[cntQ,Qz5]at *
 omega
set_option maxHeartbeats 2000000 in
theorem Qa35 (hq:q.sgl) (hK:∀(d:CodeD) H',d.fits→Upd H H' []→K (.ag d.cells) H') :
  Qw prog Qum [.ag [.int .i64 q.params,.int .i64 q.regs,.sl false 5 (Ql q.blocks)],.c (.str [115,105,110,103,108,101])] H K:=by
 refine Qz ?_
 refine Qb Qat Qa4u ?_
 refine Qa ?_
 simp only[go_sem]
 intro x4 hx4 H1 h1
 have kn:=(Kn.start0 H).al hx4 h1
 refine Q3 ?_
 refine Qa ?_
 simp only[go_sem]
 refine Qh (Qc ?_)
 refine Qa ?_
 simp only[go_sem]
 refine Qd rfl (fun hc=>absurd hc (by decide)) (fun _=>?_)
 refine Qa ?_
 simp only[go_sem]
 refine Qd rfl (fun hc=>absurd hc (by decide)) (fun _=>?_)
 refine Qa ?_
 simp only[go_sem]
 refine Qd rfl (fun hc=>absurd hc (by decide)) (fun _=>?_)
 refine Qa ?_
 simp only[go_sem]
 refine Qd rfl (fun hc=>absurd hc (by decide)) (fun _=>?_)
 refine Qa ?_
 simp only[go_sem]
 refine Qd rfl (fun _=>?_) (fun hc=>absurd hc (by decide))
 refine Qa ?_
 simp only[go_sem]
 refine Qarb hq.ok hq.p0 hq.pr hq.h9 fun d H2 hd hu=>?_
 have kn:=kn.call0 hu
 have hx4:=kn.l 0 rfl
 simp only[go_sem,Qxp,CodeD.cells,hx4]
 intro H3 h3
 have kn:=kn.stL 0 rfl h3
 have hx4:=kn.l 0 rfl
 refine Qk ?_
 simp only[go_sem,X.next,Q6,Qad,Qaj0,List.mem_singleton,forall_eq,RS.op,hx4]
 exact⟨_,Qa79 d,hK d _ hd kn.fin⟩
set_option maxHeartbeats 4000000 in
theorem Qa33 {cs:List CodeD} {fl:Bool} (hfit:∀c∈cs,c.fits) (hK:∀(ds:List CodeD) (b:Bool) H',(b=true→UnitOk ds)→Upd H H' []→K (.tup [.ag [.sl false 3 (Qp ds)],.c (.bool b)]) H') :
  Qw prog Quk [.ag [.sl fl 3 (Qp cs)],.c (.str [115,105,110,103,108,101])] H K:=by
 refine Qz ?_
 refine Qb Qat Qa4r ?_
 refine Qa ?_
 simp only[go_sem]
 intro x4 hx4 H1 h1
 have kn:=(Kn.start0 H).al hx4 h1
 simp only[go_sem,Qxc]
 refine Q3 ?_
 refine Qa ?_
 simp only[go_sem]
 refine Qfz hfit fun H2 hu=>?_
 have kn:=kn.call0 hu
 simp only[go_sem,Qxd]
 refine Qh (Qd rfl ?_ ?_)
 ·intro _
  have hx4:=kn.l 0 rfl
  refine Qa ?_
  simp only[go_sem,hx4]
  intro H3 h3
  have kn:=kn.stL 0 rfl h3
  have hx4:=kn.l 0 rfl
  simp only[go_sem,Qxe]
  refine Qk ?_
  simp only[go_sem,X.next,Q6,Qad,Qr2,List.forall_mem_cons,List.not_mem_nil,RS.op,hx4]
  refine⟨fun _=>trivial,_,Q24 (FrzL.ag (.cons (FrzR.nil.sl) .nil)) (.c _ _ (Qg rfl)),hK [] false _ (fun h=>by simp at h) kn.fin⟩
 ·intro hc
  have hG:Qkx cs=true:=Qeg hc
  refine Qi ?_
  try simp only[go_sem]
  refine Qa ?_
  simp only[go_sem]
  intro x6 hx6 H3 h3
  have kn:=kn.al hx6 h3
  have hx6:=kn.l 1 rfl
  simp only[go_sem,Qxf,hx6]
  intro H4 h4
  have kn:Kn H H4 [] [(x4,.st [.sl true 3 []]),(x6,.st [.sl true 3 []])]:=kn.stL 1 rfl h4
  refine Q3 ?_
  refine Qa ?_
  simp only[go_sem]
  have hcl:=(Qaim hfit hG).1
  refine Qh (Qc (Qu (fun m e1 H1=>∃(ds:List CodeD) (t:C) (Lg:List (Nat×Obj)),m=cs.length-ds.length∧ds.length≤cs.length∧(∀d∈ds,d.fits)∧Gr Lg 3 (Qp ds) t∧Kn H H1 [] ([(x4,.st [.sl true 3 []]),(x6,.st [t])]++Lg)∧
   lk 1 e1=.c (.str [115,105,110,103,108,101])∧lk 2 e1=.c (.pp [.sl fl 3 (Qp cs)])∧lk 4 e1=.c (.ptr x4 0)∧lk 6 e1=.c (.ptr x6 0)∧lk 7 e1=.c (.int .i64 ds.length)) cs.length ?_ ?_))
  ·exact⟨[],_,[],by simp,by simp,by simp,.nil 3,by simpa using kn,rfl,rfl,rfl,rfl,rfl⟩
  ·clear kn hx6
   rintro m e1 H5 ⟨ds,t,Lg,hm,hdl,hds,hgr,kn,l1,l2,l4,l6,l7⟩
   have htw:=hgr.isOw
   refine Q3 ?_
   refine Qa ?_
   simp only[go_sem,l1,l2,l4,l6,l7,Q4]
   try intro _
   refine Qh (Qd rfl ?_ ?_)
   ·intro hc2
    have hlt:ds.length<cs.length:=by simpa using hc2
    have hx6:=kn.l 1 rfl
    obtain⟨q,hq⟩:∃q,cs[ds.length]=q:=⟨_,rfl⟩
    have hqs:q.sgl:=Qbbb hG (by rw[←hq];exact List.getElem_mem hlt)
    refine Qi ?_
    try simp only[go_sem]
    refine Qh (Qc ?_)
    refine Qa9 ?_
    simp only[go_sem,l1,l2,l4,l6,l7,hx6,htw,hlt,Q4,Qaj _ _ hlt,CodeD.cells,hq]
    refine Qa35 hqs fun d H6 hd hu=>?_
    have kn:=kn.call0 hu
    have hx6:=kn.l 1 rfl
    simp only[go_sem,Qxh,CodeD.cells,hx6,htw]
    refine kn.growR (new:=Qp [d]) hgr (.mk' _ _ _ _) (Qbz _) (by simp only[Q4,LIM,List.length_cons,List.length_nil];omega) fun t2 Lg2 H7 hgr2 ht2 kn=>?_
    have hx6:=kn.l 1 rfl
    simp only[go_sem,Qxg,hx6,ht2]
    intro H8 h8
    have kn:=kn.stL 1 rfl h8
    refine Qq ?_
    simp only[go_sem,l1,l2,l4,l6,l7]
    refine⟨Qo (by omega) (by omega),?_⟩
    show ∃m,_
    refine⟨cs.length-(ds.length+1),by omega,ds++[d],t2,Lg2,by simp,by simp only[List.length_append,List.length_cons,List.length_nil];omega,fun w hw=>?_,?_,kn,rfl,rfl,rfl,rfl,by simp[lk]⟩
    ·rcases List.mem_append.1 hw with hw|hw
     ·exact hds w hw
     ·simp only[List.mem_singleton]at hw;rw[hw];exact hd
    ·have:Qp (ds++[d])=Qp ds++Qp [d]:=by simp[Qp]
     rw[this];exact hgr2
   ·intro _
    refine Qt ?_
    simp only[go_sem,X.next]
    have hx6:=kn.l 1 rfl
    obtain⟨S,hSL,hSB,hfz,kn⟩:=kn.freeze0
    have hx6b:=hSB (x6,.st [t]) (by simp)
    have hft:FrzC H5 S t (.sl false 3 (Qp ds)):=Gr.frzM hgr hSL (FrzR.same (Qbz _))
    have kn:=kn.setL (o':=.st [.sl false 3 (Qp ds)]) 1 rfl (by simp)
    refine c_gh (Qe2 S (Qaq3 ?_) (hfz.set (o:=.st [.sl false 3 (Qp ds)]) hx6b.2 (by rw[hx6b.1];exact FrzKL.st (.cons htw hft .nil)))) (e':=[(4,.c (.ptr x4 0)),(6,.c (.ptr x6 0))]) ?_
    ·simp only[List.forall_mem_cons]
     exact⟨.c _ _ (.same _ rfl),.c _ _ (.same _ rfl),by simp⟩
    generalize (H5.frz S).set x6 (Obj.st [C.sl false 3 (Qp ds)])=H6 at *
    have hx6:=kn.l 1 rfl
    have hx4:=kn.l 0 rfl
    clear hfz hx6b hft hSL hSB
    refine Q3 ?_
    refine Qa ?_
    simp only[go_sem,hx6]
    refine Qfz hds fun H7 hu=>?_
    have kn:=kn.call0 hu
    have hx6:=kn.l 1 rfl
    have hx4:=kn.l 0 rfl
    simp only[go_sem,Qsr]
    refine Qh (Qd rfl ?_ ?_)
    ·intro _
     refine Qa ?_
     simp only[go_sem,hx4]
     intro H8 h8
     have kn:=kn.stL 0 rfl h8
     have hx4:=kn.l 0 rfl
     simp only[go_sem,Qss]
     refine Qk ?_
     simp only[go_sem,X.next,Q6,Qad,Qr2,List.forall_mem_cons,List.not_mem_nil,RS.op,hx4]
     refine⟨fun _=>trivial,_,Q24 (FrzL.ag (.cons (FrzR.nil.sl) .nil)) (.c _ _ (Qg rfl)),hK [] false _ (fun h=>by simp at h) kn.fin⟩
    ·intro hc3
     have hG2:Qkx ds=true:=Qeg hc3
     refine Qi ?_
     try simp only[go_sem]
     refine Qa ?_
     simp only[go_sem,hx6,hx4]
     intro H8 h8
     have kn:=kn.stL 0 rfl h8
     have hx4:=kn.l 0 rfl
     simp only[go_sem,Qst]
     refine Qk ?_
     simp only[go_sem,X.next,Q6,Qad,Qr2,List.forall_mem_cons,List.not_mem_nil,RS.op,hx4]
     obtain⟨u1,u2,u3⟩:=Qaim hds hG2
     refine⟨fun _=>trivial,_,Q24 (Qd8 ds) (.c _ _ (Qg rfl)),hK ds true _ (fun _=>⟨u2,u1,u3⟩) kn.fin⟩
theorem Qaiq {cs:List CodeD} {fl:Bool} (hfit:∀c∈cs,c.fits) (hK:∀(ds:List CodeD) (b:Bool) H',(b=true→UnitOk ds)→Upd H H' []→K (.tup [.ag [.sl false 3 (Qp ds)],.c (.bool b)]) H') :
  Qw prog Qef [.ag [.sl fl 3 (Qp cs)]] H K:=by
 refine Qz ?_
 refine Qb Qat Q3g ?_
 refine Qa ?_
 simp only[go_sem]
 intro x2 hx2 H1 h1
 have kn:=(Kn.start0 H).al hx2 h1
 simp only[go_sem,Qgp]
 refine Qa ?_
 simp only[go_sem]
 refine Qa33 hfit fun ds b H2 hb hu=>?_
 have kn:=kn.call0 hu
 have hx2:=kn.l 0 rfl
 simp only[go_sem,Qgr,List.getD_cons_zero,List.getD_cons_succ,hx2]
 intro H3 h3
 have kn:=kn.stL 0 rfl h3
 have hx2:=kn.l 0 rfl
 simp only[go_sem,Qgq]
 refine Qk ?_
 simp only[go_sem,Q6,Qad,Qlp,List.forall_mem_cons,List.not_mem_nil,RS.op,hx2]
 exact⟨fun _=>trivial,_,Q24 (Qd8 ds) (.c _ _ (Qg rfl)),hK ds b _ hb kn.fin⟩
def oneU:List CodeD:=[⟨0,1,[⟨[],[⟨1,0,[],0⟩],3,0,[]⟩]⟩]
theorem Qbdh:UnitOk oneU:=by
 refine⟨by simp[oneU],by simp[oneU],fun c hc=>?_⟩
 simp only[oneU,List.mem_singleton]at hc
 subst hc
 refine⟨by simp,by simp,fun y hy=>?_,fun y hy=>?_⟩
 ·simp only[List.mem_singleton]at hy;subst hy;simp
 ·simp only[List.mem_singleton]at hy;subst hy;simp
theorem Qa90 {S:Nat→Bool}:FrzC H S (.sl true 3 [[.int .i64 0,.int .i64 1,.sl true 5 [[.sl true 2 [],.sl true 4 [[.int .i64 1,.int .i64 0,.sl true 1 [],.int .i64 0]],.int .i64 3,.int .i64 0,.sl true 1 []]]]]) (.sl false 3 (Qp oneU)):=
 FrzR.sl (.cons (.cons (Qg rfl) (.cons (Qg rfl) (.cons (FrzR.sl (.cons (.cons FrzR.nil.sl (.cons (FrzR.sl (.cons (.cons (Qg rfl) (.cons (Qg rfl) (.cons FrzR.nil.sl (.cons (Qg rfl) .nil)))) .nil)) (.cons (Qg rfl) (.cons (Qg rfl) (.cons FrzR.nil.sl .nil))))) .nil)) .nil))) .nil)
theorem Qa39 {R:Rdr} {k:Nat} (hH:H R.l=R.o k) (hk:k+7100000≤2^30)
  (hK:∀(cs:List CodeD) (H':Heap) (k':Nat),k<k'→k'≤k+7050000→Upd H H' [(R.l,R.o k')]→UnitOk cs→K (.ag [.sl false 3 (Qp cs)]) H') :
  Qw prog Quq [.c (.ptr R.l 0)] H K:=by
 refine Qz ?_
 refine Qb Qat Qa41 ?_
 refine Qa ?_
 simp only[go_sem]
 intro x2 hx2 H1 h1
 have kn:=(Kn.start1 hH (R.o_ne k)).al hx2 h1
 refine Qa ?_
 simp only[go_sem]
 refine Qai9 (kn.e 0 rfl) (by omega) fun cs H3 k2 hk3 hk4 hu hok=>?_
 have kn:=kn.callE 0 rfl hu (R.o_ne _)
 simp only[go_sem,Qyf]
 refine Qaiq hok.fits fun ds b H4 hb hu=>?_
 have kn:=kn.call0 hu
 simp only[go_sem,Qye,List.getD_cons_zero,List.getD_cons_succ]
 intro x3 hx3 H5 h5
 have kn:=kn.al hx3 h5
 have hx3:=kn.l 1 rfl
 simp only[go_sem,Qyd,hx3]
 intro H6 h6
 have kn:=kn.stL 1 rfl h6
 have hx2:=kn.l 0 rfl
 have hx3:=kn.l 1 rfl
 simp only[go_sem,Qyc]
 refine Q3 ?_
 refine Qa ?_
 simp only[go_sem]
 refine Qh (Qd rfl ?_ ?_)
 ·intro _
  refine Qa ?_
  simp only[go_sem,hx2]
  intro H7 h7
  have kn:=kn.stL 0 rfl h7
  have hx2:=kn.l 0 rfl
  refine Qk ?_
  simp only[go_sem,X.next,Q6,Qad,Q3x,List.mem_singleton,forall_eq,RS.op,hx2]
  exact⟨_,FrzL.ag (.cons Qa90 .nil),hK oneU _ k2 hk3 hk4 kn.fin Qbdh⟩
 ·intro hc
  have hbt:b=true:=Qeg hc
  refine Qi ?_
  try simp only[go_sem]
  refine Qa ?_
  simp only[go_sem,hx2,hx3]
  intro H7 h7
  have kn:=kn.stL 0 rfl h7
  have hx2:=kn.l 0 rfl
  refine Qk ?_
  simp only[go_sem,Q6,Qad,Q3x,List.mem_singleton,forall_eq,RS.op,hx2]
  exact⟨_,Qd8 ds,hK ds _ k2 hk3 hk4 kn.fin (hb hbt)⟩
theorem Qa38 {R:Rdr} {k:Nat} (hH:H R.l=R.o k) (hk:k+7300000≤2^30)
  (hK:∀(cs:List CodeD) (H':Heap) (k':Nat),k<k'→k'≤k+7150000→Upd H H' [(R.l,R.o k')]→UnitOk cs→K (.ag [.sl false 3 (Qp cs)]) H') :
  Qw prog Qup [.c (.ptr R.l 0)] H K:=by
 refine Qz ?_
 refine Qb Qat Qa40 ?_
 refine Qa ?_
 simp only[go_sem]
 intro x2 hx2 H1 h1
 have kn:=(Kn.start1 hH (R.o_ne k)).al hx2 h1
 refine Q3 ?_
 refine Qa ?_
 simp only[go_sem]
 refine Qa5 (kn.e 0 rfl) (by omega) fun v H2 hv hu=>?_
 have kn:=kn.callE 0 rfl hu (R.o_ne _)
 simp only[go_sem,Qx9]
 refine Qh (Qd rfl ?_ ?_)
 ·intro hc
  refine Qa ?_
  simp only[go_sem]
  refine Q27 (kn.e 0 rfl) (by omega) fun cs H3 k2 hk3 hk4 hu hok=>?_
  have kn:=kn.callE 0 rfl hu (R.o_ne _)
  have hx2:=kn.l 0 rfl
  simp only[go_sem,Qya,hx2]
  intro H4 h4
  have kn:=kn.stL 0 rfl h4
  have hx2:=kn.l 0 rfl
  refine Qk ?_
  simp only[go_sem,X.next,Q6,Qad,Q3w,List.mem_singleton,forall_eq,RS.op,hx2]
  exact⟨_,Qd8 cs,hK cs _ k2 (by omega) (by omega) kn.fin hok⟩
 ·intro hc
  refine Qi ?_
  try simp only[go_sem]
  refine Qa ?_
  simp only[go_sem]
  refine Qa39 (kn.e 0 rfl) (by omega) fun cs H3 k2 hk3 hk4 hu hok=>?_
  have kn:=kn.callE 0 rfl hu (R.o_ne _)
  have hx2:=kn.l 0 rfl
  simp only[go_sem,Qyb,hx2]
  intro H4 h4
  have kn:=kn.stL 0 rfl h4
  have hx2:=kn.l 0 rfl
  refine Qk ?_
  simp only[go_sem,Q6,Qad,Q3w,List.mem_singleton,forall_eq,RS.op,hx2]
  exact⟨_,Qd8 cs,hK cs _ k2 (by omega) (by omega) kn.fin hok⟩
theorem Qarc {R:Rdr} {k:Nat} (hH:H R.l=R.o k) (hk:k+7400000≤2^30)
  (hK:∀(cs:List CodeD) (H':Heap) (k':Nat),k<k'→k'≤k+7200000→Upd H H' [(R.l,R.o k')]→UnitOk cs→K (.ag [.sl false 3 (Qp cs)]) H') :
  Qw prog Qk8 [.c (.ptr R.l 0)] H K:=by
 refine Qz ?_
 refine Qb Qat Qarm ?_
 refine Qa ?_
 simp only[go_sem]
 intro x2 hx2 H1 h1
 have kn:=(Kn.start1 hH (R.o_ne k)).al hx2 h1
 refine Q3 ?_
 refine Qa ?_
 simp only[go_sem]
 refine Qa5 (kn.e 0 rfl) (by omega) fun v H2 hv hu=>?_
 have kn:=kn.callE 0 rfl hu (R.o_ne _)
 simp only[go_sem,Qpc]
 refine Qh (Qd rfl ?_ ?_)
 ·intro hc
  refine Qa ?_
  simp only[go_sem]
  refine Qa38 (kn.e 0 rfl) (by omega) fun cs H3 k2 hk3 hk4 hu hok=>?_
  have kn:=kn.callE 0 rfl hu (R.o_ne _)
  have hx2:=kn.l 0 rfl
  simp only[go_sem,Qpd,hx2]
  intro H4 h4
  have kn:=kn.stL 0 rfl h4
  have hx2:=kn.l 0 rfl
  refine Qk ?_
  simp only[go_sem,X.next,Q6,Qad,Qp7,List.mem_singleton,forall_eq,RS.op,hx2]
  exact⟨_,Qd8 cs,hK cs _ k2 (by omega) (by omega) kn.fin hok⟩
 ·intro hc
  refine Qi ?_
  try simp only[go_sem]
  refine Qa ?_
  simp only[go_sem]
  refine Q27 (kn.e 0 rfl) (by omega) fun cs H3 k2 hk3 hk4 hu hok=>?_
  have kn:=kn.callE 0 rfl hu (R.o_ne _)
  have hx2:=kn.l 0 rfl
  simp only[go_sem,Qpe,hx2]
  intro H4 h4
  have kn:=kn.stL 0 rfl h4
  have hx2:=kn.l 0 rfl
  refine Qk ?_
  simp only[go_sem,Q6,Qad,Qp7,List.mem_singleton,forall_eq,RS.op,hx2]
  exact⟨_,Qd8 cs,hK cs _ k2 (by omega) (by omega) kn.fin hok⟩
end Go.AE.Y

namespace Go.AE.Y
attribute [local go_sem] cond_true cond_false Bool.not_true Bool.not_false
attribute [local instance] Classical.propDecidable
open Go.Proofs.Tryz
variable {H H0:Heap} {K:V→Heap→Prop} {E B Lg:List (Nat×Obj)} {q:CodeD}
def caI (q:CodeD) (b j:Nat):List Plc:=((List.range j).filter fun i=>decide ((((Qbf q b).ins[i]?).map InsD.op).getD 0=14)).map fun (i:Nat)=>((b:Int),(i:Int))
def Q2h (q:CodeD) (b:Nat):List Plc:=(List.range b).flatMap fun b=>caI q b (Qbf q b).ins.length
def caL (q:CodeD):List Plc:=Q2h q q.blocks.length
theorem Qayg {b j:Nat} (h:j<(Qbf q b).ins.length):caI q b (j+1)=caI q b j++if (Qbf q b).ins[j].op=14 then [((b:Int),(j:Int))]else []:=by
 rw[caI,caI,List.range_succ,List.filter_append,List.map_append]
 congr 1
 have e:(((Qbf q b).ins[j]?).map InsD.op).getD 0=(Qbf q b).ins[j].op:=by simp[h]
 by_cases hc:(Qbf q b).ins[j].op=14
 ·rw[if_pos hc];simp[e,hc]
 ·rw[if_neg hc];simp[e,hc]
theorem Qk0 {b:Nat}:Q2h q (b+1)=Q2h q b++caI q b (Qbf q b).ins.length:=by simp[Q2h,List.range_succ]
noncomputable def Qf2 (cs:List CodeD) (k:Int):List Plc:=if Q9e cs k=true then match cs[k.toNat]? with
 |some q=>caL q
 |none=>[]else []
theorem Qaec {b j:Nat}:(caI q b j).length≤j:=by
 rw[caI,List.length_map]
 exact Nat.le_trans (List.length_filter_le _ _) (by simp)
set_option maxHeartbeats 4000000 in
theorem Qpu {cs:List CodeD} {fl:Bool} {k:Int} (hfit:∀c∈cs,c.fits) (hK:∀(H':Heap),Upd H H' []→K (.c (.sl false 1 (Qbp (Qf2 cs k)))) H') :
  Qw prog Qct [.ag [.sl fl 3 (Qp cs)],.c (.int .i64 k)] H K:=by
 refine Qz ?_
 refine Qb Qat Q3f ?_
 refine Qa ?_
 simp only[go_sem]
 refine Qa ?_
 simp only[go_sem]
 refine Q3 ?_
 refine Qa ?_
 simp only[go_sem]
 refine Qa81 hfit fun H1 hu=>?_
 have kn:=(Kn.start0 H).call0 hu
 simp only[go_sem,Qgm]
 refine Qh (Qd rfl ?_ ?_)
 ·intro hc
  have hg:Q9e cs k=false:=Qrw hc
  refine Qa ?_
  simp only[go_sem]
  refine Qk ?_
  simp only[go_sem,X.next,Q6,Qad,Qfm,List.mem_singleton,forall_eq,RS.op]
  have e:Qf2 cs k=[]:=by rw[Qf2,hg];simp
  have:=hK _ kn.fin
  rw[e]at this
  exact⟨_,.c _ _ FrzR.nil.sl,this⟩
 ·intro hc
  have hg:Q9e cs k=true:=Qeg hc
  obtain⟨m,hm,rfl,ho⟩:=Qrr hg
  obtain⟨q,hq⟩:∃q,cs[m]=q:=⟨_,rfl⟩
  rw[hq]at ho
  have e:Qf2 cs (m:Int)=caL q:=by
   rw[Qf2,if_pos hg]
   simp[hm,hq]
  have hb1:=ho.b1
  refine Qi ?_
  try simp only[go_sem]
  refine Qa ?_
  simp only[go_sem,hm,Q4,Qaj _ _ hm,CodeD.cells,hq]
  intro x6 hx6 H2 h2
  have kn:=kn.al hx6 h2
  have hx6:=kn.l 0 rfl
  simp only[go_sem,Qgn,hx6]
  intro H3 h3
  have kn:Kn H H3 [] ([(x6,.st [.int .i64 q.params,.int .i64 q.regs,.sl false 5 (Ql q.blocks)])]++[]):=kn.stL 0 rfl h3
  refine Q3 ?_
  refine Qa ?_
  simp only[go_sem]
  refine Qh (Qc (Qu (fun m2 e1 H1=>∃(b:Nat) (t:C) (Lg:List (Nat×Obj)),m2=q.blocks.length-b∧b≤q.blocks.length∧(Q2h q b).length≤b * 1200∧Gr Lg 1 (Qbp (Q2h q b)) t∧Kn H H1 [] ([(x6,.st [.int .i64 q.params,.int .i64 q.regs,.sl false 5 (Ql q.blocks)])]++Lg)∧
   lk 5 e1=.c t∧lk 6 e1=.c (.ptr x6 0)∧lk 7 e1=.c (.int .i64 b)) q.blocks.length ?_ ?_))
  ·exact⟨0,_,[],by omega,by omega,by simp[Q2h],.nil 1,kn,rfl,rfl,rfl⟩
  ·clear kn hx6
   rintro m2 e1 H4 ⟨b,t,Lg,hm2,hb,hcl,hgr,kn,l5,l6,l7⟩
   have htw:=hgr.isOw
   have hx6:=kn.l 0 rfl
   refine Q3 ?_
   refine Qa ?_
   simp only[go_sem,l5,l6,l7,hx6,htw,Qj]
   try intro _
   refine Qh (Qd rfl ?_ ?_)
   ·intro hc2
    have hlt:b<q.blocks.length:=by simpa using hc2
    obtain⟨y,hy⟩:∃y,q.blocks[b]=y:=⟨_,rfl⟩
    have hya:Qbf q b=y:=by rw[Qcd hlt,hy]
    have hil:=ho.il b hlt
    rw[hy]at hil
    refine Qi ?_
    try simp only[go_sem]
    refine Qh (Qc ?_)
    refine Qa ?_
    simp only[go_sem,htw]
    refine Qc (Qu (fun m3 e1 H1=>∃(j:Nat) (t:C) (Lg:List (Nat×Obj)),m3=y.ins.length-j∧j≤y.ins.length∧Gr Lg 1 (Qbp (Q2h q b++caI q b j)) t∧Kn H H1 [] ([(x6,.st [.int .i64 q.params,.int .i64 q.regs,.sl false 5 (Ql q.blocks)])]++Lg)∧
     lk 5 e1=.c t∧lk 6 e1=.c (.ptr x6 0)∧lk 7 e1=.c (.int .i64 b)∧lk 8 e1=.c (.int .i64 j)) y.ins.length ?_ ?_)
    ·exact⟨0,t,Lg,by omega,by omega,by simpa[caI]using hgr,kn,rfl,rfl,rfl,rfl⟩
    ·clear kn hx6 hgr htw l5 l6 l7
     rintro m3 e2 H5 ⟨j,t,Lg,hm3,hj,hgr,kn,l5,l6,l7,l8⟩
     have htw:=hgr.isOw
     have hx6:=kn.l 0 rfl
     refine Q3 ?_
     refine Qa ?_
     simp only[go_sem,l5,l6,l7,l8,hx6,htw,hlt,Qj,Q5 _ _ hlt,BlkD.cells,hy,Qam]
     try intro _
     refine Qh (Qd rfl ?_ ?_)
     ·intro hc3
      have hlt3:j<y.ins.length:=by simpa using hc3
      obtain⟨x,hx⟩:∃x,y.ins[j]=x:=⟨_,rfl⟩
      have hsucc:caI q b (j+1)=caI q b j++if x.op=14 then [((b:Int),(j:Int))]else []:=by
       have:=Qayg (q:=q) (b:=b) (j:=j) (by rw[hya];exact hlt3)
       simp only[hya,hx]at this
       exact this
      have hlen:=Qaec (q:=q) (b:=b) (j:=j)
      refine Qi ?_
      try simp only[go_sem]
      refine Qc6 (fun e2 H2=>∃(t:C) (Lg:List (Nat×Obj)),Gr Lg 1 (Qbp (Q2h q b++caI q b (j+1))) t∧Kn H H2 [] ([(x6,.st [.int .i64 q.params,.int .i64 q.regs,.sl false 5 (Ql q.blocks)])]++Lg)∧
       lk 5 e2=.c t∧lk 6 e2=.c (.ptr x6 0)∧lk 7 e2=.c (.int .i64 b)∧lk 8 e2=.c (.int .i64 j)) ?_ ?_
      ·intro Q hnr _ _
       refine Qc ?_
       refine Qa ?_
       simp only[go_sem,l5,l6,l7,l8,hx6,htw,hlt,Qj,Q5 _ _ hlt,BlkD.cells,hy,hlt3,Qam,Qbq _ _ hlt3,InsD.cells,hx]
       refine Qd rfl ?_ ?_
       ·intro hc4
        have h14:x.op=14:=by simpa using hc4
        refine Qq ?_
        simp only[go_sem,htw]
        refine kn.growR (new:=Qbp [((b:Int),(j:Int))]) hgr (.mk' _ _ _ _) (Qds _) (by
         simp only[Qbm,List.length_append,LIM,List.length_cons,List.length_nil]
         have:b * 1200≤160 * 1200:=Nat.mul_le_mul_right _ (by omega)
         omega) fun t2 Lg2 H6 hgr2 ht2 kn=>?_
        simp only[go_sem,Qgo,ht2]
        refine hnr _ _ ⟨t2,Lg2,?_,kn,rfl,rfl,rfl,rfl⟩
        rw[hsucc,if_pos h14,←List.append_assoc]
        have:Qbp (Q2h q b++caI q b j++[((b:Int),(j:Int))])=Qbp (Q2h q b++caI q b j)++Qbp [((b:Int),(j:Int))]:=by simp[Qbp]
        rw[this];exact hgr2
       ·intro hc4
        have h14:¬x.op=14:=by simpa using hc4
        refine Qi ?_
        try simp only[go_sem]
        refine hnr _ _ ⟨t,Lg,?_,kn,rfl,rfl,rfl,rfl⟩
        rw[hsucc,if_neg h14,List.append_nil];exact hgr
      ·rintro e3 H6 ⟨t,Lg,hgr,kn,l5,l6,l7,l8⟩
       have htw:=hgr.isOw
       refine Qq ?_
       simp only[go_sem,l5,l6,l7,l8,htw]
       refine⟨Qo (by omega) (by omega),?_⟩
       show ∃m,_
       exact⟨y.ins.length-(j+1),by omega,j+1,t,Lg,rfl,by omega,hgr,kn,rfl,rfl,rfl,rfl⟩
     ·intro hc3
      have hje:j=y.ins.length:=by have:y.ins.length≤j:=(by simpa using hc3);omega
      subst hje
      have hlen:=Qaec (q:=q) (b:=b) (j:=y.ins.length)
      refine Qt ?_
      simp only[go_sem,X.next]
      refine Qq ?_
      simp only[go_sem,l5,l6,l7,htw]
      refine⟨Qo (by omega) (by omega),?_⟩
      show ∃m,_
      refine⟨q.blocks.length-(b+1),by omega,b+1,t,Lg,rfl,by omega,?_,?_,kn,rfl,rfl,rfl⟩
      ·rw[Qk0,hya,List.length_append,Nat.succ_mul];omega
      ·rw[Qk0,hya];exact hgr
   ·intro hc2
    have hbe:b=q.blocks.length:=by have:q.blocks.length≤b:=(by simpa using hc2);omega
    subst hbe
    refine Qt ?_
    simp only[go_sem,X.next]
    refine Qa ?_
    simp only[go_sem,l5,htw]
    refine Qk ?_
    simp only[go_sem,Q6,Qad,Qfm,List.mem_singleton,forall_eq,RS.op,htw]
    have:=hK _ kn.fin
    rw[e]at this
    exact⟨_,.c _ _ (hgr.frz kn (Qds _)),this⟩
set_option maxHeartbeats 4000000 in
theorem Qa4c {R:Rdr} {k:Nat} (hH:H R.l=R.o k) (hk:k+40000000≤2^30)
  (hK:∀(cs:List CodeD) (H':Heap) (k':Nat),k<k'→k'≤k+39000000→Upd H H' [(R.l,R.o k')]→UnitOk cs→K (.ag [.sl false 3 (Qp cs)]) H') :
  Qw prog Qut [.c (.ptr R.l 0)] H K:=by
 refine Qz ?_
 refine Qb Qat Qa44 ?_
 refine Qa ?_
 simp only[go_sem]
 intro x2 hx2 H1 h1
 have kn:=(Kn.start1 hH (R.o_ne k)).al hx2 h1
 refine Q3 ?_
 refine Qa ?_
 simp only[go_sem]
 refine Qh (Qc (Qu (fun m e1 H1=>∃(i k':Nat) (L:List (Nat×Obj)),m=4-i∧i≤4∧k≤k'∧k'≤k+i * 7300000∧Kn H H1 [(R.l,R.o k')] ([(x2,.st [.sl true 3 []])]++L)∧
  lk 0 e1=.c (.ptr R.l 0)∧lk 2 e1=.c (.ptr x2 0)∧lk 4 e1=.c (.int .i64 i)) 4 ?_ ?_))
 ·exact⟨0,k,[],by omega,by omega,by omega,by omega,kn,rfl,rfl,rfl⟩
 ·clear kn
  rintro m e1 H2 ⟨i,k1,L,hm,hi,hk1,hk2,kn,l0,l2,l4⟩
  have hx2:=kn.l 0 rfl
  refine Qa ?_
  simp only[go_sem,l0,l2,l4]
  refine Qh (Qd rfl ?_ ?_)
  ·intro hc
   have hlt:i<4:=by
    have:=of_decide_eq_true hc
    omega
   refine Qi ?_
   try simp only[go_sem]
   refine Qh (Qc ?_)
   refine Qa ?_
   simp only[go_sem]
   refine Qarc (kn.e 0 rfl) (by omega) fun cs H3 k3 hk3 hk4 hu hok=>?_
   have kn:=kn.callE 0 rfl hu (R.o_ne _)
   simp only[go_sem,Qys]
   intro x3 hx3 H4 h4
   have kn:=(kn.al hx3 h4).perm List.perm_append_comm
   have hx3:=kn.l 0 rfl
   simp only[go_sem,Qyr,hx3]
   intro H5 h5
   have kn:Kn H H5 [(R.l,R.o k3)] ([(x2,.st [.sl true 3 []])]++([(x3,.st [.sl false 3 (Qp cs)])]++L)):=
    (kn.stL 0 rfl h5).perm (Qr fun f hf h0 hc hp=>by
     show f ([(x3,_)]++([(x2,_)]++L))=_
     simp only[hf];omega)
   have hx3:=kn.l 1 rfl
   obtain⟨u0,u4,ugd⟩:=hok
   have hi1:((cs.length:Int)-1)=((cs.length-1:Nat):Int):=by omega
   have hcsf:∀c∈cs,c.fits:=fun c hc=>(ugd c hc).f
   refine Qc6 (fun e2 H2=>∃(bb:Bool),Kn H H2 [(R.l,R.o k3)] ([(x2,.st [.sl true 3 []])]++([(x3,.st [.sl false 3 (Qp cs)])]++L))∧lk 0 e2=.c (.ptr R.l 0)∧lk 2 e2=.c (.ptr x2 0)∧lk 3 e2=.c (.ptr x3 0)∧lk 4 e2=.c (.int .i64 i)∧lk 21 e2=.c (.bool bb)) ?_ ?_
   ·intro Q hnr _ _
    refine Qq ?_
    simp only[go_sem,hx3,Q4]
    intro _ _
    refine⟨fun _=>Qo (by omega) (by omega),fun h=>?_,fun h=>?_⟩
    ·refine Qpu hcsf fun H6 hu=>?_
     have kn:=kn.call0 hu
     simp only[go_sem,Qlx,h]
     try intro _
     exact hnr _ _ ⟨_,kn,rfl,rfl,rfl,rfl,rfl⟩
    ·simp only[go_sem,Qlx,h]
     try intro _
     exact hnr _ _ ⟨_,kn,rfl,rfl,rfl,rfl,rfl⟩
   ·rintro e2 H6 ⟨bb,kn,l0,l2,l3,l4,l21⟩
    refine Qd (c:=bb) l21 ?_ ?_
    ·intro _
     have hx2:=kn.l 0 rfl
     have hx3:=kn.l 1 rfl
     refine Qa ?_
     simp only[go_sem,l0,l2,l3,l4,hx2,hx3]
     intro H7 h7
     have kn:=kn.stL 0 rfl h7
     have hx2:=kn.l 0 rfl
     refine Qk ?_
     simp only[go_sem,X.next,Q6,Qad,Q3z,List.mem_singleton,forall_eq,RS.op,hx2]
     exact⟨_,Qd8 cs,hK cs _ k3 (by omega) (by omega) kn.fin ⟨u0,u4,ugd⟩⟩
    ·intro _
     refine Qi ?_
     try simp only[go_sem]
     refine Qq ?_
     simp only[go_sem,l0,l2,l3,l4]
     refine⟨Qo (by omega) (by omega),?_⟩
     show ∃m,_
     exact⟨4-(i+1),by omega,i+1,k3,_,rfl,by omega,by omega,by omega,kn,rfl,rfl,rfl⟩
  ·intro _
   refine Qt ?_
   simp only[go_sem,X.next]
   refine Qa ?_
   simp only[go_sem,l0,l2]
   refine Q27 (kn.e 0 rfl) (by omega) fun cs H3 k3 hk3 hk4 hu hok=>?_
   have kn:=kn.callE 0 rfl hu (R.o_ne _)
   have hx2:=kn.l 0 rfl
   simp only[go_sem,Qyt,hx2]
   intro H4 h4
   have kn:=kn.stL 0 rfl h4
   have hx2:=kn.l 0 rfl
   refine Qk ?_
   simp only[go_sem,Q6,Qad,Q3z,List.mem_singleton,forall_eq,RS.op,hx2]
   exact⟨_,Qd8 cs,hK cs _ k3 (by omega) (by omega) kn.fin hok⟩
set_option maxHeartbeats 2000000 in
theorem Qz4 {fl:Bool} {bs:List UInt8} (hK:∀(cs:List CodeD) (k:Int) (H':Heap),Upd H H' []→UnitOk cs→-1≤k→k≤4→K (.tup [.ag [.sl false 3 (Qp cs)],.c (.int .i64 k)]) H') :
  Qw prog Qcn [.c (.sl fl 1 (Qby bs))] H K:=by
 refine Qz ?_
 refine Qb Qat Qp5 ?_
 refine Qa ?_
 simp only[go_sem]
 intro x2 hx2 H1 h1
 have kn:=(Kn.start0 H).al hx2 h1
 simp only[go_sem,Qdf]
 refine Qa ?_
 simp only[go_sem]
 refine Qa4g fun R H2 hR h2=>?_
 have kn:=kn.al hR h2 (R.o_ne 0)
 simp only[go_sem,Qdg]
 refine Qa ?_
 simp only[go_sem]
 refine Qa4c (kn.l 1 rfl) (by omega) fun cs H3 k2 hk3 hk4 hu hok=>?_
 have kn:=kn.callL 1 rfl hu (R.o_ne _)
 simp only[go_sem,Qdi]
 intro x5 hx5 H4 h4
 have kn:=kn.al hx5 h4
 have hx5:=kn.l 2 rfl
 simp only[go_sem,Qdh,hx5]
 intro H5 h5
 have kn:Kn H H5 [] [(x2,.st [.sl true 3 []]),(R.l,R.o k2),(x5,.st [.sl false 3 (Qp cs)])]:=kn.stL 2 rfl h5
 have hx5:=kn.l 2 rfl
 obtain⟨h0,h4',hgd⟩:=hok
 refine Qal ?_
 simp only[go_sem,hx5,Q4]
 try intro _
 refine⟨Qo (by omega) (by omega),?_⟩
 try intro _
 refine⟨Qo (by omega) (by omega),?_⟩
 try intro _
 refine Qg1 (ns:=[(cs.length:Int)-1,0,(cs.length:Int)-1,-1,(cs.length:Int)]) (kn.l 1 rfl) (by omega) (by simp) fun n H8 hn hu=>?_
 have kn:=kn.callL 1 rfl hu (R.o_ne _)
 have hn2:-1≤n∧n≤4:=by simp at hn;omega
 have hx5:=kn.l 2 rfl
 have hx2:=kn.l 0 rfl
 simp only[go_sem,Qdk,hx5,hx2]
 intro H12 h12
 have kn:=kn.stL 0 rfl h12
 have hx2:=kn.l 0 rfl
 simp only[go_sem,Qdj]
 refine Qk ?_
 simp only[go_sem,Q6,Qad,Qfn,List.forall_mem_cons,List.not_mem_nil,RS.op,hx2]
 exact⟨fun _=>trivial,_,Q24 (Qd8 cs) (.c _ _ (Qg rfl)),hK cs n _ kn.fin ⟨h0,h4',hgd⟩ hn2.1 hn2.2⟩
end Go.AE.Y

namespace Go.AE.Y
attribute [local go_sem] cond_true cond_false Bool.not_true Bool.not_false
attribute [local instance] Classical.propDecidable
open Go.Proofs.Tryz
variable {H H0:Heap} {K:V→Heap→Prop} {E B Lg:List (Nat×Obj)} {q:CodeD}
def bks (q:CodeD):Nat:=q.blocks.length
noncomputable def blocksI (cs:List CodeD):Int:=if Qkx cs=true then (Qky bks cs:Nat)else -1
end Go.AE.Y

namespace Go.AE.Y
attribute [local go_sem] cond_true cond_false Bool.not_true Bool.not_false
attribute [local instance] Classical.propDecidable
open Go.Proofs.Tryz
variable {H H0:Heap} {K:V→Heap→Prop} {E B Lg:List (Nat×Obj)} {q:CodeD}
noncomputable def sizeI (cs:List CodeD) (k:Int):Int:=if Q9e cs k=true then match cs[k.toNat]? with
 |some q=>(cntQ q:Nat)
 |none=>-1 else -1
end Go.AE.Y

namespace Go.AE.Y
attribute [local go_sem] cond_true cond_false Bool.not_true Bool.not_false
attribute [local instance] Classical.propDecidable
open Go.Proofs.Tryz
variable {H H0:Heap} {K:V→Heap→Prop} {E B Lg:List (Nat×Obj)} {q:CodeD}
section
variable {P:Program} {e:Env} {its r:List Item} {KK:Env→Heap→Prop} {d:Option Nat} {t:Nat} {w:Bool} {op:FOp}
theorem Qa96 (x y:V):Qa5l false x y=y:=by
 cases x with
 |c a=>cases y with
  |c b=>cases a <;> cases b <;> rfl
  |_=>cases a <;> rfl
 |_=>cases y <;> rfl
def isF:Item→Bool
 |.f ..=>true
 |_=>false
theorem Qayk:∀(n:Nat) {its:List Item} {e:Env} {H:Heap},(its.take n).all isF=true→Qc7 P (its.take n) e H (fun e' H'=>Qc7 P (its.drop n) e' H' KK)→Qc7 P its e H KK
 |0,_,_,_,_,h=>h
 |n+1,[],_,_,_,h=>h
 |n+1,x::r,e,H,hf,h=>by
  simp only[List.take_succ_cons,List.all_cons,Bool.and_eq_true]at hf
  cases x with
  |f d g op=>exact⟨h.1,h.2.1,Qayk n hf.2 h.2.2⟩
  |p d g f args=>exact absurd hf.1 (by simp[isF])
  |e d g op=>exact absurd hf.1 (by simp[isF])
  |chk d g op=>exact absurd hf.1 (by simp[isF])
theorem Qai1 (n:Nat) {H:Heap} (hf:(its.take n).all isF=true) (h:∀B,B=its.drop n→Qc7 P (its.take n) e H (fun e' H'=>Qc7 P B e' H' KK)):Qc7 P its e H KK:=Qayk n hf (h _ rfl)
theorem off1 {v0:V} (h0:lk t e=.gd false v0) (h:∀v,Qc7 P r (Qu7 d (.gd false v) e) H KK):Qc7 P (.f d (some (t,w)) op::r) e H KK:=by
 have hb:gdB e (some (t,w))=false:=by
  simp only[gdB,h0];cases v0 <;> try rfl
  rename_i c;cases c <;> rfl
 refine⟨?_,fun h=>absurd h (by simp[hb]),?_⟩
 ·simp only[gdO,h0];cases v0 <;> try trivial
  rename_i c;cases c <;> trivial
 ·simp only[hb,gdV];exact h _
theorem off2 {q b:Bool} (h0:lk t e=.gd q (.c (.bool b))) (h1:(b == w)=false) (h:∀v,Qc7 P r (Qu7 d (.gd false v) e) H KK):Qc7 P (.f d (some (t,w)) op::r) e H KK:=by
 have hb:gdB e (some (t,w))=false:=by
  simp only[gdB,h0,h1,Bool.and_false]
 refine⟨by simp only[gdO,h0],fun h=>absurd h (by simp[hb]),?_⟩
 simp only[hb,gdV];exact h _
theorem Qai2 {d g t1 t2:Nat} {w bb:Bool} (ho:gdO e (some (g,w))) (hb:gdB e (some (g,w))=true) (h1:lk t1 e=.gd true (.c (.bool false))) (h:Qc7 P r ((d,.gd true (.c (.bool bb)))::e) H KK) :
  Qc7 P (.f (some d) (some (g,w)) (.pick (.t t1) (.t t2) (.k (.c (.bool bb))))::r) e H KK:=by
 refine⟨ho,fun _=>?_,?_⟩
 ·simp only[FOp.obl,Opd.fine,Opd.v,Opd.raw,h1,hb,V.bare,V.fine,Bool.and_false]
  refine⟨fun h=>h,?_,trivial⟩
  cases lk t2 e <;> first|trivial|exact fun h=>by cases h
 ·simp only[FOp.val,Opd.v,Opd.raw,h1,hb,V.bare,gdV,Qa96,Qu7]
  exact h
end
set_option maxHeartbeats 4000000 in
theorem Q9j {cs:List CodeD} {fl:Bool} {k:Int} (hfit:∀c∈cs,c.fits) (hK:∀(H':Heap),Upd H H' []→K (.c (.sl false 1 (Qbp (Qf2 cs k)))) H') :
  Qw prog Qee [.ag [.sl fl 3 (Qp cs)],.c (.int .i64 k)] H K:=by
 refine Qz ?_
 refine Qb Qat Q3d ?_
 refine Qa ?_
 simp only[go_sem]
 refine Q3 ?_
 refine Qa ?_
 simp only[go_sem]
 refine Qa77 hfit fun H1 hu=>?_
 have kn:=(Kn.start0 H).call0 hu
 simp only[go_sem,Qgf]
 refine Qh (Qd rfl ?_ ?_)
 ·intro hc
  have hg:Q9e cs k=false:=Qrw hc
  refine Qa ?_
  simp only[go_sem]
  refine Qk ?_
  simp only[go_sem,X.next,Q6,Qad,Qfk,List.mem_singleton,forall_eq,RS.op]
  have e:Qf2 cs k=[]:=by rw[Qf2,hg];simp
  have:=hK _ kn.fin
  rw[e]at this
  exact⟨_,.c _ _ FrzR.nil.sl,this⟩
 ·intro hc
  have hg:Q9e cs k=true:=Qeg hc
  obtain⟨m,hm,rfl,ho⟩:=Qrr hg
  obtain⟨q,hq⟩:∃q,cs[m]=q:=⟨_,rfl⟩
  rw[hq]at ho
  have e:Qf2 cs (m:Int)=caL q:=by
   rw[Qf2,if_pos hg]
   simp[hm,hq]
  have hb1:=ho.b1
  refine Qi ?_
  try simp only[go_sem]
  refine Qa ?_
  simp only[go_sem,hm,Q4,Qaj _ _ hm,CodeD.cells,hq]
  refine Qb Qat Q3e ?_
  refine Qa ?_
  simp only[go_sem]
  refine Qa ?_
  simp only[go_sem]
  refine Q3 ?_
  refine Qa ?_
  simp only[go_sem,Qj]
  try intro _
  refine Qh (Qc (Qu (fun m2 e1 H1=>∃(b:Nat) (t:C) (Lg:List (Nat×Obj)),m2=q.blocks.length-b∧b≤q.blocks.length∧(Q2h q b).length≤b * 1200∧Gr Lg 1 (Qbp (Q2h q b)) t∧Kn H H1 [] ([]++Lg)∧
   lk 3 e1=.c t∧lk 9 e1=.c (.sl false 5 (Ql q.blocks))∧lk 10 e1=.c (.int .i64 q.blocks.length)∧lk 11 e1=.c (.int .i64 b)) q.blocks.length ?_ ?_))
  ·exact⟨0,_,[],by omega,by omega,by simp[Q2h],.nil 1,kn,rfl,rfl,rfl,rfl⟩
  ·clear kn
   rintro m2 e1 H4 ⟨b,t,Lg,hm2,hb,hcl,hgr,kn,l3,l9,l10,l11⟩
   have htw:=hgr.isOw
   refine Qa ?_
   simp only[go_sem,l3,l9,l10,l11,htw]
   refine Qh (Qd rfl ?_ ?_)
   ·intro hc2
    have hlt:b<q.blocks.length:=by simpa using hc2
    obtain⟨y,hy⟩:∃y,q.blocks[b]=y:=⟨_,rfl⟩
    have hya:Qbf q b=y:=by rw[Qcd hlt,hy]
    have hil:=ho.il b hlt
    rw[hy]at hil
    refine Qi ?_
    try simp only[go_sem]
    refine Qh (Qc ?_)
    refine Qa ?_
    simp only[go_sem,htw,hlt,Qj,Q5 _ _ hlt,BlkD.cells,hy]
    intro x5 hx5 H5 h5
    have kn:=kn.al hx5 h5
    have hx5:H5 x5=.st [.sl true 2 [],.sl true 4 [],.int .i64 0,.int .i64 0,.sl true 1 []]:=(kn.get (x5,.st [.sl true 2 [],.sl true 4 [],.int .i64 0,.int .i64 0,.sl true 1 []]) (by simp)).1
    simp only[go_sem,Qgh,hx5,htw]
    intro H6 h6
    have kn:Kn H H5 [] ([(x5,.st [.sl true 2 [],.sl true 4 [],.int .i64 0,.int .i64 0,.sl true 1 []])]++Lg):=kn.perm (by simp)
    have kn:Kn H H6 [] ([(x5,.st [.sl false 2 (Qai y.phis),.sl false 4 (Qbk y.ins),.int .i64 y.jump,.int .i64 y.on,.sl false 1 (Qf y.next)])]++Lg):=kn.stL 0 rfl h6
    have hx5:H6 x5=.st [.sl false 2 (Qai y.phis),.sl false 4 (Qbk y.ins),.int .i64 y.jump,.int .i64 y.on,.sl false 1 (Qf y.next)]:=kn.l 0 rfl
    refine Qa ?_
    simp only[go_sem,hx5,htw,Qam]
    try intro _
    refine Qc (Qu (fun m3 e1 H1=>∃(j:Nat) (t:C) (Lg:List (Nat×Obj)),m3=y.ins.length-j∧j≤y.ins.length∧Gr Lg 1 (Qbp (Q2h q b++caI q b j)) t∧Kn H H1 [] ([]++Lg)∧
     lk 3 e1=.c t∧lk 4 e1=.c (.int .i64 b)∧lk 9 e1=.c (.sl false 5 (Ql q.blocks))∧lk 10 e1=.c (.int .i64 q.blocks.length)∧lk 11 e1=.c (.int .i64 b)∧
     lk 17 e1=.c (.sl false 4 (Qbk y.ins))∧lk 18 e1=.c (.int .i64 y.ins.length)∧lk 19 e1=.c (.int .i64 j)) y.ins.length ?_ ?_)
    ·exact⟨0,t,Lg,by omega,by omega,by simpa[caI]using hgr,Kn.drop (B:=[(x5,_)]) (kn.perm (by simpa using List.perm_append_comm (l₁:=[(x5,_)]) (l₂:=Lg))),rfl,rfl,rfl,rfl,rfl,rfl,rfl,rfl⟩
    ·clear kn hx5 hgr htw l3 l9 l10 l11
     rintro m3 e2 H7 ⟨j,t,Lg,hm3,hj,hgr,kn,l3,l4,l9,l10,l11,l17,l18,l19⟩
     have htw:=hgr.isOw
     refine Qa ?_
     simp only[go_sem,l3,l4,l9,l10,l11,l17,l18,l19,htw]
     refine Qh (Qd rfl ?_ ?_)
     ·intro hc3
      have hlt3:j<y.ins.length:=by simpa using hc3
      obtain⟨x,hx⟩:∃x,y.ins[j]=x:=⟨_,rfl⟩
      have hsucc:caI q b (j+1)=caI q b j++if x.op=14 then [((b:Int),(j:Int))]else []:=by
       have:=Qayg (q:=q) (b:=b) (j:=j) (by rw[hya];exact hlt3)
       simp only[hya,hx]at this
       exact this
      have hlen:=Qaec (q:=q) (b:=b) (j:=j)
      refine Qi ?_
      try simp only[go_sem]
      refine Qc6 (fun e2 H2=>∃(t:C) (Lg:List (Nat×Obj)),Gr Lg 1 (Qbp (Q2h q b++caI q b (j+1))) t∧Kn H H2 [] ([]++Lg)∧
       lk 3 e2=.c t∧lk 4 e2=.c (.int .i64 b)∧lk 9 e2=.c (.sl false 5 (Ql q.blocks))∧lk 10 e2=.c (.int .i64 q.blocks.length)∧lk 11 e2=.c (.int .i64 b)∧
       lk 17 e2=.c (.sl false 4 (Qbk y.ins))∧lk 18 e2=.c (.int .i64 y.ins.length)∧lk 19 e2=.c (.int .i64 j)) ?_ ?_
      ·intro Q hnr _ _
       refine Qc ?_
       refine Qa ?_
       simp only[go_sem,l3,l4,l9,l10,l11,l17,l18,l19,htw,hlt3,Qam,Qbq _ _ hlt3,InsD.cells,hx]
       intro x7 hx7 H8 h8
       have kn:=kn.al hx7 h8
       have hx7:H8 x7=.st [.int .i64 0,.int .i64 0,.sl true 1 [],.int .i64 0]:=(kn.get (x7,.st [.int .i64 0,.int .i64 0,.sl true 1 [],.int .i64 0]) (by simp)).1
       simp only[go_sem,Qgi,hx7,htw]
       intro H9 h9
       have kn:Kn H H8 [] ([(x7,.st [.int .i64 0,.int .i64 0,.sl true 1 [],.int .i64 0])]++Lg):=kn.perm (by simp)
       have kn:Kn H H9 [] ([(x7,.st [.int .i64 x.op,.int .i64 x.to,.sl false 1 (Qf x.args),.int .i64 x.n])]++Lg):=kn.stL 0 rfl h9
       have hx7:H9 x7=.st [.int .i64 x.op,.int .i64 x.to,.sl false 1 (Qf x.args),.int .i64 x.n]:=kn.l 0 rfl
       refine Qa ?_
       simp only[go_sem,hx7,htw]
       refine Qd rfl ?_ ?_
       ·intro hc4
        have h14:x.op=14:=by simpa using hc4
        refine Qq ?_
        simp only[go_sem,htw]
        refine kn.growR (new:=Qbp [((b:Int),(j:Int))]) hgr (.mk' _ _ _ _) (Qds _) (by
         simp only[Qbm,List.length_append,LIM,List.length_cons,List.length_nil]
         have:b * 1200≤160 * 1200:=Nat.mul_le_mul_right _ (by omega)
         omega) fun t2 Lg2 H10 hgr2 ht2 kn=>?_
        simp only[go_sem,Qgj,ht2]
        refine hnr _ _ ⟨t2,Lg2,?_,Kn.drop (B:=[(x7,_)]) (kn.perm (by simpa using List.perm_append_comm (l₁:=[(x7,_)]) (l₂:=Lg2))),rfl,rfl,rfl,rfl,rfl,rfl,rfl,rfl⟩
        rw[hsucc,if_pos h14,←List.append_assoc]
        have:Qbp (Q2h q b++caI q b j++[((b:Int),(j:Int))])=Qbp (Q2h q b++caI q b j)++Qbp [((b:Int),(j:Int))]:=by simp[Qbp]
        rw[this];exact hgr2
       ·intro hc4
        have h14:¬x.op=14:=by simpa using hc4
        refine Qi ?_
        try simp only[go_sem]
        refine hnr _ _ ⟨t,Lg,?_,Kn.drop (B:=[(x7,_)]) (kn.perm (by simpa using List.perm_append_comm (l₁:=[(x7,_)]) (l₂:=Lg))),rfl,rfl,rfl,rfl,rfl,rfl,rfl,rfl⟩
        rw[hsucc,if_neg h14,List.append_nil];exact hgr
      ·rintro e3 H6 ⟨t,Lg,hgr,kn,l3,l4,l9,l10,l11,l17,l18,l19⟩
       have htw:=hgr.isOw
       refine Qq ?_
       simp only[go_sem,l3,l4,l9,l10,l11,l17,l18,l19,htw]
       refine⟨Qo (by omega) (by omega),?_⟩
       show ∃m,_
       exact⟨y.ins.length-(j+1),by omega,j+1,t,Lg,rfl,by omega,hgr,kn,rfl,rfl,rfl,rfl,rfl,rfl,rfl,rfl⟩
     ·intro hc3
      have hje:j=y.ins.length:=by have:y.ins.length≤j:=(by simpa using hc3);omega
      subst hje
      have hlen:=Qaec (q:=q) (b:=b) (j:=y.ins.length)
      refine Qt ?_
      simp only[go_sem,X.next]
      refine Qq ?_
      simp only[go_sem,l3,l9,l10,l11,htw]
      refine⟨Qo (by omega) (by omega),?_⟩
      show ∃m,_
      refine⟨q.blocks.length-(b+1),by omega,b+1,t,Lg,rfl,by omega,?_,?_,kn,rfl,rfl,rfl,rfl⟩
      ·rw[Qk0,hya,List.length_append,Nat.succ_mul];omega
      ·rw[Qk0,hya];exact hgr
   ·intro hc2
    have hbe:b=q.blocks.length:=by have:q.blocks.length≤b:=(by simpa using hc2);omega
    subst hbe
    refine Qt ?_
    simp only[go_sem,X.next]
    refine Qa ?_
    simp only[go_sem,l3,htw]
    refine Qk ?_
    simp only[go_sem,Q6,Qad,Qlm,List.mem_singleton,forall_eq,RS.op,htw]
    simp only[go_sem,Qgg,htw]
    refine Qk ?_
    simp only[go_sem,Q6,Qad,Qfk,List.mem_singleton,forall_eq,RS.op,htw]
    have:=hK _ kn.fin
    rw[e]at this
    exact⟨_,.c _ _ (hgr.frz kn (Qds _)),this⟩
set_option maxHeartbeats 2000000 in
theorem Qa70 {f1 f2:Bool} {ps:List Plc} (hK:K (.c (.bool true)) H):Qw prog Qi5 [.c (.sl f1 1 (Qbp ps)),.c (.sl f2 1 (Qbp ps))] H K:=by
 refine Qb Qat Qajq ?_
 refine Qa ?_
 simp only[go_sem]
 refine Q3 ?_
 refine Qa ?_
 simp only[go_sem,Qbm]
 intro hl
 simp only[LIM]at hl
 refine Qh (Qc (Qu (fun m e1 H1=>∃(i:Nat),m=ps.length-i∧i≤ps.length∧H1=H∧lk 0 e1=.c (.sl f1 1 (Qbp ps))∧lk 1 e1=.c (.sl f2 1 (Qbp ps))∧lk 10 e1=.c (.int .i64 ps.length)∧lk 11 e1=.c (.int .i64 i)) ps.length ?_ ?_))
 ·exact⟨0,by omega,by omega,rfl,rfl,rfl,by simp[lk],rfl⟩
 ·rintro m e1 H1 ⟨i,hm,hi,rfl,l0,l1,l10,l11⟩
  refine Qa ?_
  simp only[go_sem,l0,l1,l10,l11]
  refine Qh (Qd rfl ?_ ?_)
  ·intro hc
   have hlt:i<ps.length:=by simpa using hc
   obtain⟨p,hp⟩:∃p,ps[i]=p:=⟨_,rfl⟩
   refine Qi ?_
   try simp only[go_sem]
   refine Qh (Qc ?_)
   refine Qa ?_
   simp only[go_sem]
   refine Qal ?_
   simp only[go_sem,hlt,Qbm,Qhn _ _ hlt,hp,pRow]
   refine Qbbe (ns:=[p.1,p.2]) (ms:=[p.1,p.2]) (.mk' _ _ _ _) rfl (.mk' _ _ _ _) rfl ?_
   simp only[go_sem,Qna,decide_true]
   refine Qd rfl ?_ ?_
   ·intro h;simp at h
   intro _
   refine Qi ?_
   try simp only[go_sem]
   refine Qq ?_
   simp only[go_sem]
   refine⟨Qo (by omega) (by omega),?_⟩
   show ∃m,_
   exact⟨ps.length-(i+1),by omega,i+1,rfl,by omega,rfl,rfl,rfl,rfl,rfl⟩
  ·intro hc
   refine Qt ?_
   simp only[go_sem,X.next]
   refine Qa ?_
   simp only[go_sem,l0,l1,Qbm,decide_true]
   try intro _
   refine Qk ?_
   simp only[go_sem,Q6,Qad,Qw4,List.mem_singleton,forall_eq,RS.op]
   exact hK
theorem Qa3a {b j:Nat} {p:Plc} (h:p∈caI q b j):∃i:Nat,p=((b:Int),(i:Int))∧i<j∧(((Qbf q b).ins[i]?).map InsD.op).getD 0=14:=by
 simp only[caI,List.mem_map,List.mem_filter,List.mem_range,decide_eq_true_eq]at h
 obtain⟨i,⟨h1,h2⟩,rfl⟩:=h
 exact⟨i,rfl,h1,h2⟩
theorem Qaed {n:Nat} {p:Plc} (h:p∈Q2h q n):∃b i:Nat,p=((b:Int),(i:Int))∧b<n∧i<(Qbf q b).ins.length∧(((Qbf q b).ins[i]?).map InsD.op).getD 0=14:=by
 simp only[Q2h,List.mem_flatMap,List.mem_range]at h
 obtain⟨b,hb,h⟩:=h
 obtain⟨i,h1,h2,h3⟩:=Qa3a h
 exact⟨b,i,h1,hb,h2,h3⟩
def Qa97 (p r:Plc):Prop:=p.1<r.1∨(p.1=r.1∧p.2<r.2)
theorem Qbb7 {b j:Nat}:(caI q b j).Pairwise Qa97:=by
 rw[caI,List.pairwise_map]
 refine (List.Pairwise.filter _ List.pairwise_lt_range).imp fun {x y} h=>.inr ⟨rfl,by show (x:Int)<(y:Int);omega⟩
theorem Qayh:∀n,(Q2h q n).Pairwise Qa97
 |0=>by simp[Q2h]
 |n+1=>by
  rw[Qk0]
  refine List.pairwise_append.2 ⟨Qayh n,Qbb7,fun p hp r hr=>?_⟩
  obtain⟨b,i,rfl,hb,_⟩:=Qaed hp
  obtain⟨j,rfl,_⟩:=Qa3a hr
  exact .inl (by show (b:Int)<(n:Int);omega)
theorem Qazo {cs:List CodeD} (h:Qkx cs=true) {m:Nat} (hm:m<cs.length) (h0:m=0):caL cs[m]=[]:=by
 refine List.eq_nil_iff_forall_not_mem.2 fun p hp=>?_
 obtain⟨b,i,rfl,hb,hi,ho⟩:=Qaed hp
 obtain⟨_,h2,_⟩:=of_decide_eq_true h
 obtain⟨_,g2⟩:=h2 m hm
 have g:=g2 b hb
 rw[Qcd hb]at hi ho
 simp only[blkG,Bool.and_eq_true,List.all_eq_true]at g
 have gi:=g.1.2 _ (List.getElem_mem hi)
 rw[List.getElem?_eq_getElem hi]at ho
 simp only[Option.map_some,Option.getD_some]at ho
 simp only[Q9k,Bool.and_eq_true,insL,ho,if_true,decide_eq_true_eq]at gi
 have:=gi.2.1
 omega
set_option maxHeartbeats 8000000 in
theorem FnCallsIn_c {bs:List UInt8} (hK:∀H',K (.c (.bool true)) H'):Qw prog Qlc [.c (.sl false 1 (Qby bs))] H K:=by
 refine Qb Qat Q9u ?_
 have retT':∀(e:Env) (H':Heap),lk 2 e=.c (.bool true)→Q6 Qg4 K .ret e H':=by
  intro e H' h2
  simp only[go_sem,Q6,Qad,Qg4,List.mem_singleton,forall_eq,RS.op,h2]
  exact hK H'
 refine Qa ?_
 simp only[go_sem]
 refine Q3 ?_
 refine Qa ?_
 simp only[go_sem,Qau]
 intro _
 refine Qh (Qd rfl (fun hc=>?_) (fun hc=>?_))
 ·refine Qa ?_
  simp only[go_sem]
  refine Qk ?_
  exact retT' _ _ rfl
 refine Qi ?_
 try simp only[go_sem]
 refine Qa ?_
 simp only[go_sem]
 refine Qz4 fun cs n H1 hu hok hn1 hn2=>?_
 have hfit:=hok.fits
 have kn:=(Kn.start0 H).call0 hu
 simp only[go_sem,Qic,List.getD_cons_zero,List.getD_cons_succ]
 intro x3 hx3 H2 h2
 have kn:=kn.al hx3 h2
 have hx3:=kn.l 0 rfl
 simp only[go_sem,Qib,hx3]
 intro H3 h3
 have kn:Kn H H3 [] [(x3,.st [.sl false 3 (Qp cs)])]:=kn.stL 0 rfl h3
 have hx3:=kn.l 0 rfl
 simp only[go_sem,Qia]
 refine Qa ?_
 simp only[go_sem,hx3]
 refine Q9j hfit fun H4 hu=>?_
 have kn:=kn.call0 hu
 have hx3:=kn.l 0 rfl
 simp only[go_sem,Qid]
 refine Q3 ?_
 refine Qa ?_
 simp only[go_sem,hx3]
 refine Qpu hfit fun H5 hu=>?_
 have kn:=kn.call0 hu
 have hx3:=kn.l 0 rfl
 simp only[go_sem,Qif]
 refine Qa70 ?_
 simp only[go_sem,Qie]
 refine Qh (Qd rfl ?_ ?_)
 ·intro h;simp at h
 intro _
 refine Qi ?_
 try simp only[go_sem]
 refine Q3 ?_
 refine Qa ?_
 simp only[go_sem,Qbm]
 intro hlim
 simp only[LIM]at hlim
 obtain⟨L,hL⟩:∃L,Qf2 cs n=L:=⟨_,rfl⟩
 rw[hL]at hlim⊢
 refine Qh (Qc (Qu (fun mm e1 H1=>∃(i:Nat),mm=L.length-i∧i≤L.length∧Kn H H1 [] [(x3,.st [.sl false 3 (Qp cs)])]∧
  lk 3 e1=.c (.ptr x3 0)∧lk 4 e1=.c (.int .i64 n)∧lk 5 e1=.c (.sl false 1 (Qbp L))∧lk 25 e1=.c (.sl false 1 (Qbp L))∧lk 26 e1=.c (.int .i64 L.length)∧lk 27 e1=.c (.int .i64 i)) L.length ?_ ?_))
 ·exact⟨0,by omega,by omega,kn,rfl,rfl,rfl,rfl,rfl,rfl⟩
 ·clear kn hx3
  rintro mm e1 H6 ⟨i,hmm,hi,kn,l3,l4,l5,l25,l26,l27⟩
  have hx3:=kn.l 0 rfl
  refine Qa ?_
  simp only[go_sem,l3,l4,l5,l25,l26,l27]
  refine Qh (Qd rfl ?_ ?_)
  ·intro hc1
   have hlt:i<L.length:=by simpa using hc1
   have hg:Q9e cs n=true:=by
    cases h:Q9e cs n with
    |true=>rfl
    |false=>
     rw[Qf2,h]at hL
     subst hL
     simp at hlt
   obtain⟨m,hm,rfl,ho⟩:=Qrr hg
   obtain⟨q,hq⟩:∃q,cs[m]=q:=⟨_,rfl⟩
   rw[hq]at ho
   have hLq:L=caL q:=by
    rw[←hL,Qf2,if_pos hg]
    simp[hm,hq]
   have hasc:L.Pairwise Qa97:=by rw[hLq];exact Qayh _
   have hin:∀p∈L,p∈Q2h q q.blocks.length:=by
    rw[hLq];exact fun p h=>h
   have hmem:∀(j:Nat) (h:j<L.length),∃b t:Nat,L[j]=((b:Int),(t:Int))∧b<q.blocks.length∧t<(Qbf q b).ins.length∧(((Qbf q b).ins[t]?).map InsD.op).getD 0=14:=fun j h=>by
    refine Qaed (n:=q.blocks.length) ?_
    exact hin _ (List.getElem_mem h)
   obtain⟨b,t,hp,hb,ht,ho14⟩:=hmem i hlt
   obtain⟨y,hy⟩:∃y,q.blocks[b]=y:=⟨_,rfl⟩
   rw[Qcd hb,hy]at ht ho14
   obtain⟨x,hx⟩:∃x,y.ins[t]=x:=⟨_,rfl⟩
   rw[List.getElem?_eq_getElem ht,hx]at ho14
   simp only[Option.map_some,Option.getD_some]at ho14
   have tn0:Int.toNat 0=0:=rfl
   have tn1:Int.toNat 1=1:=rfl
   have h01:((0:Int)≤1)=True:=by simp
   have l01:(0<0+1+1)=True:=by simp
   have l11:(1<0+1+1)=True:=by simp
   have dn14:(!decide (x.op=14))=false:=by simp[ho14]
   refine Qi ?_
   try simp only[go_sem]
   refine Qc6 (fun e2 H2=>H2=H6∧lk 3 e2=.c (.ptr x3 0)∧lk 4 e2=.c (.int .i64 (m:Int))∧lk 5 e2=.c (.sl false 1 (Qbp L))∧lk 25 e2=.c (.sl false 1 (Qbp L))∧lk 26 e2=.c (.int .i64 L.length)∧lk 27 e2=.c (.int .i64 i)) ?_ ?_
   ·intro Q hnr _ _
    refine Qc ?_
    refine Qa ?_
    simp only[go_sem,l3,l4,l5,l25,l26,l27,hlt,Qbm,Qhn _ _ hlt,hp,pRow]
    refine Qal ?_
    cases i with
    |zero=>
     have d0:decide ((0:Int)<((0:Nat):Int))=false:=by decide
     refine Qai1 23 rfl fun B hB=>?_
     simp only[List.take_succ_cons,List.take_zero]
     simp only[go_sem,l3,l4,l5,l25,l26,l27,hx3,hm,Q4,Qaj _ _ hm,CodeD.cells,hq,hb,Qj,Q5 _ _ hb,BlkD.cells,hy,ht,Qam,Qbq _ _ ht,InsD.cells,hx,dn14,tn0,tn1,h01,l01,l11,Int.le_refl,List.getD_cons_zero,List.getD_cons_succ,Qbm,d0]
     simp only[hB,List.drop_succ_cons,List.drop_zero]
     iterate 12 refine off2 rfl rfl fun v=>?_
     iterate 12 refine off1 rfl fun v=>?_
     iterate 11 refine off1 rfl fun v=>?_
     refine off1 rfl fun v=>?_
     refine off2 rfl rfl fun v=>?_
     refine Qai2 trivial rfl rfl ?_
     simp only[go_sem]
     refine Qd rfl ?_ ?_
     ·intro h;simp at h
     intro _
     refine Qi ?_
     try simp only[go_sem]
     exact hnr _ _ ⟨rfl,rfl,rfl,rfl,rfl,rfl,rfl⟩
    |succ i=>
     have hli:i<L.length:=by omega
     obtain⟨b',t',hp',hb',ht',_⟩:=hmem i hli
     have hpw:Qa97 L[i] L[i+1]:=List.pairwise_iff_getElem.1 hasc i (i+1) hli hlt (by omega)
     rw[hp,hp']at hpw
     have d0:decide ((0:Int)<((i+1:Nat):Int))=true:=decide_eq_true (by omega)
     have hsub:((i+1:Nat):Int)-1=(i:Int):=by omega
     have hge0:(0≤(i:Int))=True:=by simp
     have hgt:decide ((b:Int)<(b':Int))=false:=decide_eq_false (by rcases hpw with h|⟨h,_⟩ <;> simp only at h <;> omega)
     have hir:inR .i64 (i:Int):=Qo (by omega) (by omega)
     by_cases hbb:b'=b
     ·subst hbb
      have htt:decide ((t:Int)≤(t':Int))=false:=decide_eq_false (by rcases hpw with h|⟨_,h⟩ <;> simp only at h <;> omega)
      simp only[go_sem,l3,l4,l5,l25,l26,l27,hx3,hm,Q4,Qaj _ _ hm,CodeD.cells,hq,hb,Qj,Q5 _ _ hb,BlkD.cells,hy,ht,Qam,Qbq _ _ ht,InsD.cells,hx,dn14,tn0,tn1,h01,l01,l11,Int.le_refl,List.getD_cons_zero,List.getD_cons_succ,Qbm,d0,hsub,hge0,hgt,htt,hli,Qhn _ _ hli,hp',pRow,Int.toNat_natCast,decide_true]
      refine⟨hir,hir,hir,?_⟩
      refine Qd rfl ?_ ?_
      ·intro h;simp at h
      intro _
      refine Qi ?_
      try simp only[go_sem]
      exact hnr _ _ ⟨rfl,rfl,rfl,rfl,rfl,rfl,rfl⟩
     ·have hne:decide ((b':Int)=(b:Int))=false:=decide_eq_false (by omega)
      refine Qai1 47 rfl fun B hB=>?_
      simp only[List.take_succ_cons,List.take_zero]
      simp only[go_sem,l3,l4,l5,l25,l26,l27,hx3,hm,Q4,Qaj _ _ hm,CodeD.cells,hq,hb,Qj,Q5 _ _ hb,BlkD.cells,hy,ht,Qam,Qbq _ _ ht,InsD.cells,hx,dn14,tn0,tn1,h01,l01,l11,Int.le_refl,List.getD_cons_zero,List.getD_cons_succ,Qbm,d0,hsub,hge0,hgt,hne,hli,Qhn _ _ hli,hp',pRow,Int.toNat_natCast,decide_true]
      refine⟨hir,hir,?_⟩
      simp only[hB,List.drop_succ_cons,List.drop_zero]
      iterate 11 refine off2 rfl rfl fun v=>?_
      refine Qai2 trivial rfl rfl ?_
      simp only[go_sem]
      refine Qd rfl ?_ ?_
      ·intro h;simp at h
      intro _
      refine Qi ?_
      try simp only[go_sem]
      exact hnr _ _ ⟨rfl,rfl,rfl,rfl,rfl,rfl,rfl⟩
   ·rintro e3 H7 ⟨rfl,l3,l4,l5,l25,l26,l27⟩
    refine Qq ?_
    simp only[go_sem,l3,l4,l5,l25,l26,l27]
    refine⟨Qo (by omega) (by omega),?_⟩
    show ∃m,_
    exact⟨L.length-(i+1),by omega,i+1,rfl,by omega,kn,rfl,rfl,rfl,rfl,rfl,rfl⟩
  ·intro hc1
   refine Qt ?_
   simp only[go_sem,X.next]
   refine Qa ?_
   simp only[go_sem,l3,l4,l5,Qbm]
   intro _
   refine Qk ?_
   refine retT' _ _ ?_
   by_cases hn0:n=0
   ·have hl0:L=[]:=by
     rw[←hL,Qf2]
     by_cases hg:Q9e cs n=true
     ·rw[if_pos hg]
      obtain⟨m,hm,hnm,_⟩:=Qrr hg
      have hm0:m=0:=by omega
      subst hnm
      simp only[Int.toNat_natCast,List.getElem?_eq_getElem hm]
      exact Qazo (by simp only[Q9e,Bool.and_eq_true]at hg;exact hg.1) hm hm0
     ·rw[if_neg hg]
    simp[lk,hl0]
   ·simp[lk,hn0]
end Go.AE.Y

namespace Go.AE.Y
open Go.ChangeShapes Go.WideShapes Go.ChangeAt Go.RowKit
def Qbbt (w:World) (a:Option Addr) (len cap:Nat) (zs:List Int):Prop:=
 (a=none∧len=0∧cap=0∧zs=[])∨
 ∃x,a=some x∧len≤cap∧zs.length=cap∧(∀i,i<zs.length→w.cell? (x.add i)=some (.int .u8 (zs.getD i 0)))∧∀n∈zs,(Lit.int .u8 n).wf=true
theorem Qa7m (w:World):Sat (fun _=>.none) ⟨fun b=>decide (b<w.heap.size),fun _=>none,fun _=>none⟩ w:=by
 refine⟨fun b hb=>⟨by simp;omega,rfl⟩,⟨0,fun _ _=>rfl⟩,fun b x h=>by simp at h,fun b l p h=>by simp at h,fun l=>trivial⟩
theorem Qbb6 {n:Int} (h:(Lit.int .u8 n).wf=true):((UInt8.ofNat n.toNat).toNat:Int)=n:=by
 simp only[Lit.wf,Bool.and_eq_true,decide_eq_true_eq]at h
 have a1:IntKind.min .u8=0:=by decide
 have a2:IntKind.max .u8=255:=by decide
 rw[a1,a2]at h
 rw[UInt8.toNat_ofNat']
 omega
theorem calls_of_acall {P:Program} {f:Nat} (h:∀bs:List UInt8,bs.length≤1048576→Qw P f [.c (.sl false 1 (Qby bs))] (fun _=>.none) fun v _=>v=.c (.bool true))
  {a0:Option Addr} {len0 cap0:Nat} {z0:List Int} {w:World} (hr:Qbbt w a0 len0 cap0 z0) (hl:len0≤1048576) :
  Calls P f #[.slice a0 len0 cap0] w fun e w'=>e=.returned (.bool true)∧Below w.heap.size w w':=by
 have key:∃bs:List UInt8,bs.length=len0∧RepC w ⟨fun b=>decide (b<w.heap.size),fun _=>none,fun _=>none⟩ (.sl false 1 (Qby bs)) (.slice a0 len0 cap0):=by
  rcases hr with ⟨rfl,rfl,rfl,rfl⟩|⟨x,rfl,hlc,hz,hcell,hwf⟩
  ·exact⟨[],rfl,.slnil _ _ _⟩
  ·obtain⟨b,off,spot⟩:=x
   have hbl:((z0.take len0).map fun n=>UInt8.ofNat n.toNat).length=len0:=by simp;omega
   by_cases h0:cap0=0
   ·subst h0
    have:len0=0:=by omega
    subst this
    exact⟨[],rfl,.slnil _ _ _⟩
   have hc0:=hcell 0 (by omega)
   have hspot:spot=none:=by simpa[Addr.add]using World.cell?_spot hc0
   subst hspot
   have hadd:∀i,(⟨b,off,none⟩:Addr).add i=⟨b,off+i,none⟩:=by
    intro i
    by_cases h:i=0 <;> simp[Addr.add,h]
   have hb:b<w.heap.size:=by
    rcases Nat.lt_or_ge b w.heap.size with h|h
    ·exact h
    ·simp[World.cell?,Addr.add,Array.getElem?_eq_none h]at hc0
   refine⟨_,hbl,?_⟩
   have hget:∀(i:Nat) (row:List C),(Qby ((z0.take len0).map fun n=>UInt8.ofNat n.toNat))[i]? = some row→i<len0∧row=[.int .u8 (z0.getD i 0)]:=by
    intro i row hi
    have hlt:i<len0:=by
     rcases Nat.lt_or_ge i len0 with h|h
     ·exact h
     ·rw[List.getElem?_eq_none (by rw[Qau];omega)]at hi;simp at hi
    have hz0:i<z0.length:=by omega
    refine⟨hlt,?_⟩
    simp only[Qby,List.getElem?_map,List.getElem?_take,if_pos hlt,List.getElem?_eq_getElem hz0,Option.map_some,Option.some.injEq]at hi
    rw[←hi,Qbb6 (hwf _ (List.getElem_mem hz0))]
    simp[List.getD_eq_getElem?_getD,hz0]
   have:=RepC.sl (w:=w) (g:=⟨fun b=>decide (b<w.heap.size),fun _=>none,fun _=>none⟩) false 1 (Qby ((z0.take len0).map fun n=>UInt8.ofNat n.toNat)) b off cap0 (fun i _=>.int .u8 (z0.getD i 0))
    (by rw[Qau,hbl];simp only[LIM];omega) (by simp) (by rw[Qau,hbl];exact hlc) (by simpa using hb)
    (fun i row hi=>by rw[(hget i row hi).2];rfl)
    (fun i row j c hi hj=>by
     obtain⟨h1,rfl⟩:=hget i row hi
     have hj0:j=0:=by
      rcases Nat.eq_zero_or_pos j with h|h
      ·exact h
      ·rw[List.getElem?_eq_none (by simp;omega)]at hj;simp at hj
     subst hj0
     have:=hcell i (by omega)
     rw[hadd]at this
     simpa using this)
    (fun i row j c hi hj=>by
     obtain⟨h1,rfl⟩:=hget i row hi
     have hj0:j=0:=by
      rcases Nat.eq_zero_or_pos j with h|h
      ·exact h
      ·rw[List.getElem?_eq_none (by simp;omega)]at hj;simp at hj
     subst hj0
     simp at hj;subst hj
     exact .int _ _)
   rw[Qau,hbl]at this
   exact this
 obtain⟨bs,hbl,hrep⟩:=key
 have hc:=(h bs (by omega)).2 _ w [.slice a0 len0 cap0] (Qa7m w) rfl (fun j x u hj hu=>by
  cases j with
  |zero=>simp at hj hu;subst hj;subst hu;exact .c _ _ hrep
  |succ j=>simp at hj)
 refine hc.mono fun e w'=>?_
 rintro⟨v,x,H',g',rfl,rfl,hst,hv⟩
 have:v=.bool true:=by cases hv with|c _ _ h=>cases h;rfl
 subst this
 exact⟨rfl,hst.le.os,hst.le.tape,hst.le.output,hst.le.size,fun k hk=>(hst.le.per k (by simpa using hk)).2⟩
end Go.AE.Y

