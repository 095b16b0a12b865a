/- Part 5 of the proof: the engine, codes, walks and plain laws, each named where it stands. -/
import Derived.Test.YtldooelffjcbmaaGreatZD
open Nat (reduceEqDiff reduceAdd reduceLeDiff reduceLT)
set_option linter.unusedVariables false
set_option linter.unusedSimpArgs false
set_option maxRecDepth 4000
namespace Go.AE.Y
attribute [local go_sem] cond_true cond_false Bool.not_true Bool.not_false
open Go.Proofs.Tryz
variable {H H0:Heap}{K:V→Heap→Prop}{E L:List (Nat×Obj)}
def Qmt (x:InsD):Int:=if Qd1 x.op then x.to else -1
theorem Qai4 {x:InsD}(hK:K (.c (.int .i64 (Qmt x))) H):Qv prog Qhs [.ag x.cells] H K:=by
 refine Qb Qar Qaw6 ?_
 refine Qa ?_
 simp only[go_sem,InsD.cells]
 refine Q4 ?_
 refine Qa ?_
 simp only[go_sem]
 refine Qoe ?_
 refine Qg (Qe rfl ?_ ?_)
 ·intro hc
  refine Qa ?_
  simp only[go_sem]
  refine Qj ?_
  simp only[go_sem,X.next,Q6,Qab,Quf,List.mem_singleton,forall_eq,RS.op]
  rw[Qmt,hc,if_pos rfl]at hK;exact hK
 ·intro hc
  refine Qh ?_
  try simp only[go_sem]
  refine Qa ?_
  simp only[go_sem]
  refine Qj ?_
  simp only[go_sem,Q6,Qab,Quf,List.mem_singleton,forall_eq,RS.op]
  rw[Qmt,hc,if_neg (by simp)]at hK;exact hK
theorem Qbhc {l:List Int}{a:Nat}(h:a<l.length):(toN l).take (a+1)=(toN l).take a++[(l.getD a 0).toNat]:=by
 have h':a<(toN l).length:=by simpa[toN]using h
 rw[List.take_succ_eq_append_getElem h']
 simp[toN,List.getD_eq_getElem?_getD,h]
theorem Qjb {l:List Int}{a:Nat}(h:a<l.length):l.getD a 0∈l:=by
 rw[List.getD_eq_getElem?_getD,List.getElem?_eq_getElem h];exact List.getElem_mem h
theorem rIn.nat {q:CodeD}{v:Int}(h:rIn q v):v=(v.toNat:Int)∧v.toNat<q.regs.toNat:=by obtain⟨a,b⟩:=h;omega
structure CodeR (F:Heap)(X:List Nat)(bc:C)(q:CodeD):Prop where
 ow:bc.isOw=false
 s:∀H1:Heap,(∀m,F m≠.none→m∉X→H1 m=F m)→Slc H1 5 (Qm q.blocks) bc
theorem CodeR.sl (F:Heap)(X:List Nat)(fl:Bool)(q:CodeD):CodeR F X (.sl fl 5 (Qm q.blocks)) q:=⟨rfl,fun _ _=>.mk' _ _ _ _⟩
theorem CodeR.rd {F H:Heap}{X:List Nat}{bc:C}{q:CodeD}{E L:List (Nat×Obj)}(h:CodeR F X bc q)(kn:Kn F H E L)(hX:∀x∈E.map Prod.fst,x∈X):Slc H 5 (Qm q.blocks) bc:=
 h.s H fun m hm hx=>kn.chg m hm fun hh=>hx (hX m hh)
theorem CodeR.facts {F H:Heap}{X:List Nat}{bc:C}{q:CodeD}{E L:List (Nat×Obj)}(h:CodeR F X bc q)(kn:Kn F H E L)(hX:∀x∈E.map Prod.fst,x∈X) :
  okSl H bc=True∧lenC bc=q.blocks.length∧bc.elemSz=5∧rowsOf H bc=Qm q.blocks:=
 have s:=h.rd kn hX
 ⟨eq_true s.ok,by rw[s.len,Qk],s.sz,s.rows⟩
theorem CodeR.mid {F H:Heap}{bc:C}{q:CodeD}{L:List (Nat×Obj)}(h:CodeR F [] bc q)(kn:Kn F H [] L):CodeR H (L.map Prod.fst) bc q:=
 ⟨h.ow,fun H1 hh=>h.s H1 fun m hm _=>by
  have h1:=kn.chg m hm (by simp)
  rw[hh m (by rw[h1];exact hm) fun hx=>?_,h1]
  obtain⟨p,hp,he⟩:=List.mem_map.1 hx
  exact hm (he▸kn.loc p hp)⟩
theorem CodeR.nil {F:Heap}{X:List Nat}{bc:C}{q:CodeD}(h:CodeR F X bc q):CodeR F [] bc q:=⟨h.ow,fun H1 hh=>h.s H1 fun m hm _=>hh m hm (by simp)⟩
theorem CodeR.vsl {F:Heap}{X:List Nat}{q:CodeD}{z:Nat}(hz:F z=.vec 5 (Qm q.blocks))(hX:z∉X):CodeR F X (.vsl z 5 0 q.blocks.length) q:=
 ⟨rfl,fun H1 hh=>by
  have h1:H1 z=.vec 5 (Qm q.blocks):=by rw[hh z (by rw[hz];simp) hX,hz]
  exact⟨by simp only[okSl,h1,Qk];exact⟨trivial,by omega⟩,rfl,by simp only[rowsOf,h1,List.drop_zero];exact List.take_of_length_le (by rw[Qk];exact Nat.le_refl _),by simp only[lenC,Qk]⟩⟩
set_option maxHeartbeats 2000000 in
theorem Qawm {q:CodeD}{bc:C}{ic oc cb:C}{orows:List (List C)}{b:Nat}{i:Int}{bs:List Bool}{W:RS'}(ho:q.ok)(hbc:CodeR H [] bc q)(hb:b<q.blocks.length)(hi:-1≤i)(hi2:i<q.blocks[b].ins.length)
  (kn:Kn H0 H E L) (hs:Slc H 1 orows oc) (how:oc.isOw=false) (hiw:ic.isOw=false) (hbl:b<orows.length) (hrow:orows.getD b []=[cb]) (hcb:Slc H 1 (Ql bs) cb) (hcw:cb.isOw=false) (hlen:bs.length=q.regs.toNat) (hm:Mem bs W)
  (hK:∀y bs' H',bs'.length=q.regs.toNat→Mem bs' ((Qa0 q).beh W b (i+1).toNat)→Kn H0 H' E (L++[(y,.vec 1 (Ql bs'))])→K (.c (.vsl y 1 0 q.regs.toNat)) H') :
  Qv prog Qn5 [.ag [.int .i64 q.params,.int .i64 q.regs,bc],.ag [ic,oc],.c (.int .i64 b),.c (.int .i64 i)] H K:=by
 have hr0:=ho.r0
 have hr1:=ho.r1
 obtain⟨y,hy⟩:∃y,q.blocks[b]=y:=⟨_,rfl⟩
 have hyo:y.ok q b:=by rw[←hy];exact ho.bs b hb
 have hil:y.ins.length≤1200∧y.phis.length≤1200:=by rw[←hy];exact ho.il b hb
 rw[hy]at hi2
 have hon:(Qa0 q).on b=if y.jump=1 then []else [y.on.toNat]:=by rw[Qbek hb,hy]
 have hins:(Qa0 q).ins b=y.ins.map fun x=>(Q8b x,toN x.args):=by rw[Qa9f hb,hy]
 have hok:=eq_true hs.ok
 have hol:=hs.len
 have hoz:=hs.sz
 have hor:=hs.rows
 have hok2:=eq_true hcb.ok
 have hol2:=hcb.len
 have hoz2:=hcb.sz
 have hor2:=hcb.rows
 refine Qb Qar Qaww ?_
 refine Qa ?_
 have hbw:=hbc.ow
 simp only[go_sem,how,hiw,hbw]
 refine Qa ?_
 simp only[go_sem,how,hiw,hbw,hcw,hok,hol,hoz,hor,hbl,hrow,hok2,hol2,hoz2,hor2,Qt,hlen,List.nil_append,List.length_nil,Nat.zero_add]
 refine⟨.inl trivial,Qhm _,by simp only[LIM];omega,fun y9 hy9 H1 h1=>?_⟩
 have kn:=kn.al hy9 h1
 simp only[go_sem,Qs2,hbw]
 refine Qa ?_
 have hbs:=hbc.s H1 fun m hm _=>by
  have hne:m≠y9:=fun hh=>hm (by rw[hh];exact hy9)
  rw[h1,Heap.set_other _ _ hne]
 have hbok:=eq_true hbs.ok
 have hbln:=hbs.len
 have hbsz:=hbs.sz
 have hbrw:=hbs.rows
 simp only[go_sem,hbw,hbok,hbln,hbsz,hbrw,hb,Qk,Q7 _ _ hb,BlkD.cells,hy]
 intro x10 hx10 H2 h2
 have kn:=kn.al hx10 h2
 have hx10:=kn.l (L++[(y9,Obj.vec 1 (Ql bs))]).length (l:=x10) (o:=.st [.sl true 2 [],.sl true 4 [],.int .i64 0,.int .i64 0,.sl true 1 []]) (by simp)
 simp only[go_sem,Qs3,hx10]
 intro H3 h3
 have kn:Kn H0 H3 E ((L++[(y9,.vec 1 (Ql bs))])++[(x10,blkC y)]):=by
  have:=kn.stL (L++[(y9,Obj.vec 1 (Ql bs))]).length (x:=x10) (o:=.st [.sl true 2 [],.sl true 4 [],.int .i64 0,.int .i64 0,.sl true 1 []]) (by simp) h3
  simpa[blkC]using this
 have getx:∀{bs1:List Bool} {H4:Heap},Kn H0 H4 E ((L++[(y9,.vec 1 (Ql bs1))])++[(x10,blkC y)])→H4 x10=.st [.sl false 2 (Qaj y.phis),.sl false 4 (Qbo y.ins),.int .i64 y.jump,.int .i64 y.on,.sl false 1 (Qf y.next)]∧H4 y9=.vec 1 (Ql bs1):=fun {bs1 H4} kn=>
  ⟨(kn.get (x10,blkC y) (by simp)).1,(kn.get (y9,.vec 1 (Ql bs1)) (by simp)).1⟩
 have putx:∀{bs1 bs2:List Bool} {H4 H5:Heap},Kn H0 H4 E ((L++[(y9,.vec 1 (Ql bs1))])++[(x10,blkC y)])→H5=H4.set y9 (.vec 1 (Ql bs2))→Kn H0 H5 E ((L++[(y9,.vec 1 (Ql bs2))])++[(x10,blkC y)]):=fun {bs1 bs2 H4 H5} kn h=>by
  have:=kn.stL L.length (x:=y9) (o:=.vec 1 (Ql bs1)) (by simp) h
  simpa using this
 have htk:∀(bs1:List Bool),bs1.length=q.regs.toNat→(Ql bs1).take q.regs.toNat=Ql bs1:=fun bs1 h=>List.take_of_length_le (by rw[Qt];omega)
 refine Q4 ?_
 refine Qa ?_
 obtain⟨hx10,hy9⟩:=getx kn
 simp only[go_sem,hx10]
 refine Qdm (fun e2 H4=>∃(bs1:List Bool),bs1.length=q.regs.toNat∧Mem bs1 ((Qa0 q).endS W b)∧Kn H0 H4 E ((L++[(y9,.vec 1 (Ql bs1))])++[(x10,blkC y)])∧
  lk 3 e2=.c (.int .i64 i)∧lk 9 e2=.c (.vsl y9 1 0 q.regs.toNat)∧lk 10 e2=.c (.ptr x10 0)) ?_ ?_
 ·intro Q hnr _ _
  refine Qe rfl ?_ ?_
  ·intro hc
   have hj:¬y.jump=1:=by simpa using hc
   obtain⟨hv,hvl⟩:=(hyo.on hj).nat
   have hvl':y.on.toNat<bs.length:=by omega
   generalize hr:y.on.toNat=r at *
   refine Qq ?_
   simp only[go_sem,hx10,hy9,hv,hvl,htk _ hlen,Qt,hlen,Qba,Q0 _ _ hvl',Nat.zero_add,Nat.le_refl]
   intro H4 h4
   refine hnr _ _ ⟨_,by rw[List.length_set];exact hlen,?_,putx kn h4,rfl,rfl,rfl⟩
   refine (hm.ins (by omega)).congr fun z=>?_
   rw[Flo.endS,hon,if_neg hj];simp[or_comm]
  ·intro hc
   have hj:y.jump=1:=by simpa using hc
   refine Qh ?_
   try simp only[go_sem]
   refine hnr _ _ ⟨bs,hlen,?_,kn,rfl,rfl,rfl⟩
   refine hm.congr fun z=>?_
   rw[Flo.endS,hon,if_pos hj];simp
 ·rintro e2 H4 ⟨bs1,hlen,hm,kn,l3,l9,l10⟩
  obtain⟨hx10,hy9⟩:=getx kn
  refine Q4 ?_
  refine Qa ?_
  simp only[go_sem,l3,l9,l10,hx10,Qan]
  intro _
  refine⟨Qo (by omega) (by omega),?_⟩
  refine Qg (Qc (Qs (fun m e1 H1=>∃(k:Nat) (j:Int) (bs1:List Bool),m=k∧k≤y.ins.length∧i+1≤k∧j=(k:Int)-1∧bs1.length=q.regs.toNat∧Mem bs1 ((Qa0 q).beh W b k)∧Kn H0 H1 E ((L++[(y9,.vec 1 (Ql bs1))])++[(x10,blkC y)])∧
   e1=[(3,.c (.int .i64 i)),(9,.c (.vsl y9 1 0 q.regs.toNat)),(10,.c (.ptr x10 0)),(11,.c (.int .i64 j))]) y.ins.length ?_ ?_))
  ·refine⟨y.ins.length,_,bs1,rfl,Nat.le_refl _,by omega,rfl,hlen,hm.congr fun z=>?_,kn,rfl⟩
   rw[Flo.beh_end _ _ _ (by rw[hins,List.length_map];exact Nat.le_refl _)]
  ·rintro m e1 H5 ⟨k,j,bs1,rfl,hk,hik,hjk,hlen,hm,kn,rfl⟩
   obtain⟨hx10,hy9⟩:=getx kn
   refine Q4 ?_
   refine Qa ?_
   simp only[go_sem]
   refine Qg (Qe rfl ?_ ?_)
   ·intro hc
    have hgt:i<j:=by simpa using hc
    obtain⟨k,rfl⟩:∃k',m=k'+1:=⟨m-1,by omega⟩
    have hj:j=(k:Int):=by omega
    subst hj
    have hkl:k<y.ins.length:=by omega
    obtain⟨x,hx⟩:∃x,y.ins[k]=x:=⟨_,rfl⟩
    have hxm:x∈y.ins:=by rw[←hx];exact List.getElem_mem hkl
    have hstep:(Qa0 q).beh W b k=Qbiy (Q8b x,toN x.args) ((Qa0 q).beh W b (k+1)):=by
     rw[Flo.beh_step _ _ _ (by rw[hins,List.length_map];exact hkl)]
     simp only[hins,List.getElem_map,hx]
    refine Qh ?_
    try simp only[go_sem]
    refine Qdm (fun e2 H6=>∃(bs2:List Bool),bs2.length=q.regs.toNat∧Mem bs2 ((Qa0 q).beh W b k)∧Kn H0 H6 E ((L++[(y9,.vec 1 (Ql bs2))])++[(x10,blkC y)])∧
     lk 3 e2=.c (.int .i64 i)∧lk 9 e2=.c (.vsl y9 1 0 q.regs.toNat)∧lk 10 e2=.c (.ptr x10 0)∧lk 11 e2=.c (.int .i64 k)) ?_ ?_
    ·intro Q hnr _ _
     refine Qc ?_
     refine Qa ?_
     simp only[go_sem,hx10,hkl,Qan,Qbs _ _ hkl,InsD.take4,InsD.allOw,InsD.len4,hx]
     refine Qai4 ?_
     simp only[go_sem,Qs4]
     refine Q4 ?_
     refine Qa ?_
     simp only[go_sem]
     refine Qdm (fun e2 H6=>∃(bs2:List Bool),bs2.length=q.regs.toNat∧Mem bs2 (fun r=>(Qa0 q).beh W b (k+1) r∧Q8b x≠some r)∧Kn H0 H6 E ((L++[(y9,.vec 1 (Ql bs2))])++[(x10,blkC y)])∧
      lk 3 e2=.c (.int .i64 i)∧lk 9 e2=.c (.vsl y9 1 0 q.regs.toNat)∧lk 10 e2=.c (.ptr x10 0)∧lk 11 e2=.c (.int .i64 k)) ?_ ?_
     ·intro Q hnr _ _
      refine Qe rfl ?_ ?_
      ·intro hc2
       have hmk:Qd1 x.op=true:=by
        cases hmk:Qd1 x.op with
        |true=>rfl
        |false=>simp[Qmt,hmk]at hc2
       obtain⟨hv,hvl⟩:=(hyo.to x hxm hmk).nat
       have hvl':x.to.toNat<bs1.length:=by omega
       have hmi:Qmt x=x.to:=by rw[Qmt,hmk];rfl
       have hmo:Q8b x=some x.to.toNat:=by rw[Q8b,hmk];rfl
       rw[hmi]
       rw[hmo]at hnr
       generalize hr:x.to.toNat=r at *
       refine Qq ?_
       simp only[go_sem,hx10,hy9,hv,hvl,htk _ hlen,Qt,hlen,Qba,Q0 _ _ hvl',Nat.zero_add,Nat.le_refl]
       intro H6 h6
       refine hnr _ _ ⟨_,by rw[List.length_set];exact hlen,?_,putx kn h6,rfl,rfl,rfl,rfl⟩
       refine (hm.del (by omega)).congr fun z=>?_
       simp[eq_comm]
      ·intro hc2
       have hmk:Qd1 x.op=false:=by
        cases hmk:Qd1 x.op with
        |false=>rfl
        |true=>
         have:=(hyo.to x hxm hmk).1
         simp[Qmt,hmk]at hc2;omega
       have hmo:Q8b x=none:=by rw[Q8b,hmk];rfl
       rw[hmo]at hnr
       refine Qh ?_
       try simp only[go_sem]
       exact hnr _ _ ⟨bs1,hlen,hm.congr fun z=>by simp,kn,rfl,rfl,rfl,rfl⟩
     ·rintro e2 H6 ⟨bs2,hlen,hm,kn,l3,l9,l10,l11⟩
      refine Qa ?_
      simp only[go_sem,l3,l9,l10,l11]
      refine Qc (Qs (fun m e1 H1=>∃(a:Nat) (bs2:List Bool),m=x.args.length-a∧a≤x.args.length∧bs2.length=q.regs.toNat∧Mem bs2 (fun r=>r∈(toN x.args).take a∨((Qa0 q).beh W b (k+1) r∧Q8b x≠some r))∧Kn H0 H1 E ((L++[(y9,.vec 1 (Ql bs2))])++[(x10,blkC y)])∧
       e1=[(3,.c (.int .i64 i)),(9,.c (.vsl y9 1 0 q.regs.toNat)),(10,.c (.ptr x10 0)),(11,.c (.int .i64 k)),(13,.c (.int .i64 a))]) x.args.length ?_ ?_)
      ·exact⟨0,bs2,by omega,by omega,hlen,hm.congr fun z=>by simp,kn,rfl⟩
      ·rintro m2 e1 H7 ⟨a,bs2,hm2,ha,hlen,hm,kn,rfl⟩
       obtain⟨hx10,hy9⟩:=getx kn
       refine Q4 ?_
       refine Qa ?_
       simp only[go_sem,hx10,hkl,Qan,Qbs _ _ hkl,InsD.cells,hx,Qd]
       intro hal
       simp only[LIM]at hal
       refine Qg (Qe rfl ?_ ?_)
       ·intro hc2
        have hlt:a<x.args.length:=by simpa using hc2
        obtain⟨hv,hvl⟩:=(hyo.args x hxm _ (Qjb hlt)).nat
        have htk2:=Qbhc hlt
        have hvl':(x.args.getD a 0).toNat<bs2.length:=by omega
        generalize hr:(x.args.getD a 0).toNat=r at *
        refine Qh ?_
        try simp only[go_sem]
        refine Qg (Qc ?_)
        refine Qq ?_
        simp only[go_sem,hx10,hy9,hkl,Qan,Qbs _ _ hkl,InsD.cells,hx,hlt,Qd,Qx _ _ hlt,hv,hvl,htk _ hlen,Qt,hlen,Qba,Q0 _ _ hvl',Nat.zero_add,Nat.le_refl]
        intro H8 h8
        refine Qq ?_
        simp only[go_sem,X.next]
        refine⟨Qo (by omega) (by omega),x.args.length-(a+1),by omega,a+1,_,rfl,by omega,by rw[List.length_set];exact hlen,?_,putx kn h8,rfl⟩
        refine (hm.ins (by omega)).congr fun z=>?_
        rw[htk2]
        simp only[List.mem_append,List.mem_singleton]
        constructor
        ·rintro (h|h|h)
         ·exact .inl (.inr h)
         ·exact .inl (.inl h)
         ·exact .inr h
        ·rintro ((h|h)|h)
         ·exact .inr (.inl h)
         ·exact .inl h
         ·exact .inr (.inr h)
       ·intro hc2
        have hge:x.args.length≤a:=by simpa using hc2
        refine Qr ?_
        simp only[go_sem,X.next]
        refine hnr _ _ ⟨bs2,hlen,hm.congr fun z=>?_,kn,rfl,rfl,rfl,rfl⟩
        rw[hstep,List.take_of_length_le (by simpa[toN]using hge)];rfl
    ·rintro e2 H6 ⟨bs2,hlen,hm,kn,l3,l9,l10,l11⟩
     refine Qq ?_
     simp only[go_sem,X.next,l3,l9,l10,l11]
     exact⟨Qo (by omega) (by omega),k,by omega,k,(k:Int)-1,bs2,rfl,by omega,by omega,rfl,hlen,hm,kn,rfl⟩
   ·intro hc
    have hle:¬i<j:=by simpa using hc
    refine Qr ?_
    simp only[go_sem,X.next]
    refine Qa ?_
    simp only[go_sem]
    refine Qj ?_
    simp only[go_sem,Q6,Qab,Q8u,List.mem_singleton,forall_eq,RS.op]
    have e1:(i+1).toNat=m:=by omega
    exact hK y9 bs1 H5 hlen (by rw[e1];exact hm) kn.drop
end Go.AE.Y

namespace Go.AE.Y
attribute [local go_sem] cond_true cond_false Bool.not_true Bool.not_false
open Go.Proofs.Tryz
variable {H H0 F:Heap}{K:V→Heap→Prop}{E L:List (Nat×Obj)}
structure SetO where
 c:C
 lg:List (Nat×Obj)
 ks:List Nat
structure SetO.ok (R:Nat)(s:SetO):Prop where
 nd:s.ks.Nodup
 lt:∀x∈s.ks,x<R
 m:(s.c=.mnil∧s.lg=[]∧s.ks=[])∨∃M ver,s.c=.mp M∧s.lg=[(M,.map ver (Qhk s.ks))]
def Qbm1 (ss:List SetO):List (List C):=ss.map fun s=>[s.c]
theorem SetO.ok.isOw {R:Nat}{s:SetO}(h:s.ok R):s.c.isOw=false:=by rcases h.m with ⟨h,_⟩|⟨M,ver,h,_⟩ <;> rw[h] <;> rfl
theorem SetO.ok.len {R:Nat}{s:SetO}(h:s.ok R):s.ks.length≤R:=Q1j h.nd h.lt
def imE (q:CodeD)(fl:Bool)(l yi yp:Nat)(ss:List SetO)(pr:List (List C)):List (Nat×Obj):=
 [(l,.st [.int .i64 q.params,.int .i64 q.regs,.sl fl 5 (Qm q.blocks),.vsl yi 1 0 q.blocks.length,.vsl yp 1 0 q.blocks.length]),(yi,.vec 1 (Qbm1 ss)),(yp,.vec 1 pr)]++ss.flatMap SetO.lg
structure imOk (q:CodeD)(ss:List SetO)(pr:List (List C)):Prop where
 l:ss.length=q.blocks.length
 s:∀s∈ss,s.ok q.regs.toNat
 pl:pr.length=q.blocks.length
 p:∀b,b<q.blocks.length→∃fl,pr.getD b []=[.sl fl 1 (Qf (Q8 (gnx q) (b:Int) q.blocks.length))]
def tabS (ss:List SetO)(b:Nat):RS':=fun r=>r∈((ss[b]?.map SetO.ks).getD [])
variable {q:CodeD}{fl:Bool}{l yi yp:Nat}{ss:List SetO}{pr:List (List C)}
end Go.AE.Y

namespace Go.AE.Y
attribute [local instance] Classical.propDecidable
def tab (zs:List (Nat×List Bool))(b:Nat):RS':=fun r=>(((zs[b]?).map Prod.snd).getD []).getD r false=true
variable {zs zi zo:List (Nat×List Bool)}{F:Flo}
theorem Qbdw {b:Nat}(h:b<zs.length)(r:Nat):tab zs b r↔zs[b].2.getD r false=true:=by simp[tab,h]
theorem Qa4y {b:Nat}{x:Nat×List Bool}(h:b<zs.length)(r:Nat):tab (zs.set b x) b r↔x.2.getD r false=true:=by simp[tab,h]
theorem Qq7 {b c:Nat}{x:Nat×List Bool}(h:c≠b):tab (zs.set b x) c=tab zs c:=by
 funext r
 simp only[tab]
 rw[List.getElem?_set_ne (fun e=>h e.symm)]
theorem Qavp {α:Type}{l:List α}{i:Nat}{x:α}(h:l[i]? = some x):l.set i x=l:=by
 have hi:=(List.getElem?_eq_some_iff.1 h).1
 refine List.ext_getElem? fun j=>?_
 rw[List.getElem?_set]
 by_cases hij:i=j
 ·subst hij;rw[if_pos rfl,if_pos hi,h]
 ·rw[if_neg hij]
theorem Q7b {a b:List Bool}(hl:a.length=b.length)(h:∀r,a.getD r false=true→b.getD r false=true):cnt a≤cnt b∧(∀r,a.getD r false≠b.getD r false→cnt a<cnt b):=by
 induction a generalizing b with
 |nil=>
  cases b with
  |nil=>exact⟨Nat.le_refl _,fun r hr=>absurd rfl hr⟩
  |cons=>simp at hl
 |cons x a ih=>
  cases b with
  |nil=>simp at hl
  |cons y b=>
   have ih':=ih (b:=b) (by simpa using hl) fun r hr=>by have:=h (r+1);simpa using this (by simpa using hr)
   have h0:x=true→y=true:=by have:=h 0;simpa using this
   have hc:∀(z:Bool) (l:List Bool),cnt (z::l)=cnt l+(if z=true then 1 else 0):=fun z l=>by
    simp only[cnt,List.count_cons];cases z <;> simp
   rw[hc,hc]
   refine⟨?_,fun r hr=>?_⟩
   ·cases x with
    |false=>have:=ih'.1;cases y <;> simp <;> omega
    |true=>rw[h0 rfl];have:=ih'.1;simp;omega
   ·cases r with
    |zero=>
     have hxy:x≠y:=by simpa using hr
     cases x with
     |true=>exact absurd (h0 rfl).symm hxy
     |false=>
      cases y with
      |false=>exact absurd rfl hxy
      |true=>have:=ih'.1;simp;omega
    |succ r=>
     have:=ih'.2 r (by simpa using hr)
     cases x with
     |false=>cases y <;> simp <;> omega
     |true=>rw[h0 rfl];simp;omega
def Qke (zs:List (Nat×List Bool)):Nat:=(zs.map fun p=>cnt p.2).sum
theorem Qa4z {b:Nat}{x:Nat×List Bool}(h:b<zs.length):Qke (zs.set b x)+cnt zs[b].2=Qke zs+cnt x.2:=by
 induction zs generalizing b with
 |nil=>simp at h
 |cons z zs ih=>
  cases b with
  |zero=>simp[Qke];omega
  |succ b=>
   have:=ih (b:=b) (by simpa using h)
   simp only[Qke,List.set_cons_succ,List.map_cons,List.sum_cons,List.getElem_cons_succ]at this⊢
   omega
theorem Qanm {R:Nat}(h:∀p∈zs,p.2.length=R):Qke zs≤zs.length * R:=by
 induction zs with
 |nil=>simp[Qke]
 |cons z zs ih=>
  have h1:=Qa31 z.2
  rw[h z List.mem_cons_self]at h1
  have h2:=ih fun p hp=>h p (List.mem_cons_of_mem _ hp)
  simp only[Qke,List.map_cons,List.sum_cons,List.length_cons,Nat.succ_mul]at *
  omega
structure LvInv (F:Flo)(zi zo:List (Nat×List Bool)):Prop where
 bi:∀b,b<F.n→∀r,tab zi b r→F.LI b r
 bo:∀b,b<F.n→∀r,tab zo b r→F.LO b r
 post:∀b,b<F.n→∀r,tab zi b r→F.thru (tab zo b) b r
def LvCl (F:Flo)(zi zo:List (Nat×List Bool))(b:Nat):Prop:=(∀r,F.outT (tab zi) b r→tab zo b r)∧∀r,F.thru (tab zo b) b r→tab zi b r
theorem LvInv.done (h:LvInv F zi zo)(hf:F.fits)(hc:∀b,b<F.n→LvCl F zi zo b):∀b,b<F.n→∀r,(tab zi b r↔F.LI b r)∧(tab zo b r↔F.LO b r):=by
 have hp:F.Pre (tab zi):=fun b hb r hr=>(hc b hb).2 r (Flo.thru_mono (hc b hb).1 b r hr)
 intro b hb r
 refine⟨Flo.is_least hp h.bi hb r,h.bo b hb r,fun hr=>(hc b hb).1 r ?_⟩
 exact Flo.outT_mono hf (fun c hc r hr=>(Flo.is_least hp h.bi hc r).2 hr) hb r hr
theorem LvInv.step {R z w y b:Nat}{bs bw bs1 nb:List Bool}{a a1 a2:Bool}(h:LvInv F zi zo)(hf:F.fits)(hb:b<F.n)(hil:zi.length=F.n)(hol:zo.length=F.n)(hRi:∀p∈zi,p.2.length=R)(hRo:∀p∈zo,p.2.length=R)
  (hl1:bs1.length=R) (hln:nb.length=R) (hzo:zo[b]? = some (z,bs)) (hzi:zi[b]? = some (w,bw))
  (g1:∀r,bs.getD r false=true→bs1.getD r false=true) (g2:∀r,bs1.getD r false=true→F.LO b r) (g3:∀r,F.outT (tab zi) b r→bs1.getD r false=true)
  (g4:∀r,nb.getD r false=true↔F.thru (fun r=>bs1.getD r false=true) b r)
  (k1:a1=true→a=true∨cnt bs<cnt bs1) (k2:a1=false→a=false∧bs1=bs)
  (k3:a2=true→a1=true∨∃r,nb.getD r false≠bw.getD r false) (k4:a2=false→a1=false∧∀r,r<R→nb.getD r false=bw.getD r false) :
  LvInv F (zi.set b (y,nb)) (zo.set b (z,bs1))∧Qke zi+Qke zo≤Qke (zi.set b (y,nb))+Qke (zo.set b (z,bs1))∧
   (a2=true→a=true∨Qke zi+Qke zo<Qke (zi.set b (y,nb))+Qke (zo.set b (z,bs1)))∧
   (a2=false→a=false∧LvCl F (zi.set b (y,nb)) (zo.set b (z,bs1)) b∧∀c,LvCl F zi zo c→LvCl F (zi.set b (y,nb)) (zo.set b (z,bs1)) c):=by
 have hbi:b<zi.length:=by omega
 have hbo:b<zo.length:=by omega
 have ezo:zo[b]=(z,bs):=by rw[List.getElem?_eq_getElem hbo]at hzo;simpa using hzo
 have ezi:zi[b]=(w,bw):=by rw[List.getElem?_eq_getElem hbi]at hzi;simpa using hzi
 have hlb:bs.length=R:=hRo (z,bs) (by rw[←ezo];exact List.getElem_mem hbo)
 have hlw:bw.length=R:=hRi (w,bw) (by rw[←ezi];exact List.getElem_mem hbi)
 have tzo:∀r,tab zo b r↔bs.getD r false=true:=fun r=>by rw[Qbdw hbo,ezo]
 have tzi:∀r,tab zi b r↔bw.getD r false=true:=fun r=>by rw[Qbdw hbi,ezi]
 have tzo':∀r,tab (zo.set b (z,bs1)) b r↔bs1.getD r false=true:=fun r=>Qa4y hbo r
 have tzi':∀r,tab (zi.set b (y,nb)) b r↔nb.getD r false=true:=fun r=>Qa4y hbi r
 have hsub:∀r,bw.getD r false=true→nb.getD r false=true:=fun r hr=>by
  rw[g4]
  exact Flo.thru_mono (fun r hr=>g1 r ((tzo r).1 hr)) b r (h.post b hb r ((tzi r).2 hr))
 have c1:=Q7b (a:=bs) (b:=bs1) (by omega) g1
 have c2:=Q7b (a:=bw) (b:=nb) (by omega) hsub
 have t1:=Qa4z (zs:=zo) (x:=(z,bs1)) hbo
 have t2:=Qa4z (zs:=zi) (x:=(y,nb)) hbi
 rw[ezo]at t1
 rw[ezi]at t2
 simp only at t1 t2
 refine⟨⟨fun c hc r hr=>?_,fun c hc r hr=>?_,fun c hc r hr=>?_⟩,by have:=c1.1;have:=c2.1;omega,fun ha=>?_,fun ha=>?_⟩
 ·by_cases hcb:c=b
  ·subst hcb
   rw[tzi',g4]at hr
   exact Flo.LI_pre hf c hb r (Flo.thru_mono g2 c r hr)
  ·rw[Qq7 hcb]at hr;exact h.bi c hc r hr
 ·by_cases hcb:c=b
  ·subst hcb
   rw[tzo']at hr;exact g2 r hr
  ·rw[Qq7 hcb]at hr;exact h.bo c hc r hr
 ·by_cases hcb:c=b
  ·subst hcb
   rw[tzi',g4]at hr
   exact Flo.thru_mono (fun r hr=>(tzo' r).2 hr) c r hr
  ·rw[Qq7 hcb]at hr⊢;exact h.post c hc r hr
 ·rcases k3 ha with h1|⟨r,hr⟩
  ·rcases k1 h1 with h2|h2
   ·exact .inl h2
   ·right;have:=c2.1;omega
  ·right
   have:=c2.2 r (fun e=>hr e.symm)
   have:=c1.1
   omega
 ·obtain⟨h1,h2⟩:=k4 ha
  obtain⟨h3,h4⟩:=k2 h1
  have hnb:∀r,nb.getD r false=bw.getD r false:=fun r=>by
   by_cases hr:r<R
   ·exact h2 r hr
   ·rw[List.getD_eq_getElem?_getD,List.getD_eq_getElem?_getD,List.getElem?_eq_none (by omega),List.getElem?_eq_none (by omega)]
  have ti:tab (zi.set b (y,nb))=tab zi:=by
   funext c r
   by_cases hcb:c=b
   ·subst hcb;refine propext ?_;rw[tzi',tzi,hnb]
   ·rw[Qq7 hcb]
  have to:tab (zo.set b (z,bs1))=tab zo:=by
   funext c r
   by_cases hcb:c=b
   ·subst hcb;refine propext ?_;rw[tzo',tzo,h4]
   ·rw[Qq7 hcb]
  refine⟨h3,⟨fun r hr=>?_,fun r hr=>?_⟩,fun c hc=>?_⟩
  ·rw[ti]at hr
   exact (tzo' r).2 (g3 r hr)
  ·rw[tzi',g4]
   exact Flo.thru_mono (fun r hr=>(tzo' r).1 hr) b r hr
  ·rw[LvCl,ti,to];exact hc
end Go.AE.Y

namespace Go.AE.Y
attribute [local go_sem] cond_true cond_false Bool.not_true Bool.not_false
open Go.Proofs.Tryz
variable {H H0 F:Heap}{K:V→Heap→Prop}{E L:List (Nat×Obj)}
def Qby (R:Nat)(zs:List (Nat×List Bool)):List (List C):=zs.map fun p=>[.vsl p.1 1 0 R]
def obZ (zs:List (Nat×List Bool)):List (Nat×Obj):=zs.map fun p=>(p.1,.vec 1 (Ql p.2))
theorem Qay (R:Nat)(zs:List (Nat×List Bool)):(Qby R zs).length=zs.length:=by simp[Qby]
theorem Qdk (R:Nat)(zs:List (Nat×List Bool))(i:Nat)(h:i<zs.length):(Qby R zs).getD i []=[.vsl zs[i].1 1 0 R]:=by simp[Qby,List.getD_eq_getElem?_getD,h]
theorem Qaph {R:Nat}{zs:List (Nat×List Bool)}{i:Nat}{x:Nat×List Bool}(h:i<zs.length)(hx:x.1=zs[i].1):Qby R (zs.set i x)=Qby R zs:=by
 rw[Qby,List.map_set,hx]
 refine List.ext_getElem? fun j=>?_
 rw[List.getElem?_set]
 split
 ·subst_vars;rw[if_pos (by simpa using h)];simp[Qby,h]
 ·rfl
def lvE (R yi yo:Nat)(zi zo:List (Nat×List Bool)):List (Nat×Obj):=[(yi,.vec 1 (Qby R zi)),(yo,.vec 1 (Qby R zo))]++(obZ zi++obZ zo)
variable {R yi yo:Nat}{zi zo:List (Nat×List Bool)}
theorem Qbmf {b:Nat}(hb:b<zo.length):(lvE R yi yo zi zo)[2+zi.length+b]? = some (zo[b].1,.vec 1 (Ql zo[b].2)):=by
 have:2+zi.length+b=(zi.length+b)+1+1:=by omega
 rw[lvE,this]
 simp only[List.cons_append,List.nil_append,List.getElem?_cons_succ]
 rw[List.getElem?_append_right (by simp[obZ])]
 simp[obZ,hb]
theorem Qbje {b z:Nat}{bs:List Bool}(hb:b<zo.length)(hz:zo[b].1=z):(lvE R yi yo zi zo).set (2+zi.length+b) (z,.vec 1 (Ql bs))=lvE R yi yo zi (zo.set b (z,bs)):=by
 have:2+zi.length+b=(zi.length+b)+1+1:=by omega
 rw[lvE,lvE,this,Qaph hb hz.symm]
 simp only[List.cons_append,List.nil_append,List.set_cons_succ]
 rw[List.set_append_right _ _ (by simp[obZ])]
 simp[obZ,List.map_set]
theorem Qaju {b m z w:Nat}{bs nb:List Bool}(kn:Kn F H (lvE R yi yo zi (zo.set b (z,bs))) L)(hb:b<zo.length)(hz:zo[b].1=z)(hm:m<zi.length)(hw:zi[m]=(w,nb)) :
  H yi=.vec 1 (Qby R zi)∧H yo=.vec 1 (Qby R zo)∧H z=.vec 1 (Ql bs)∧H w=.vec 1 (Ql nb):=by
 refine⟨(kn.get (yi,.vec 1 (Qby R zi)) (by simp[lvE])).1,?_,(kn.get (z,.vec 1 (Ql bs)) ?_).1,(kn.get (w,.vec 1 (Ql nb)) ?_).1⟩
 ·rw[←Qaph (R:=R) (x:=(z,bs)) hb hz.symm]
  exact (kn.get (yo,.vec 1 (Qby R (zo.set b (z,bs)))) (by simp[lvE])).1
 ·refine List.mem_append_left _ (List.mem_append_right _ (List.mem_append_right _ (List.mem_map.2 ⟨(z,bs),?_,rfl⟩)))
  exact List.mem_iff_getElem.2 ⟨b,by simpa using hb,by simp⟩
 ·exact List.mem_append_left _ (List.mem_append_right _ (List.mem_append_left _ (List.mem_map.2 ⟨(w,nb),by rw[←hw];exact List.getElem_mem hm,rfl⟩)))
theorem Qbjd {b z:Nat}{bs bs2:List Bool}{H':Heap}(kn:Kn F H (lvE R yi yo zi (zo.set b (z,bs))) L)(hb:b<zo.length)(h:H'=H.set z (.vec 1 (Ql bs2))):Kn F H' (lvE R yi yo zi (zo.set b (z,bs2))) L:=by
 have hb':b<(zo.set b (z,bs)).length:=by simpa using hb
 have:=kn.stE (2+zi.length+b) (x:=z) (o:=.vec 1 (Ql bs)) (by have h:=Qbmf (R:=R) (yi:=yi) (yo:=yo) (zi:=zi) hb';simpa using h) h
 rw[Qbje hb' (by simp),List.set_set]at this
 exact this
theorem Qbag {b z:Nat}{bs bs2:List Bool}:(lvE R yi yo zi (zo.set b (z,bs))).map Prod.fst=(lvE R yi yo zi (zo.set b (z,bs2))).map Prod.fst:=by
 have e:∀bs:List Bool,(obZ (zo.set b (z,bs))).map Prod.fst=(zo.map Prod.fst).set b z:=fun bs=>by
  simp only[obZ,List.map_set,List.map_map];rfl
 simp only[lvE,List.map_append,List.map_cons,List.map_nil,e]
theorem Qyx {bs:List Bool}{r:Nat}(h:bs.getD r false=true):bs.set r true=bs:=by
 refine List.ext_getElem? fun j=>?_
 rw[List.getElem?_set]
 split
 ·subst_vars
  rw[List.getD_eq_getElem?_getD]at h
  split
  ·rename_i hl;rw[List.getElem?_eq_getElem hl]at h⊢;simp at h;rw[h]
  ·rename_i hl;rw[List.getElem?_eq_none (by omega)]
 ·rfl
structure lvOk (R n:Nat)(zi zo:List (Nat×List Bool)):Prop where
 i:zi.length=n
 o:zo.length=n
 li:∀p∈zi,p.2.length=R
 lo:∀p∈zo,p.2.length=R
set_option maxHeartbeats 4000000 in
theorem Qa90 {q:CodeD}{bc:C}{Xs:List Nat}{b m z:Nat}{bs nb:List Bool}{w:Nat}(ho:q.ok)(hbc:CodeR F Xs bc q)(hX:∀x∈(lvE q.regs.toNat yi yo zi zo).map Prod.fst,x∈Xs)(hb:b<q.blocks.length)(hmx:(m:Int)∈gnx q b)(hok:lvOk q.regs.toNat q.blocks.length zi zo)
  (hz:zo[b]? = some (z,bs)) (hw:zi[m]? = some (w,nb)) {O I:RS'} (hO:Mem bs O) (hI:Mem nb I)
  (kn:Kn F H (lvE q.regs.toNat yi yo zi zo) [])
  (hK:∀(bs':List Bool) (a:Bool) H',bs'.length=q.regs.toNat→Mem bs' (fun r=>O r∨I r∨r∈(Qa0 q).ea b m)→(a=true→cnt bs<cnt bs')→(a=false→bs'=bs)→Kn F H' (lvE q.regs.toNat yi yo zi (zo.set b (z,bs'))) []→K (.c (.bool a)) H') :
  Qv prog Qy9 [.ag [.int .i64 q.params,.int .i64 q.regs,bc],.ag [.vsl yi 1 0 q.blocks.length,.vsl yo 1 0 q.blocks.length],.c (.int .i64 b),.c (.int .i64 m)] H K:=by
 have hr0:=ho.r0
 have hr1:=ho.r1
 have hb1:=ho.b1
 have hmb:m<q.blocks.length:=by
  have:=(ho.bs b hb).nx (m:Int) (by rw[←Qv0 hb];exact hmx)
  omega
 have hix:=ho.ix hb hmx
 have hpe:(b:Int)∈Q8 (gnx q) (m:Int) q.blocks.length:=List.idxOf_lt_length_iff.1 hix
 obtain⟨y,hy⟩:∃y,q.blocks[m]=y:=⟨_,rfl⟩
 have hyo:y.ok q m:=by rw[←hy];exact ho.bs m hmb
 have hil:y.ins.length≤1200∧y.phis.length≤1200:=by rw[←hy];exact ho.il m hmb
 have hea:(Qa0 q).ea b m=y.phis.map fun p=>(p.args.getD ((Q8 (gnx q) (m:Int) q.blocks.length).idxOf (b:Int)) 0).toNat:=by rw[Qbej hmb,hy]
 generalize hat:(Q8 (gnx q) (m:Int) q.blocks.length).idxOf (b:Int)=at_ at *
 have hbo:b<zo.length:=by rw[hok.o];exact hb
 have hmi:m<zi.length:=by rw[hok.i];exact hmb
 have hz':zo[b]=(z,bs):=by rw[List.getElem?_eq_getElem hbo]at hz;simpa using hz
 have hw':zi[m]=(w,nb):=by rw[List.getElem?_eq_getElem hmi]at hw;simpa using hw
 have hz1:zo[b].1=z:=by rw[hz']
 have hw1:zi[m].1=w:=by rw[hw']
 have hbl:bs.length=q.regs.toNat:=hok.lo (z,bs) (by rw[←hz'];exact List.getElem_mem hbo)
 have hnl:nb.length=q.regs.toNat:=hok.li (w,nb) (by rw[←hw'];exact List.getElem_mem hmi)
 have hzl:=hok.o
 have hil2:=hok.i
 have hset:zo.set b (z,bs)=zo:=Qavp hz
 have htk:∀(bs1:List Bool),bs1.length=q.regs.toNat→(Ql bs1).take q.regs.toNat=Ql bs1:=fun bs1 h=>List.take_of_length_le (by rw[Qt];omega)
 have htz:∀(zs:List (Nat×List Bool)),zs.length=q.blocks.length→(Qby q.regs.toNat zs).take q.blocks.length=Qby q.regs.toNat zs:=fun zs h=>List.take_of_length_le (by rw[Qay];omega)
 rw[←hset]at kn hX
 have hbw:=hbc.ow
 have hX2:∀(bs1:List Bool),∀x∈(lvE q.regs.toNat yi yo zi (zo.set b (z,bs1))).map Prod.fst,x∈Xs:=fun bs1 x hx=>hX x (by rw[Qbag (bs2:=bs)]at hx;exact hx)
 obtain⟨hyi,hyo',hzz,hww⟩:=Qaju kn hbo hz1 hmi hw'
 refine Qb Qar Qbas ?_
 refine Qa ?_
 simp only[go_sem,hbw]
 refine Qa ?_
 simp only[go_sem,hbw,hyi,hww,htz _ hil2,htk _ hnl,Qay,Qdk _ _ _ hmi,hw1,hmb,hil2,Qt,hnl,Nat.zero_add,Nat.le_refl,List.nil_append,List.length_nil]
 refine⟨.inl trivial,Qhm _,by simp only[LIM];omega,fun y9 hy9 H1 h1=>?_⟩
 have kn:=kn.al hy9 h1
 simp only[go_sem,Q2o,hbw]
 refine Qa ?_
 simp only[go_sem,hbw]
 refine Qe1 (rows:=Qm q.blocks) (nx:=gnx q) (hbc.rd kn hX) hbw (Qht H1 q false).x fun H2 hu=>?_
 have kn:=kn.call0 hu
 rw[Qk]
 simp only[go_sem,Q2q]
 refine Qajo (.mk' _ _ _ _) rfl fun r hr=>?_
 have hr:=hr.idx hpe
 rw[hat]at hr
 subst hr
 simp only[go_sem,Q2p]
 refine Q4 ?_
 refine Qa ?_
 simp only[go_sem]
 refine Qg (Qc (Qs (fun m1 e1 H1=>∃(i:Nat) (nb1:List Bool),m1=y.phis.length-i∧i≤y.phis.length∧nb1.length=q.regs.toNat∧Mem nb1 (fun r=>I r∨r∈((Qa0 q).ea b m).take i)∧Kn F H1 (lvE q.regs.toNat yi yo zi (zo.set b (z,bs))) [(y9,.vec 1 (Ql nb1))]∧
  e1=[(2,.c (.int .i64 b)),(3,.c (.int .i64 m)),(4,.c (.pp [.int .i64 q.params,.int .i64 q.regs,bc])),(5,.c (.pp [.vsl yi 1 0 q.blocks.length,.vsl yo 1 0 q.blocks.length])),(9,.c (.vsl y9 1 0 q.regs.toNat)),(10,.c (.int .i64 at_)),(11,.c (.int .i64 i))]) y.phis.length ?_ ?_))
 ·exact⟨0,nb,by omega,by omega,hnl,hI.congr fun r=>by simp,kn,rfl⟩
 ·rintro m1 e1 H3 ⟨i,nb1,hm1,hi,hnl,hN,kn,rfl⟩
  have hy9:=kn.l 0 rfl
  obtain⟨hbok,hbln,hbsz,hbrw⟩:=hbc.facts kn (hX2 bs)
  refine Q4 ?_
  refine Qa ?_
  simp only[go_sem,hbw,hbok,hbln,hbsz,hbrw,hmb,Qk,Q7 _ _ hmb,hy,BlkD.cells,Q9]
  intro _
  refine Qg (Qe rfl ?_ ?_)
  ·intro hc
   have hlt:i<y.phis.length:=by simpa using hc
   have hpal:=hyo.pal _ (List.getElem_mem hlt)
   have hal:at_<y.phis[i].args.length:=by omega
   obtain⟨hv,hvl⟩:=(hyo.pargs _ (List.getElem_mem hlt) _ (Qjb hal)).nat
   have htk2:((Qa0 q).ea b m).take (i+1)=((Qa0 q).ea b m).take i++[(y.phis[i].args.getD at_ 0).toNat]:=by
    rw[List.take_succ_eq_append_getElem (by rw[hea,List.length_map];exact hlt)]
    simp[hea]
   have hvl':(y.phis[i].args.getD at_ 0).toNat<nb1.length:=by omega
   generalize hr:(y.phis[i].args.getD at_ 0).toNat=r at *
   refine Qh ?_
   try simp only[go_sem]
   refine Qg (Qc ?_)
   refine Qq ?_
   simp only[go_sem,hbw,hbok,hbln,hbsz,hbrw,hmb,Qk,Q7 _ _ hmb,hy,BlkD.cells,Q9,hlt,Qbg _ _ hlt,PhiD.cells,hal,Qd,Qx _ _ hal,hv,hvl,hy9,htk _ hnl,Qt,hnl,Qba,Q0 _ _ hvl',Nat.zero_add,Nat.le_refl]
   intro H4 h4
   have kn:=kn.stL 0 rfl h4
   refine Qq ?_
   simp only[go_sem,X.next]
   refine⟨Qo (by omega) (by omega),y.phis.length-(i+1),by omega,i+1,_,rfl,by omega,by rw[List.length_set];exact hnl,?_,kn,rfl⟩
   refine (hN.ins (by omega)).congr fun x=>?_
   rw[htk2]
   simp only[List.mem_append,List.mem_singleton]
   constructor
   ·rintro (h|h|h)
    ·exact .inr (.inr h)
    ·exact .inl h
    ·exact .inr (.inl h)
   ·rintro (h|h|h)
    ·exact .inr (.inl h)
    ·exact .inr (.inr h)
    ·exact .inl h
  ·intro hc
   have hge:y.phis.length≤i:=by simpa using hc
   have hN:Mem nb1 (fun r=>I r∨r∈(Qa0 q).ea b m):=hN.congr fun r=>by rw[List.take_of_length_le (by rw[hea,List.length_map];exact hge)]
   refine Qr ?_
   simp only[go_sem,X.next]
   refine Qa ?_
   simp only[go_sem]
   refine Q4 ?_
   refine Qa ?_
   simp only[go_sem]
   refine Qg (Qc (Qs (fun m1 e1 H1=>∃(i:Nat) (bs1:List Bool) (more:Bool),m1=q.regs.toNat-i∧i≤q.regs.toNat∧bs1.length=q.regs.toNat∧Mem bs1 (fun r=>O r∨(r<i∧(I r∨r∈(Qa0 q).ea b m)))∧(more=true→cnt bs<cnt bs1)∧(more=false→bs1=bs)∧
    Kn F H1 (lvE q.regs.toNat yi yo zi (zo.set b (z,bs1))) [(y9,.vec 1 (Ql nb1))]∧
    e1=[(2,.c (.int .i64 b)),(4,.c (.pp [.int .i64 q.params,.int .i64 q.regs,bc])),(5,.c (.pp [.vsl yi 1 0 q.blocks.length,.vsl yo 1 0 q.blocks.length])),(9,.c (.vsl y9 1 0 q.regs.toNat)),(12,.c (.bool more)),(13,.c (.int .i64 i))]) q.regs.toNat ?_ ?_))
   ·exact⟨0,bs,false,by omega,by omega,hbl,hO.congr fun r=>by simp,by simp,fun _=>rfl,kn,rfl⟩
   ·rintro m1 e1 H4 ⟨i,bs1,more,hm1,hi,hbl1,hB,hmt,hmf,kn,rfl⟩
    have hy9:=kn.l 0 rfl
    obtain⟨hyi,hyo',hzz,hww⟩:=Qaju kn hbo hz1 hmi hw'
    refine Q4 ?_
    refine Qa ?_
    simp only[go_sem]
    refine Qg (Qe rfl ?_ ?_)
    ·intro hc
     have hlt:i<q.regs.toNat:=by have:(i:Int)<q.regs:=(by simpa using hc);omega
     have hlt':i<nb1.length:=by omega
     have hlt2:i<bs1.length:=by omega
     refine Qh ?_
     try simp only[go_sem]
     refine Qdm (fun e2 H2=>∃(bs2:List Bool) (more:Bool),bs2.length=q.regs.toNat∧Mem bs2 (fun r=>O r∨(r<i+1∧(I r∨r∈(Qa0 q).ea b m)))∧(more=true→cnt bs<cnt bs2)∧(more=false→bs2=bs)∧
      Kn F H2 (lvE q.regs.toNat yi yo zi (zo.set b (z,bs2))) [(y9,.vec 1 (Ql nb1))]∧
      lk 2 e2=.c (.int .i64 b)∧lk 4 e2=.c (.pp [.int .i64 q.params,.int .i64 q.regs,bc])∧lk 5 e2=.c (.pp [.vsl yi 1 0 q.blocks.length,.vsl yo 1 0 q.blocks.length])∧lk 9 e2=.c (.vsl y9 1 0 q.regs.toNat)∧lk 12 e2=.c (.bool more)∧lk 13 e2=.c (.int .i64 i)) ?_ ?_
     ·intro Q hnr _ _
      refine Qc ?_
      refine Qa ?_
      simp only[go_sem,hy9,hlt,htk _ hnl,Qt,hnl,Q0 _ _ hlt',Nat.zero_add,Nat.le_refl]
      refine Qe rfl ?_ ?_
      ·intro hc2
       have hneed:=(hN i).1 hc2
       have hMem:Mem (bs1.set i true) (fun r=>O r∨(r<i+1∧(I r∨r∈(Qa0 q).ea b m))):=(hB.ins hlt2).congr fun r=>by
        constructor
        ·rintro (rfl|h|h)
         ·exact .inr ⟨by omega,hneed⟩
         ·exact .inl h
         ·exact .inr ⟨by omega,h.2⟩
        ·rintro (h|h)
         ·exact .inr (.inl h)
         ·by_cases hri:r=i
          ·exact .inl hri
          ·exact .inr (.inr ⟨by omega,h.2⟩)
       have hset2:∀(e:Env),lk 2 e=.c (.int .i64 b)→lk 4 e=.c (.pp [.int .i64 q.params,.int .i64 q.regs,bc])→lk 5 e=.c (.pp [.vsl yi 1 0 q.blocks.length,.vsl yo 1 0 q.blocks.length])→lk 9 e=.c (.vsl y9 1 0 q.regs.toNat)→lk 12 e=.c (.bool (bif more then true else !bs1.getD i false))→lk 13 e=.c (.int .i64 i)→
         Qae prog Q9y (X.inBlock 3 Q) e H4:=by
        intro e l2 l4 l5 l9 l12 l13
        refine Qq ?_
        simp only[go_sem,l2,l4,l5,l9,l12,l13,hyo',hzz,htz _ hzl,htk _ hbl1,Qay,Qdk _ _ _ hbo,hz1,hb,hzl,hlt,Qt,hbl1,Qba,Q0 _ _ hlt2,Nat.zero_add,Nat.le_refl]
        intro H5 h5
        refine hnr _ _ ⟨bs1.set i true,_,by rw[List.length_set];exact hbl1,hMem,?_,?_,Qbjd kn hbo h5,rfl,rfl,rfl,rfl,rfl,rfl⟩
        ·intro hmo
         cases hg:bs1.getD i false with
         |true=>
          rw[Qyx hg]
          rw[hg]at hmo
          cases hmm:more with
          |true=>exact hmt hmm
          |false=>rw[hmm]at hmo;simp at hmo
         |false=>
          rw[Q7c hlt2 hg]
          cases hmm:more with
          |true=>have:=hmt hmm;omega
          |false=>rw[hmf hmm];omega
        ·intro hmo
         cases hmm:more with
         |true=>rw[hmm]at hmo;simp at hmo
         |false=>
          rw[hmm]at hmo
          have hg:bs1.getD i false=true:=by simpa using hmo
          rw[Qyx hg];exact hmf hmm
       cases hmm:more with
       |true=>
        refine Qa ?_
        simp only[go_sem,hyo',hzz,htz _ hzl,htk _ hbl1,Qay,Qdk _ _ _ hbo,hz1,hb,hzl,hlt,Qt,hbl1,Q0 _ _ hlt2,Nat.zero_add,Nat.le_refl]
        exact hset2 _ rfl rfl rfl rfl (by rw[hmm];rfl) rfl
       |false=>
        refine Qa ?_
        simp only[go_sem,hyo',hzz,htz _ hzl,htk _ hbl1,Qay,Qdk _ _ _ hbo,hz1,hb,hzl,hlt,Qt,hbl1,Q0 _ _ hlt2,Nat.zero_add,Nat.le_refl]
        exact hset2 _ rfl rfl rfl rfl (by rw[hmm];rfl) rfl
      ·intro hc2
       refine Qh ?_
       try simp only[go_sem]
       refine hnr _ _ ⟨bs1,more,hbl1,hB.congr fun r=>?_,hmt,hmf,kn,rfl,rfl,rfl,rfl,rfl,rfl⟩
       constructor
       ·rintro (h|h)
        ·exact .inl h
        ·exact .inr ⟨by omega,h.2⟩
       ·rintro (h|h)
        ·exact .inl h
        ·by_cases hri:r=i
         ·subst hri
          have:=(hN r).2 h.2
          rw[this]at hc2;exact absurd hc2 (by simp)
         ·exact .inr ⟨by omega,h.2⟩
     ·rintro e2 H5 ⟨bs2,more2,hbl2,hB2,hmt2,hmf2,kn,l2,l4,l5,l9,l12,l13⟩
      refine Qq ?_
      simp only[go_sem,X.next,l2,l4,l5,l9,l12,l13]
      exact⟨Qo (by omega) (by omega),q.regs.toNat-(i+1),by omega,i+1,bs2,more2,rfl,by omega,hbl2,hB2,hmt2,hmf2,kn,rfl⟩
    ·intro hc
     have hge:q.regs.toNat≤i:=by have:q.regs≤(i:Int):=(by simpa using hc);omega
     refine Qr ?_
     simp only[go_sem,X.next]
     refine Qa ?_
     simp only[go_sem]
     refine Qj ?_
     simp only[go_sem,Q6,Qab,Qao4,List.mem_singleton,forall_eq,RS.op]
     refine hK bs1 more H4 hbl1 (hB.congr fun r=>?_) hmt hmf (kn.drop (A:=[]))
     constructor
     ·rintro (h|h)
      ·exact .inl h
      ·exact .inr h.2
     ·rintro (h|h)
      ·exact .inl h
      ·have:r<nb1.length:=hN.lt h
       exact .inr ⟨by omega,h⟩
end Go.AE.Y

namespace Go.AE.Y
attribute [local go_sem] cond_true cond_false Bool.not_true Bool.not_false
open Go.Proofs.Tryz
variable {H H0 F:Heap}{K:V→Heap→Prop}{E L:List (Nat×Obj)}
def Qug (zs:List (Nat×List Bool)):List (List C):=zs.map fun p=>[.sl false 1 (Ql p.2)]
theorem Qape (zs:List (Nat×List Bool)):(Qug zs).length=zs.length:=by simp[Qug]
theorem Qaio (zs:List (Nat×List Bool))(i:Nat)(h:i<zs.length):(Qug zs).getD i []=[.sl false 1 (Ql zs[i].2)]:=by simp[Qug,List.getD_eq_getElem?_getD,h]
theorem Qapg {S:Nat→Bool}{R:Nat}{zs:List (Nat×List Bool)}(hl:∀p∈zs,p.2.length=R)(hH:∀p∈obZ zs,H p.1=p.2∧S p.1=true):FrzR H S (Qby R zs) (Qug zs):=by
 induction zs with
 |nil=>exact .nil
 |cons z zs ih=>
  have h1:=hH (z.1,.vec 1 (Ql z.2)) (by simp[obZ])
  refine .cons (.cons ?_ .nil) (ih (fun p hp=>hl p (List.mem_cons_of_mem _ hp)) fun p hp=>hH p (by simp only[obZ,List.map_cons];exact List.mem_cons_of_mem _ hp))
  exact (FrzR.same (Qhm _)).vsl h1.2 h1.1 (by rw[Qt];exact (hl z List.mem_cons_self).symm)
theorem Qbg5 {α:Type}{l:List α}{i:Nat}{x:α}(h:i<l.length):(l++[x]).Perm (l.set i x++[l[i]]):=by
 have e:∀(m:List α) (hm:i<m.length),m.Perm (m[i]::m.eraseIdx i):=fun m hm=>by
  have h1:(m[i]::m.eraseIdx i).Perm m:=by
   rw[List.eraseIdx_eq_take_drop_succ]
   refine List.perm_middle.symm.trans ?_
   rw[←List.drop_eq_getElem_cons hm,List.take_append_drop]
  exact h1.symm
 have h1:=e l h
 have h2:=e (l.set i x) (by simpa using h)
 simp only[List.getElem_set_self,List.eraseIdx_set_eq]at h2
 refine (h1.append_right [x]).trans ?_
 refine List.Perm.trans ?_ (h2.append_right [l[i]]).symm
 simp only[List.cons_append]
 refine (List.Perm.cons _ List.perm_append_comm).trans ?_
 refine List.Perm.trans ?_ (List.Perm.cons _ List.perm_append_comm)
 exact List.Perm.swap _ _ _
def Qbme (q:CodeD)(zi zo:List (Nat×List Bool)):Prop:=lvOk q.regs.toNat q.blocks.length zi zo∧∀b,b<q.blocks.length→∀r,(tab zi b r↔(Qa0 q).LI b r)∧(tab zo b r↔(Qa0 q).LO b r)
theorem Qbbf {zs:List (Nat×List Bool)}{b:Nat}(h:b<zs.length):Mem zs[b].2 (tab zs b):=fun r=>(Qbdw h r).symm
theorem Q9b (n r:Nat):(List.replicate n false).getD r false=false:=by
 rw[List.getD_eq_getElem?_getD,List.getElem?_replicate];split <;> rfl
def Qq8 (x2 x3 yi yo n:Nat):List (Nat×Obj):=[(x2,.st [.sl true 1 [],.sl true 1 []]),(x3,.st [.vsl yi 1 0 n,.vsl yo 1 0 n])]
set_option maxHeartbeats 4000000 in
theorem Qaoc {q:CodeD}{bc:C}(ho:q.ok)(hbc:CodeR H [] bc q)
  (hK:∀(zi zo:List (Nat×List Bool)) H',Upd H H' []→Qbme q zi zo→K (.ag [.sl false 1 (Qug zi),.sl false 1 (Qug zo)]) H') :
  Qv prog Qrf [.ag [.int .i64 q.params,.int .i64 q.regs,bc]] H K:=by
 have hr0:=ho.r0
 have hr1:=ho.r1
 have hb0:=ho.b0
 have hb1:=ho.b1
 have hfit:=ho.fitsF
 have hFn:(Qa0 q).n=q.blocks.length:=rfl
 obtain⟨R,hR⟩:∃R,q.regs.toNat=R:=⟨_,rfl⟩
 obtain⟨n,hn⟩:∃n,q.blocks.length=n:=⟨_,rfl⟩
 have hRq:q.regs=(R:Int):=by omega
 refine Qz ?_
 have hbw:=hbc.ow
 refine Qb Qar Qbau ?_
 refine Qa ?_
 simp only[go_sem,hbw]
 intro x2 hx2 H1 h1
 have kn:=(Kn.start0 H).al hx2 h1
 refine Qa ?_
 simp only[go_sem,hbw]
 intro x3 hx3 H2 h2
 have kn:=kn.al hx3 h2
 have hx3:=kn.l 1 rfl
 simp only[go_sem,Q2s,hx3]
 intro H3 h3
 have kn:Kn H H3 [] [(x2,.st [.sl true 1 [],.sl true 1 []]),(x3,.st [.sl true 1 [],.sl true 1 []])]:=kn.stL 1 rfl h3
 refine Qa ?_
 obtain⟨hbok,hbln,hbsz,hbrw⟩:=hbc.facts kn (by simp)
 simp only[go_sem,hbw,hbok,hbln,hbsz,hbrw,hn]
 clear hbok hbrw
 intro _
 refine Q4 ?_
 refine Qa ?_
 simp only[go_sem]
 refine Qg (Qc (Qs (fun m e1 H1=>∃(i:Nat) (zi zo:List (Nat×List Bool)) (ci co:C) (Li Lo:List (Nat×Obj)),m=n-i∧i≤n∧zi.length=i∧zo.length=i∧(∀p∈zi,p.2=List.replicate R false)∧(∀p∈zo,p.2=List.replicate R false)∧
  Gr Li 1 (Qby R zi) ci∧Gr Lo 1 (Qby R zo) co∧Kn H H1 [] ([(x2,.st [.sl true 1 [],.sl true 1 []]),(x3,.st [ci,co])]++(obZ zi++(obZ zo++(Li++Lo))))∧
  e1=[(1,.c (.pp [.int .i64 q.params,.int .i64 q.regs,bc])),(2,.c (.ptr x2 0)),(3,.c (.ptr x3 0)),(4,.c (.int .i64 n)),(5,.c (.int .i64 i))]) n ?_ ?_))
 ·exact⟨0,[],[],_,_,[],[],by omega,by omega,rfl,rfl,by simp,by simp,.nil 1,.nil 1,kn,rfl⟩
 ·rintro m e1 H4 ⟨i,zi,zo,ci,co,Li,Lo,hm,hi,hzil,hzol,hzi,hzo,hgi,hgo,kn,rfl⟩
  refine Q4 ?_
  refine Qa ?_
  simp only[go_sem]
  refine Qg (Qe rfl ?_ ?_)
  ·intro hc
   have hlt:i<n:=by simpa using hc
   have hciw:=hgi.isOw
   have hcow:=hgo.isOw
   have hx3:=kn.l 1 rfl
   refine Qh ?_
   try simp only[go_sem]
   refine Qg (Qc ?_)
   refine Qal ?_
   simp only[go_sem,hx3,hciw,hcow]
   refine⟨by omega,by simp only[LIM];omega,fun y1 hy1 H5 h5=>?_⟩
   have kn:Kn H H5 [] (([(x2,.st [.sl true 1 [],.sl true 1 []]),(x3,.st [ci,co])]++(obZ (zi++[(y1,List.replicate R false)])++(obZ zo++Lo)))++Li):=
    (kn.al hy1 h5).perm (Qy fun f hf h0 hc hp=>by
     have hc':=hc (x2,.st [.sl true 1 [],.sl true 1 []]) [(x3,.st [ci,co])]
     simp only[hf,obZ,List.map_append,List.map_cons,List.map_nil,Qa9,hR];omega)
   have hx3:=kn.l 1 rfl
   simp only[go_sem,Q2u,hx3,hciw,hcow]
   refine kn.growR hgi (.mk' _ _ _ _) (by intro r hr;simp at hr;subst hr;rfl) (by simp only[LIM,Qay,List.length_cons,List.length_nil];omega) fun ci2 Li2 H6 hgi2 hciw2 kn=>?_
   have hx3:=kn.l 1 rfl
   simp only[go_sem,Q2t,hx3,hciw2,hcow]
   intro H7 h7
   have kn:Kn H H7 [] ([(x2,.st [.sl true 1 [],.sl true 1 []]),(x3,.st [ci2,co])]++(obZ (zi++[(y1,List.replicate R false)])++(obZ zo++Lo))++Li2):=kn.stL 1 rfl h7
   have hgi2:Gr Li2 1 (Qby R (zi++[(y1,List.replicate R false)])) ci2:=by
    have:Qby R (zi++[(y1,List.replicate R false)])=Qby R zi++[[C.vsl y1 1 0 q.regs.toNat]]:=by simp[Qby,hR]
    rw[this];exact hgi2
   have hx3:=kn.l 1 rfl
   refine Qbc ?_
   simp only[go_sem,hx3,hciw2,hcow]
   refine⟨by omega,by simp only[LIM];omega,fun y2 hy2 H8 h8=>?_⟩
   have kn:Kn H H8 [] (([(x2,.st [.sl true 1 [],.sl true 1 []]),(x3,.st [ci2,co])]++(obZ (zi++[(y1,List.replicate R false)])++(obZ (zo++[(y2,List.replicate R false)])++Li2)))++Lo):=
    (kn.al hy2 h8).perm (Qy fun f hf h0 hc hp=>by
     simp only[hf,obZ,List.map_append,List.map_cons,List.map_nil,Qa9,hR];omega)
   have hx3:=kn.l 1 rfl
   simp only[go_sem,Q2w,hx3,hciw2,hcow]
   refine kn.growR hgo (.mk' _ _ _ _) (by intro r hr;simp at hr;subst hr;rfl) (by simp only[LIM,Qay,List.length_cons,List.length_nil];omega) fun co2 Lo2 H9 hgo2 hcow2 kn=>?_
   have hx3:=kn.l 1 rfl
   simp only[go_sem,Q2v,hx3,hciw2,hcow2]
   intro H10 h10
   have kn:Kn H H10 [] ([(x2,.st [.sl true 1 [],.sl true 1 []]),(x3,.st [ci2,co2])]++(obZ (zi++[(y1,List.replicate R false)])++(obZ (zo++[(y2,List.replicate R false)])++Li2))++Lo2):=kn.stL 1 rfl h10
   have hgo2:Gr Lo2 1 (Qby R (zo++[(y2,List.replicate R false)])) co2:=by
    have:Qby R (zo++[(y2,List.replicate R false)])=Qby R zo++[[C.vsl y2 1 0 q.regs.toNat]]:=by simp[Qby,hR]
    rw[this];exact hgo2
   refine Qq ?_
   simp only[go_sem,X.next]
   refine⟨Qo (by omega) (by omega),n-(i+1),by omega,i+1,zi++[(y1,List.replicate R false)],zo++[(y2,List.replicate R false)],ci2,co2,Li2,Lo2,rfl,by omega,by simp[hzil],by simp[hzol],?_,?_,hgi2,hgo2,?_,rfl⟩
   ·intro p hp
    rcases List.mem_append.1 hp with hp|hp
    ·exact hzi p hp
    ·simp at hp;rw[hp]
   ·intro p hp
    rcases List.mem_append.1 hp with hp|hp
    ·exact hzo p hp
    ·simp at hp;rw[hp]
   ·exact kn.perm (by simp only[List.append_assoc];exact .refl _)
  ·intro hc
   have hin:i=n:=by have:n≤i:=(by simpa using hc);omega
   subst hin
   obtain⟨yi,hyi,hLi⟩:∃yi,ci=.vsl yi 1 0 i∧Li=[(yi,.vec 1 (Qby R zi))]:=by
    rcases hgi with ⟨_,h,_⟩|⟨y,h1,h2⟩
    ·have:=congrArg List.length h;rw[Qay,hzil]at this;simp at this;omega
    ·exact⟨y,by rw[h1,Qay,hzil],h2⟩
   obtain⟨yo,hyo,hLo⟩:∃yo,co=.vsl yo 1 0 i∧Lo=[(yo,.vec 1 (Qby R zo))]:=by
    rcases hgo with ⟨_,h,_⟩|⟨y,h1,h2⟩
    ·have:=congrArg List.length h;rw[Qay,hzol]at this;simp at this;omega
    ·exact⟨y,by rw[h1,Qay,hzol],h2⟩
   have kn:Kn H H4 [] (lvE R yi yo zi zo++Qq8 x2 x3 yi yo i):=by
    refine kn.perm (Qy fun f hf h0 hc hp=>?_)
    rw[hLi,hLo,hyi,hyo]
    have e1:=hc (x2,.st [.sl true 1 [],.sl true 1 []]) [(x3,.st [.vsl yi 1 0 i,.vsl yo 1 0 i])]
    have e2:=hc (yi,.vec 1 (Qby R zi)) [(yo,.vec 1 (Qby R zo))]
    simp only[hf,lvE,Qq8];omega
   have hlv:lvOk R i zi zo:=⟨hzil,hzol,fun p hp=>by rw[hzi p hp];simp,fun p hp=>by rw[hzo p hp];simp⟩
   have hno:∀(zs:List (Nat×List Bool)),(∀p∈zs,p.2=List.replicate R false)→∀b r,¬tab zs b r:=fun zs h b r hr=>by
    rw[tab]at hr
    cases hg:zs[b]? with
    |none=>rw[hg]at hr;simp at hr
    |some p=>
     rw[hg]at hr
     have:=h p (List.mem_of_getElem? hg)
     simp only[Option.map_some,Option.getD_some,this,Q9b]at hr
     exact absurd hr (by simp)
   have hinv:LvInv (Qa0 q) zi zo:=⟨fun b _ r hr=>absurd hr (hno zi hzi b r),fun b _ r hr=>absurd hr (hno zo hzo b r),fun b _ r hr=>absurd hr (hno zi hzi b r)⟩
   refine Qr ?_
   simp only[go_sem,X.next]
   refine Q4 ?_
   refine Qa ?_
   simp only[go_sem]
   clear hno hzi hzo hgi hgo hLi hLo hyi hyo hzil hzol hm hc hi
   refine Qg (Qc (Qs (fun m e1 H1=>∃(zi zo:List (Nat×List Bool)) (a:Bool) (yi yo:Nat),m=(if a=true then 2 * (i * R)+1-(Qke zi+Qke zo)else 0)∧lvOk R i zi zo∧LvInv (Qa0 q) zi zo∧(a=false→∀b,b<i→LvCl (Qa0 q) zi zo b)∧
    Kn H H1 [] (lvE R yi yo zi zo++Qq8 x2 x3 yi yo i)∧
    lk 1 e1=.c (.pp [.int .i64 q.params,.int .i64 q.regs,bc])∧lk 2 e1=.c (.ptr x2 0)∧lk 3 e1=.c (.ptr x3 0)∧lk 4 e1=.c (.int .i64 i)∧lk 6 e1=.c (.bool a)) (2 * (i * R)+1-(Qke zi+Qke zo)) ?_ ?_))
   ·exact⟨zi,zo,true,yi,yo,rfl,hlv,hinv,fun h=>by simp at h,kn,rfl,rfl,rfl,rfl,rfl⟩
   ·clear hlv hinv kn
    rintro m e1 H5 ⟨zi,zo,a,yi,yo,hm,hlv,hinv,hcl,kn,l1,l2,l3,l4,l6⟩
    have htl0:=Qanm hlv.li
    have hto0:=Qanm hlv.lo
    rw[hlv.i]at htl0
    rw[hlv.o]at hto0
    refine Q4 ?_
    refine Qa ?_
    simp only[go_sem,l1,l2,l3,l4,l6]
    refine Qg (Qe rfl ?_ ?_)
    ·intro hat
     rw[hat,if_pos rfl]at hm
     refine Qh ?_
     try simp only[go_sem]
     refine Qc ?_
     refine Qa ?_
     simp only[go_sem]
     refine Qa ?_
     simp only[go_sem]
     refine⟨Qo (by omega) (by omega),?_⟩
     clear hcl
     refine Qc (Qs (fun m1 e1 H1=>∃(k:Nat) (j:Int) (zi1 zo1:List (Nat×List Bool)) (a:Bool) (yi yo:Nat),m1=k∧k≤i∧j=(k:Int)-1∧lvOk R i zi1 zo1∧LvInv (Qa0 q) zi1 zo1∧Qke zi+Qke zo≤Qke zi1+Qke zo1∧
      (a=true→Qke zi+Qke zo<Qke zi1+Qke zo1)∧(a=false→∀b,k≤b→b<i→LvCl (Qa0 q) zi1 zo1 b)∧
      Kn H H1 [] (lvE R yi yo zi1 zo1++Qq8 x2 x3 yi yo i)∧
      e1=[(1,.c (.pp [.int .i64 q.params,.int .i64 q.regs,bc])),(2,.c (.ptr x2 0)),(3,.c (.ptr x3 0)),(4,.c (.int .i64 i)),(6,.c (.bool a)),(7,.c (.int .i64 j))]) i ?_ ?_)
     ·exact⟨i,_,zi,zo,false,yi,yo,rfl,Nat.le_refl _,rfl,hlv,hinv,Nat.le_refl _,fun h=>by simp at h,fun _ b h1 h2=>by omega,kn,rfl⟩
     ·have hTb:Qke zi+Qke zo≤2 * (i * R):=by omega
      generalize hT0:Qke zi+Qke zo=T0 at *
      clear hinv hlv kn hto0 htl0 hT0
      clear zi zo yi yo
      rintro m1 e1 H6 ⟨k,j,zi,zo,a,yi,yo,rfl,hk,hjk,hlv,hinv,htot,htt,htf,kn,rfl⟩
      have htl0:=Qanm hlv.li
      have hto0:=Qanm hlv.lo
      rw[hlv.i]at htl0
      rw[hlv.o]at hto0
      refine Q4 ?_
      refine Qa ?_
      simp only[go_sem]
      refine Qg (Qe rfl ?_ ?_)
      ·intro hc
       have hge:0≤j:=by simpa using hc
       obtain⟨b,rfl⟩:∃b,m1=b+1:=⟨m1-1,by omega⟩
       have hj:j=(b:Int):=by omega
       subst hj
       have hbn:b<i:=by omega
       have hbq:b<q.blocks.length:=by omega
       have hbo:b<zo.length:=by rw[hlv.o];exact hbn
       have hbi:b<zi.length:=by rw[hlv.i];exact hbn
       obtain⟨⟨z,bs⟩,hz⟩:∃p,zo[b]=p:=⟨_,rfl⟩
       obtain⟨⟨w,bw⟩,hw⟩:∃p,zi[b]=p:=⟨_,rfl⟩
       have hz':zo[b]? = some (z,bs):=by rw[List.getElem?_eq_getElem hbo,hz]
       have hw':zi[b]? = some (w,bw):=by rw[List.getElem?_eq_getElem hbi,hw]
       have hbsl:bs.length=R:=hlv.lo (z,bs) (by rw[←hz];exact List.getElem_mem hbo)
       have hbwl:bw.length=R:=hlv.li (w,bw) (by rw[←hw];exact List.getElem_mem hbi)
       have hmo:Mem bs (tab zo b):=by have:=Qbbf hbo;rw[hz]at this;exact this
       have hzs:zo.set b (z,bs)=zo:=Qavp hz'
       obtain⟨y,hy⟩:∃y,q.blocks[b]=y:=⟨_,rfl⟩
       have hyo:y.ok q b:=by rw[←hy];exact ho.bs b hbq
       have hil:y.ins.length≤1200∧y.phis.length≤1200:=by rw[←hy];exact ho.il b hbq
       have hnx:(Qa0 q).nx b=y.next.map Int.toNat:=by rw[←hy,←Qv0 hbq];rfl
       have hph:(Qa0 q).ph b=y.phis.map fun p=>p.to.toNat:=by rw[Qbel hbq,hy]
       refine Qh ?_
       try simp only[go_sem]
       refine Qdm (fun e2 H2=>∃(zi2 zo2:List (Nat×List Bool)) (a2:Bool) (yi yo:Nat),lvOk R i zi2 zo2∧LvInv (Qa0 q) zi2 zo2∧Qke zi+Qke zo≤Qke zi2+Qke zo2∧
        (a2=true→a=true∨Qke zi+Qke zo<Qke zi2+Qke zo2)∧(a2=false→a=false∧LvCl (Qa0 q) zi2 zo2 b∧∀c,LvCl (Qa0 q) zi zo c→LvCl (Qa0 q) zi2 zo2 c)∧
        Kn H H2 [] (lvE R yi yo zi2 zo2++Qq8 x2 x3 yi yo i)∧
        lk 1 e2=.c (.pp [.int .i64 q.params,.int .i64 q.regs,bc])∧lk 2 e2=.c (.ptr x2 0)∧lk 3 e2=.c (.ptr x3 0)∧lk 4 e2=.c (.int .i64 i)∧lk 6 e2=.c (.bool a2)∧lk 7 e2=.c (.int .i64 b)) ?_ ?_
       ·intro Q hnr _ _
        refine Qc ?_
        refine Q4 ?_
        refine Qa ?_
        simp only[go_sem]
        refine Qg (Qc (Qs (fun m2 e1 H1=>∃(i2:Nat) (bs1:List Bool) (a1:Bool),m2=y.next.length-i2∧i2≤y.next.length∧bs1.length=R∧(∀r,bs.getD r false=true→bs1.getD r false=true)∧(∀r,bs1.getD r false=true→(Qa0 q).LO b r)∧
         (∀m∈((Qa0 q).nx b).take i2,∀r,tab zi m r∨r∈(Qa0 q).ea b m→bs1.getD r false=true)∧(a1=true→a=true∨cnt bs<cnt bs1)∧(a1=false→a=false∧bs1=bs)∧
         Kn H H1 [] (lvE R yi yo zi (zo.set b (z,bs1))++Qq8 x2 x3 yi yo i)∧
         e1=[(1,.c (.pp [.int .i64 q.params,.int .i64 q.regs,bc])),(2,.c (.ptr x2 0)),(3,.c (.ptr x3 0)),(4,.c (.int .i64 i)),(6,.c (.bool a1)),(7,.c (.int .i64 b)),(8,.c (.int .i64 i2))]) y.next.length ?_ ?_))
        ·exact⟨0,bs,a,by omega,by omega,hbsl,fun r h=>h,fun r h=>hinv.bo b hbq r ((hmo r).1 h),by simp,fun h=>.inl h,fun h=>⟨h,rfl⟩,by rw[hzs];exact kn,rfl⟩
        ·rintro m2 e1 H7 ⟨i2,bs1,a1,hm2,hi2,hb1l,g1,g2,g3,k1,k2,kn,rfl⟩
         have hx3:H7 x3=.st [.vsl yi 1 0 i,.vsl yo 1 0 i]:=(kn.get (x3,.st [.vsl yi 1 0 i,.vsl yo 1 0 i]) (by simp[Qq8])).1
         obtain⟨hbok,_,_,hbrw⟩:=hbc.facts kn (by simp)
         refine Q4 ?_
         refine Qa ?_
         simp only[go_sem,hbw,hbok,hbln,hbsz,hbrw,hbq,Qk,Q7 _ _ hbq,hy,BlkD.cells,Qd]
         intro _
         refine Qg (Qe rfl ?_ ?_)
         ·intro hc2
          have hlt:i2<y.next.length:=by simpa using hc2
          have hnl2:=hyo.nxl
          have hgd:y.next.getD i2 0=y.next[i2]:=by simp[List.getD_eq_getElem?_getD,hlt]
          have hmx:y.next[i2]∈gnx q b:=by rw[Qv0 hbq,hy];exact List.getElem_mem hlt
          have hmr:=hyo.nx _ (List.getElem_mem hlt)
          obtain⟨mm,hmm⟩:=Int.eq_ofNat_of_zero_le (show 0≤y.next[i2]by omega)
          have hmi:mm<zi.length:=by rw[hlv.i];omega
          have hmF:mm∈(Qa0 q).nx b:=by rw[hnx];exact List.mem_map.2 ⟨y.next[i2],List.getElem_mem hlt,by rw[hmm];rfl⟩
          have htk:((Qa0 q).nx b).take (i2+1)=((Qa0 q).nx b).take i2++[mm]:=by
           rw[List.take_succ_eq_append_getElem (by rw[hnx,List.length_map];exact hlt)]
           congr 1
           simp only[hnx,List.getElem_map,hmm];rfl
          rw[hmm]at hmx hgd
          have hbo':b<(zo.set b (z,bs1)).length:=by simpa using hbo
          have hlv':lvOk R i zi (zo.set b (z,bs1)):=⟨hlv.i,by rw[List.length_set];exact hlv.o,hlv.li,fun p hp=>by
           rcases List.mem_or_eq_of_mem_set hp with hp|rfl
           ·exact hlv.lo p hp
           ·exact hb1l⟩
          refine Qh ?_
          try simp only[go_sem]
          refine Qg (Qc ?_)
          refine Qbc ?_
          simp only[go_sem,hx3,hbw,hbok,hbln,hbsz,hbrw,hbq,Qk,Q7 _ _ hbq,hy,BlkD.cells,hlt,Qd,Qx _ _ hlt,hgd]
          subst hR
          subst hn
          refine Qa90 (F:=H7) (z:=z) (bs:=bs1) (w:=zi[mm].1) (nb:=zi[mm].2) (O:=fun r=>bs1.getD r false=true) (I:=tab zi mm) ho (hbc.mid kn) (fun x hx=>by rw[List.map_append];exact List.mem_append_left _ hx) hbq hmx hlv' (by rw[List.getElem?_set_self hbo]) (by rw[List.getElem?_eq_getElem hmi]) (fun r=>Iff.rfl) (Qbbf hmi) kn.mid fun bs2 f H8 hb2l hm2' hf1 hf2 k2'=>?_
          rw[List.set_set]at k2'
          have kn:=(kn.comp k2' Qbag).drop
          have stepT:∀a1',(a1'=(f || a1))→∃m,m<m2∧∃(i5:Nat) (bs1:List Bool) (a1:Bool),m=y.next.length-i5∧i5≤y.next.length∧bs1.length=q.regs.toNat∧(∀r,bs.getD r false=true→bs1.getD r false=true)∧(∀r,bs1.getD r false=true→(Qa0 q).LO b r)∧
            (∀m∈((Qa0 q).nx b).take i5,∀r,tab zi m r∨r∈(Qa0 q).ea b m→bs1.getD r false=true)∧(a1=true→a=true∨cnt bs<cnt bs1)∧(a1=false→a=false∧bs1=bs)∧
            Kn H H8 [] (lvE q.regs.toNat yi yo zi (zo.set b (z,bs1))++Qq8 x2 x3 yi yo q.blocks.length)∧
            [(1,V.c (.pp [.int .i64 q.params,.int .i64 q.regs,bc])),(2,.c (.ptr x2 0)),(3,.c (.ptr x3 0)),(4,.c (.int .i64 q.blocks.length)),(6,.c (.bool a1')),(7,.c (.int .i64 b)),(8,.c (.int .i64 ((i2:Int)+1)))]=[(1,.c (.pp [.int .i64 q.params,.int .i64 q.regs,bc])),(2,.c (.ptr x2 0)),(3,.c (.ptr x3 0)),(4,.c (.int .i64 q.blocks.length)),(6,.c (.bool a1)),(7,.c (.int .i64 b)),(8,.c (.int .i64 i5))]:=by
           intro a1' ha1'
           refine⟨y.next.length-(i2+1),by omega,i2+1,bs2,a1',rfl,by omega,hb2l,fun r hr=>(hm2' r).2 (.inl (g1 r hr)),fun r hr=>?_,fun m hm r hr=>?_,fun ha=>?_,fun ha=>?_,kn,rfl⟩
           ·rcases (hm2' r).1 hr with h|h|h
            ·exact g2 r h
            ·exact⟨mm,hmF,.inl (hinv.bi mm (hfit b hbq mm hmF) r h)⟩
            ·exact⟨mm,hmF,.inr h⟩
           ·rw[htk]at hm
            rcases List.mem_append.1 hm with hm|hm
            ·exact (hm2' r).2 (.inl (g3 m hm r hr))
            ·simp only[List.mem_singleton]at hm
             subst hm
             exact (hm2' r).2 (.inr hr)
           ·have c1:cnt bs≤cnt bs1:=(Q7b (by omega) g1).1
            cases hf:f with
            |true=>have:=hf1 hf;right;omega
            |false=>
             rw[hf2 hf]
             rw[ha1',hf]at ha
             exact k1 (by simpa using ha)
           ·rw[ha1']at ha
            have hff:f=false:=by cases hf:f with
             |true=>rw[hf]at ha;simp at ha
             |false=>rfl
            rw[hff]at ha
            obtain⟨q1,q2⟩:=k2 (by simpa using ha)
            exact⟨q1,by rw[hf2 hff,q2]⟩
          cases hfc:f with
          |true=>
           simp only[go_sem,Qoz]
           refine Qq ?_
           simp only[go_sem,X.next]
           exact⟨Qo (by omega) (by omega),stepT true (by rw[hfc];rfl)⟩
          |false=>
           simp only[go_sem,Qoz]
           refine Qq ?_
           simp only[go_sem,X.next]
           exact⟨Qo (by omega) (by omega),stepT a1 (by rw[hfc];rfl)⟩
         ·intro hc2
          have hge2:y.next.length≤i2:=by simpa using hc2
          have g3:∀r,(Qa0 q).outT (tab zi) b r→bs1.getD r false=true:=fun r ⟨m,hm,hr⟩=>
           g3 m (by rw[List.take_of_length_le (by rw[hnx,List.length_map];exact hge2)];exact hm) r hr
          refine Qr ?_
          simp only[go_sem,X.next]
          refine Qa ?_
          simp only[go_sem,hx3,hbw]
          have hbo':b<(zo.set b (z,bs1)).length:=by simpa using hbo
          obtain⟨hyiH,hyoH,hzzH,hwwH⟩:=Qaju kn.mid hbo (by rw[hz]) hbi hw
          have hsl:Slc H7 1 (Qby R zo) (.vsl yo 1 0 i):=⟨by simp only[okSl,hyoH,Qay,hlv.o];exact⟨trivial,by omega⟩,rfl,by simp only[rowsOf,hyoH,List.drop_zero];exact List.take_of_length_le (by rw[Qay,hlv.o];exact Nat.le_refl _),by simp only[lenC,Qay,hlv.o]⟩
          have hsb:Slc H7 1 (Ql bs1) (.vsl z 1 0 R):=⟨by simp only[okSl,hzzH,Qt,hb1l];exact⟨trivial,by omega⟩,rfl,by simp only[rowsOf,hzzH,List.drop_zero];exact List.take_of_length_le (by rw[Qt,hb1l];exact Nat.le_refl _),by simp only[lenC,Qt,hb1l]⟩
          refine Qawm (i:=-1) (ic:=.vsl yi 1 0 i) (bc:=bc) (W:=fun r=>bs1.getD r false=true) ho (hbc.mid kn).nil hbq (by omega) (by omega) kn hsl rfl rfl (by rw[Qay];exact hbo) (by rw[Qdk _ _ _ hbo,hz]) hsb rfl (by rw[hR];exact hb1l) (fun r=>Iff.rfl) fun y9 nb0 H8 hnl0 hm0 kn=>?_
          rw[hR]at hnl0
          simp only[go_sem,Qxl,hR]
          refine Q4 ?_
          refine Qa ?_
          simp only[go_sem]
          refine Qg (Qc (Qs (fun m2 e1 H1=>∃(i2:Nat) (nb:List Bool),m2=y.phis.length-i2∧i2≤y.phis.length∧nb.length=R∧Mem nb (fun r=>(Qa0 q).beh (fun r=>bs1.getD r false=true) b 0 r∧r∉((Qa0 q).ph b).take i2)∧
           Kn H H1 [] ((lvE R yi yo zi (zo.set b (z,bs1))++Qq8 x2 x3 yi yo i)++[(y9,.vec 1 (Ql nb))])∧
           e1=[(1,.c (.pp [.int .i64 q.params,.int .i64 q.regs,bc])),(2,.c (.ptr x2 0)),(3,.c (.ptr x3 0)),(4,.c (.int .i64 i)),(6,.c (.bool a1)),(7,.c (.int .i64 b)),(9,.c (.vsl y9 1 0 R)),(10,.c (.int .i64 i2))]) y.phis.length ?_ ?_))
          ·exact⟨0,nb0,by omega,by omega,hnl0,hm0.congr fun r=>by simp,kn,rfl⟩
          ·clear hm0 hnl0 kn
           rintro m3 e1 H9 ⟨i3,nb,hm3,hi3,hnl,hmn,kn,rfl⟩
           have hy9:H9 y9=.vec 1 (Ql nb):=(kn.get (y9,.vec 1 (Ql nb)) (by simp)).1
           have htkn:(Ql nb).take R=Ql nb:=List.take_of_length_le (by rw[Qt];omega)
           obtain⟨hbok,_,_,hbrw⟩:=hbc.facts kn (by simp)
           refine Q4 ?_
           refine Qa ?_
           simp only[go_sem,hbw,hbok,hbln,hbsz,hbrw,hbq,Qk,Q7 _ _ hbq,hy,BlkD.cells,Q9]
           intro _
           refine Qg (Qe rfl ?_ ?_)
           ·intro hc3
            have hlt3:i3<y.phis.length:=by simpa using hc3
            obtain⟨hv,hvl⟩:=(hyo.pto _ (List.getElem_mem hlt3)).nat
            rw[hR]at hvl
            have htk3:((Qa0 q).ph b).take (i3+1)=((Qa0 q).ph b).take i3++[(y.phis[i3].to).toNat]:=by
             rw[List.take_succ_eq_append_getElem (by rw[hph,List.length_map];exact hlt3)]
             simp[hph]
            have hvl':(y.phis[i3].to).toNat<nb.length:=by omega
            generalize hr:(y.phis[i3].to).toNat=r at *
            refine Qh ?_
            try simp only[go_sem]
            refine Qg (Qc ?_)
            refine Qq ?_
            simp only[go_sem,hbw,hbok,hbln,hbsz,hbrw,hbq,Qk,Q7 _ _ hbq,hy,BlkD.cells,hlt3,Q9,Qbg _ _ hlt3,PhiD.cells,hv,hvl,hy9,htkn,Qt,hnl,Qba,Q0 _ _ hvl',Nat.zero_add,Nat.le_refl]
            intro H10 h10
            have kn:=kn.stL (lvE R yi yo zi (zo.set b (z,bs1))++Qq8 x2 x3 yi yo i).length (x:=y9) (o:=.vec 1 (Ql nb)) (by simp) h10
            refine Qq ?_
            simp only[go_sem,X.next]
            refine⟨Qo (by omega) (by omega),y.phis.length-(i3+1),by omega,i3+1,nb.set r false,rfl,by omega,by rw[List.length_set];exact hnl,?_,by simpa using kn,rfl⟩
            refine (hmn.del hvl').congr fun x=>?_
            rw[htk3]
            simp only[List.mem_append,List.mem_singleton,not_or,and_assoc]
           ·intro hc3
            have hge3:y.phis.length≤i3:=by simpa using hc3
            have hmn:Mem nb ((Qa0 q).thru (fun r=>bs1.getD r false=true) b):=hmn.congr fun r=>by rw[List.take_of_length_le (by rw[hph,List.length_map];exact hge3)];rfl
            refine Qr ?_
            simp only[go_sem,X.next]
            refine Q4 ?_
            refine Qa ?_
            simp only[go_sem]
            refine Qg (Qc (Qs (fun m4 e1 H1=>∃(i4:Nat) (a2:Bool),m4=R-i4∧i4≤R∧H1=H9∧(a2=true→a1=true∨∃r,nb.getD r false≠bw.getD r false)∧(a2=false→a1=false∧∀r,r<i4→nb.getD r false=bw.getD r false)∧
             e1=[(1,.c (.pp [.int .i64 q.params,.int .i64 q.regs,bc])),(2,.c (.ptr x2 0)),(3,.c (.ptr x3 0)),(4,.c (.int .i64 i)),(6,.c (.bool a2)),(7,.c (.int .i64 b)),(9,.c (.vsl y9 1 0 R)),(11,.c (.int .i64 i4))]) R ?_ ?_))
            ·exact⟨0,a1,by omega,by omega,rfl,fun h=>.inl h,fun h=>⟨h,fun r hr=>by omega⟩,rfl⟩
            ·have hx3:H9 x3=.st [.vsl yi 1 0 i,.vsl yo 1 0 i]:=(kn.get (x3,.st [.vsl yi 1 0 i,.vsl yo 1 0 i]) (by simp[Qq8])).1
             have knA:=kn.drop
             obtain⟨hyiH,hyoH,hzzH,hwwH⟩:=Qaju knA.mid hbo (by rw[hz]) hbi hw
             rintro m4 e1 H10 ⟨i4,a2,hm4,hi4,rfl,k3,k4,rfl⟩
             have htz:∀(zs:List (Nat×List Bool)),zs.length=i→(Qby R zs).take i=Qby R zs:=fun zs h=>List.take_of_length_le (by rw[Qay];omega)
             have htb:∀(bs:List Bool),bs.length=R→(Ql bs).take R=Ql bs:=fun bs h=>List.take_of_length_le (by rw[Qt];omega)
             have hw1:zi[b].1=w:=by rw[hw]
             have hil3:=hlv.i
             refine Q4 ?_
             refine Qa ?_
             simp only[go_sem]
             refine Qg (Qe rfl ?_ ?_)
             ·intro hc4
              have hlt4:i4<R:=by have:(i4:Int)<q.regs:=(by simpa using hc4);omega
              have hln4:i4<nb.length:=by omega
              have hlw4:i4<bw.length:=by omega
              refine Qh ?_
              try simp only[go_sem]
              refine Qdm (fun e2 H2=>∃(a3:Bool),H2=H10∧(a3=true→a2=true∨nb.getD i4 false≠bw.getD i4 false)∧(a3=false→a2=false∧nb.getD i4 false=bw.getD i4 false)∧
               lk 1 e2=.c (.pp [.int .i64 q.params,.int .i64 q.regs,bc])∧lk 2 e2=.c (.ptr x2 0)∧lk 3 e2=.c (.ptr x3 0)∧lk 4 e2=.c (.int .i64 i)∧lk 6 e2=.c (.bool a3)∧lk 7 e2=.c (.int .i64 b)∧lk 9 e2=.c (.vsl y9 1 0 R)∧lk 11 e2=.c (.int .i64 i4)) ?_ ?_
              ·intro Q hnr _ _
               refine Qc ?_
               cases ha2:a2 with
               |true=>
                refine Qbc ?_
                simp only[go_sem,hx3,hyiH,hwwH,hy9,htz _ hil3,htb _ hnl,htb _ hbwl,Qay,Qdk _ _ _ hbi,hw1,hbn,hil3,hlt4,Qt,hnl,hbwl,Q0 _ _ hln4,Q0 _ _ hlw4,Nat.zero_add,Nat.le_refl]
                exact hnr _ _ ⟨true,rfl,fun _=>.inl ha2,fun h=>by simp at h,rfl,rfl,rfl,rfl,rfl,rfl,rfl,rfl⟩
               |false=>
                refine Qbc ?_
                simp only[go_sem,hx3,hyiH,hwwH,hy9,htz _ hil3,htb _ hnl,htb _ hbwl,Qay,Qdk _ _ _ hbi,hw1,hbn,hil3,hlt4,Qt,hnl,hbwl,Q0 _ _ hln4,Q0 _ _ hlw4,Nat.zero_add,Nat.le_refl]
                refine hnr _ _ ⟨_,rfl,fun h=>?_,fun h=>?_,rfl,rfl,rfl,rfl,rfl,rfl,rfl,rfl⟩
                ·right;intro he;rw[he]at h;simp at h
                ·exact⟨ha2,by simpa using h⟩
              ·rintro e2 H11 ⟨a3,rfl,q1,q2,l1,l2,l3,l4,l6,l7,l9,l11⟩
               refine Qq ?_
               simp only[go_sem,X.next,l1,l2,l3,l4,l6,l7,l9,l11]
               refine⟨Qo (by omega) (by omega),R-(i4+1),by omega,i4+1,a3,rfl,by omega,fun h=>?_,fun h=>?_,rfl⟩
               ·rcases q1 h with h1|h1
                ·exact k3 h1
                ·exact .inr ⟨i4,h1⟩
               ·obtain⟨h1,h2⟩:=q2 h
                obtain⟨h3,h4⟩:=k4 h1
                refine⟨h3,fun r hr=>?_⟩
                by_cases hri:r<i4
                ·exact h4 r hri
                ·have:r=i4:=by omega
                 subst this;exact h2
             ·intro hc4
              have hge4:i4=R:=by have:¬(i4:Int)<q.regs:=(by simpa using hc4);omega
              subst hge4
              refine Qr ?_
              simp only[go_sem,X.next]
              refine Qq ?_
              simp only[go_sem,hx3,hyiH,htz _ hil3,Qay,Qdk _ _ _ hbi,hbn,hil3,Nat.zero_add,Nat.le_refl]
              intro H11 h11
              have hrow:(Qby i4 zi).set b [.vsl y9 1 0 i4]=Qby i4 (zi.set b (y9,nb)):=by rw[Qby,Qby,List.map_set]
              rw[hrow]at h11
              have hobs:obZ (zi.set b (y9,nb))=(obZ zi).set b (y9,.vec 1 (Ql nb)):=by rw[obZ,obZ,List.map_set]
              have hmv:=Qbg5 (l:=obZ zi) (i:=b) (x:=(y9,Obj.vec 1 (Ql nb))) (by simpa[obZ]using hbi)
              have kn:Kn H H11 [] ((lvE i4 yi yo (zi.set b (y9,nb)) (zo.set b (z,bs1))++Qq8 x2 x3 yi yo i)++[(obZ zi)[b]'(by simpa[obZ]using hbi)]):=by
               have k5:Kn H H11 [] ((([(yi,.vec 1 (Qby i4 (zi.set b (y9,nb)))),(yo,.vec 1 (Qby i4 (zo.set b (z,bs1))))]++(obZ zi++obZ (zo.set b (z,bs1))))++Qq8 x2 x3 yi yo i)++[(y9,.vec 1 (Ql nb))]):=kn.stL 0 (x:=yi) (o:=.vec 1 (Qby i4 zi)) rfl h11
               refine k5.perm (Qy fun f hf h0 hc hp=>?_)
               have e1:=hp _ _ hmv
               simp only[hf]at e1
               simp only[lvE,hf,hobs]
               omega
              have kn:=kn.drop
              have hst:=hinv.step (y:=y9) hfit hbq (hlv.i.trans hn.symm) (hlv.o.trans hn.symm) hlv.li hlv.lo hb1l hnl hz' hw' g1 g2 g3 (fun r=>hmn r) k1 k2 k3 k4
              obtain⟨s1,s2,s3,s4⟩:=hst
              refine hnr _ _ ⟨zi.set b (y9,nb),zo.set b (z,bs1),a2,yi,yo,⟨by rw[List.length_set];exact hlv.i,by rw[List.length_set];exact hlv.o,fun p hp=>?_,fun p hp=>?_⟩,s1,s2,s3,s4,kn,rfl,rfl,rfl,rfl,rfl,rfl⟩
              ·rcases List.mem_or_eq_of_mem_set hp with hp|rfl
               ·exact hlv.li p hp
               ·exact hnl
              ·rcases List.mem_or_eq_of_mem_set hp with hp|rfl
               ·exact hlv.lo p hp
               ·exact hb1l
       ·rintro e2 H7 ⟨zi2,zo2,a2,yi2,yo2,hlv2,hinv2,t1,t2,t3,kn,l1,l2,l3,l4,l6,l7⟩
        refine Qq ?_
        simp only[go_sem,X.next,l1,l2,l3,l4,l6,l7]
        refine⟨Qo (by omega) (by omega),b,by omega,b,(b:Int)-1,zi2,zo2,a2,yi2,yo2,rfl,by omega,rfl,hlv2,hinv2,by omega,fun ha=>?_,fun ha c hbc hci=>?_,kn,rfl⟩
        ·rcases t2 ha with h|h
         ·have:=htt h;omega
         ·omega
        ·obtain⟨u1,u2,u3⟩:=t3 ha
         by_cases hcb:c=b
         ·subst hcb;exact u2
         ·exact u3 c (htf u1 c (by omega) hci)
      ·intro hc
       have hlt0:¬0≤j:=by simpa using hc
       have hk0:m1=0:=by omega
       subst hk0
       refine Qr ?_
       simp only[go_sem,X.next]
       refine⟨if a=true then 2 * (i * R)+1-(Qke zi+Qke zo)else 0,?_,zi,zo,a,yi,yo,rfl,hlv,hinv,fun ha b hb=>htf ha b (by omega) hb,kn,by first|exact⟨rfl,rfl,rfl,rfl⟩|exact rfl|trivial⟩
       split
       ·have:=htt ‹_›;omega
       ·omega
    ·intro haf
     have hcl:=hcl haf
     have hdone:=hinv.done hfit fun b hb=>hcl b (by rw[←hn];exact hb)
     have hx3:H5 x3=.st [.vsl yi 1 0 i,.vsl yo 1 0 i]:=(kn.get (x3,.st [.vsl yi 1 0 i,.vsl yo 1 0 i]) (by simp[Qq8])).1
     have hx2:H5 x2=.st [.sl true 1 [],.sl true 1 []]:=(kn.get (x2,.st [.sl true 1 [],.sl true 1 []]) (by simp[Qq8])).1
     refine Qr ?_
     simp only[go_sem,X.next]
     refine Qa ?_
     simp only[go_sem,hx2,hx3]
     intro H6 h6
     have kn:Kn H H6 [] (lvE R yi yo zi zo++[(x2,.st [.vsl yi 1 0 i,.vsl yo 1 0 i]),(x3,.st [.vsl yi 1 0 i,.vsl yo 1 0 i])]):=by
      have:=kn.stL (lvE R yi yo zi zo).length (x:=x2) (o:=.st [.sl true 1 [],.sl true 1 []]) (by simp[Qq8]) h6
      simpa[Qq8]using this
     have hx2:H6 x2=.st [.vsl yi 1 0 i,.vsl yo 1 0 i]:=(kn.get (x2,.st [.vsl yi 1 0 i,.vsl yo 1 0 i]) (by simp)).1
     have hg:∀p∈lvE R yi yo zi zo,H6 p.1=p.2∧un H p.1=true:=fun p hp=>⟨(kn.get p (List.mem_append_right _ (List.mem_append_left _ hp))).1,Qep (kn.loc p (List.mem_append_left _ hp))⟩
     have g1:=hg (yi,.vec 1 (Qby R zi)) (by simp[lvE])
     have g2:=hg (yo,.vec 1 (Qby R zo)) (by simp[lvE])
     refine Qj ?_
     simp only[go_sem,Q6,Qab,Qao6,List.mem_singleton,forall_eq,RS.op,hx2]
     refine⟨_,(FrzL.cons (FrzR.vsl g1.2 g1.1 (by rw[Qay,hlv.i]) (Qapg hlv.li fun p hp=>hg p (by simp only[lvE];exact List.mem_append_right _ (List.mem_append_left _ hp))))
      (FrzL.cons (FrzR.vsl g2.2 g2.1 (by rw[Qay,hlv.o]) (Qapg hlv.lo fun p hp=>hg p (by simp only[lvE];exact List.mem_append_right _ (List.mem_append_right _ hp)))) FrzL.nil)).ag,hK zi zo _ kn.fin ⟨by rw[hR,hn];exact hlv,fun b hb=>hdone b hb⟩⟩
end Go.AE.Y

namespace Go.AE.Y
attribute [local go_sem] cond_true cond_false Bool.not_true Bool.not_false
open Go.Proofs.Tryz
variable {H H0:Heap}{K:V→Heap→Prop}{E L:List (Nat×Obj)}
def Q8i (bs:List Bool)(n:Nat):List Nat:=(List.range n).filter fun r=>bs.getD r false
theorem Qaid (bs:List Bool)(n:Nat):Q8i bs (n+1)=Q8i bs n++if bs.getD n false=true then [n]else []:=by
 simp only[Q8i,List.range_succ,List.filter_append]
 congr 1
 cases h:bs.getD n false
 ·simp[List.filter_cons,h,- List.getD_eq_getElem?_getD]
 ·simp[List.filter_cons,h,- List.getD_eq_getElem?_getD]
theorem Qbf6 (bs:List Bool)(n:Nat):(Q8i bs n).length≤n:=by
 have:=List.length_filter_le (fun r=>bs.getD r false) (List.range n)
 simpa[Q8i]using this
def listsR (ls:List (List Nat)):List (List C):=ls.map fun l=>[.sl false 1 (Q5 l)]
set_option maxHeartbeats 1000000 in
theorem Qa91 {c:C}{bs:List Bool}(hs:Slc H 1 (Ql bs) c)(how:c.isOw=false)(hl:bs.length≤2 ^ 38)(hK:∀H',Upd H H' []→K (.c (.sl false 1 (Q5 (Q8i bs bs.length)))) H') :
  Qv prog Qza [.c c] H K:=by
 refine Qz ?_
 refine Qb Qar Qbat ?_
 refine Qa ?_
 simp only[go_sem,how]
 refine Qa ?_
 simp only[go_sem,how]
 refine Q4 ?_
 refine Qa ?_
 simp only[go_sem,how]
 have hlen:=hs.len
 have hsz:=hs.sz
 refine Qg (Qc (Qs (fun m e1 H1=>∃(i:Nat) (t:C) (Lg:List (Nat×Obj)),m=bs.length-i∧i≤bs.length∧Gr Lg 1 (Q5 (Q8i bs i)) t∧Kn H H1 [] ([]++Lg)∧
  e1=[(0,.c c),(3,.c t),(4,.c (.int .i64 i))]) bs.length ?_ ?_))
 ·exact⟨0,_,[],by omega,by omega,.nil 1,Kn.start0 H,rfl⟩
 ·rintro m e1 H1 ⟨i,t,Lg,hm,hi,hgr,kn,rfl⟩
  have htw:=hgr.isOw
  have hs1:=hs.keep0 kn
  have hok1:=eq_true hs1.ok
  have hrw1:=hs1.rows
  refine Q4 ?_
  refine Qa ?_
  simp only[go_sem,how,htw,hok1,hlen,Qt]
  intro _
  refine Qg (Qe rfl ?_ ?_)
  ·intro hc
   have hlt:i<bs.length:=by simpa using hc
   refine Qh ?_
   try simp only[go_sem]
   refine Qdm (fun e2 H2=>∃(t:C) (Lg:List (Nat×Obj)),Gr Lg 1 (Q5 (Q8i bs (i+1))) t∧Kn H H2 [] ([]++Lg)∧lk 0 e2=.c c∧lk 3 e2=.c t∧lk 4 e2=.c (.int .i64 i)) ?_ ?_
   ·intro Q hnr _ _
    refine Qc ?_
    refine Qa ?_
    simp only[go_sem,how,htw,hok1,hlen,hsz,hrw1,hlt,Qt,Q0 _ _ hlt]
    refine Qe rfl ?_ ?_
    ·intro hc2
     refine Qq ?_
     simp only[go_sem,how,htw]
     have hol:=Qbf6 bs i
     refine kn.growR (B:=[]) (new:=Q5 [i]) hgr (.mk' _ _ _ _) (Qaq _) (by simp only[Qw,LIM,List.length_cons,List.length_nil];omega) fun t2 Lg2 H3 hgr2 ht2 kn=>?_
     simp only[go_sem,Q2r,how,ht2]
     refine hnr _ _ ⟨t2,Lg2,?_,kn,rfl,rfl,rfl⟩
     rw[Qaid,hc2,if_pos rfl,Qje];exact hgr2
    ·intro hc2
     refine Qh ?_
     try simp only[go_sem]
     refine hnr _ _ ⟨t,Lg,?_,kn,rfl,rfl,rfl⟩
     rw[Qaid,hc2];simpa using hgr
   ·rintro e2 H2 ⟨t2,Lg2,hgr2,kn,l0,l3,l4⟩
    have ht2:=hgr2.isOw
    refine Qq ?_
    simp only[go_sem,X.next,how,ht2,l0,l3,l4]
    exact⟨Qo (by omega) (by omega),bs.length-(i+1),by omega,i+1,t2,Lg2,rfl,by omega,hgr2,kn,rfl⟩
  ·intro hc
   have hge:i=bs.length:=by have:bs.length≤i:=(by simpa using hc);omega
   subst hge
   refine Qr ?_
   simp only[go_sem,X.next]
   refine Qa ?_
   simp only[go_sem,htw]
   refine Qj ?_
   simp only[go_sem,Q6,Qab,Qao5,List.mem_singleton,forall_eq,RS.op,htw]
   exact⟨_,.c _ _ (hgr.frz kn (Qaq _)),hK _ kn.fin⟩
noncomputable def insLs (q:CodeD):List (List Nat):=(List.range q.blocks.length).map fun b=>ascL q.regs.toNat ((Qa0 q).LI b)
noncomputable def outsLs (q:CodeD):List (List Nat):=(List.range q.blocks.length).map fun b=>ascL q.regs.toNat ((Qa0 q).LO b)
noncomputable def Qbd8 (q:CodeD)(b k:Nat):List Nat:=ascL q.regs.toNat ((Qa0 q).LB b k)
noncomputable def codeOr (cs:List CodeD)(k:Int)(f:CodeD→List (List Nat)):List (List Nat):=if hasG cs k=true then match cs[k.toNat]? with
 |some q=>f q
 |none=>[]else []
theorem Qan7 {cs:List CodeD}{k:Int}(h:hasG cs k=true):∃(m:Nat) (hm:m<cs.length),k=(m:Int)∧cs[m].ok:=by
 simp only[hasG,Bool.and_eq_true,decide_eq_true_eq]at h
 obtain⟨h1,h2,h3⟩:=h
 refine⟨k.toNat,by omega,by omega,Qaef h1 _⟩
end Go.AE.Y

namespace Go.AE.Y
attribute [local go_sem] cond_true cond_false Bool.not_true Bool.not_false
open Go.Proofs.Tryz
variable {H H0:Heap}{K:V→Heap→Prop}{E L:List (Nat×Obj)}
def mxF (f:Nat→Nat):Nat→Nat
 |0=>0
 |m+1=>max (mxF f m) (f m)
noncomputable def Qbkn (q:CodeD)(b:Nat):Nat:=mxF (fun k=>(Qbd8 q b k).length) (((q.blocks[b]?.map BlkD.ins).getD []).length+1)
noncomputable def Qbmg (q:CodeD):Nat:=mxF (Qbkn q) q.blocks.length
noncomputable def upTo (q:CodeD)(b k:Nat):Nat:=max (mxF (Qbkn q) b) (mxF (fun k=>(Qbd8 q b k).length) k)
noncomputable def mostI (cs:List CodeD)(k:Int):Int:=if hasG cs k=true then match cs[k.toNat]? with
 |some q=>(Qbmg q:Int)
 |none=>-1 else -1
def spS (zi zo:List (Nat×List Bool)):Obj:=.st [.sl false 1 (Qug zi),.sl false 1 (Qug zo)]
end Go.AE.Y

namespace Go.AE.Y
attribute [local instance] Classical.propDecidable
def asS (S:Nat→List Nat)(b:Nat):RS':=fun r=>r∈S b
structure ImInv (F:Flo)(R:Nat)(S:Nat→List Nat):Prop where
 below:F.Below (asS S)
 post:∀b,b<F.n→∀r,asS S b r→F.inT (asS S) b r
 nd:∀b,(S b).Nodup
 lt:∀b,∀r∈S b,r<R
variable {F:Flo}{R:Nat}{S:Nat→List Nat}
theorem ImInv.same {b:Nat}{ks:List Nat}(h:ImInv F R S)(hb:b<F.n)(hnd:ks.Nodup)(hks:∀r,r∈ks↔F.inT (asS S) b r)(hl:ks.length=(S b).length):∀r,F.inT (asS S) b r→asS S b r:=fun r hr=>
 Qaou (h.nd b) (fun x hx=>(hks x).2 (h.post b hb x hx)) (by omega) r ((hks r).2 hr)
theorem ImInv.step {b:Nat}{ks:List Nat}(h:ImInv F R S)(hf:F.fits)(hb:b<F.n)(hnd:ks.Nodup)(hlt:∀r∈ks,r<R)(hks:∀r,r∈ks↔F.inT (asS S) b r)(hl:¬ks.length=(S b).length) :
  ImInv F R (fun c=>if c=b then ks else S c)∧tot F.n S<tot F.n (fun c=>if c=b then ks else S c):=by
 have hsub:∀r,r∈S b→r∈ks:=fun r hr=>(hks r).2 (h.post b hb r hr)
 have hle:=Qkx (h.nd b) hsub
 have hS:∀c,c<F.n→∀r,asS S c r→asS (fun c=>if c=b then ks else S c) c r:=fun c _ r hr=>by
  simp only[asS]
  by_cases hc:c=b
  ·subst hc;rw[if_pos rfl];exact hsub r hr
  ·rw[if_neg hc];exact hr
 refine⟨⟨fun c hc r hr=>?_,fun c hc r hr=>?_,fun c=>?_,fun c r hr=>?_⟩,Qblw hb (fun c hc=>?_) ?_⟩
 ·simp only[asS]at hr
  by_cases hcb:c=b
  ·subst hcb;rw[if_pos rfl]at hr;exact h.below.inT hf hb r ((hks r).1 hr)
  ·rw[if_neg hcb]at hr;exact h.below c hc r hr
 ·have h1:F.inT (asS S) c r:=by
   simp only[asS]at hr
   by_cases hcb:c=b
   ·subst hcb;rw[if_pos rfl]at hr;exact (hks r).1 hr
   ·rw[if_neg hcb]at hr;exact h.post c hc r hr
  exact Flo.inT_mono hf hS hc r h1
 ·by_cases hcb:c=b
  ·subst hcb;simpa using hnd
  ·simpa[hcb]using h.nd c
 ·by_cases hcb:c=b
  ·subst hcb;exact hlt r (by simpa using hr)
  ·exact h.lt c r (by simpa[hcb]using hr)
 ·by_cases hcb:c=b
  ·subst hcb;simpa using hle
  ·simp[hcb]
 ·simp only[if_pos];omega
theorem ImInv.done (h:ImInv F R S)(hc:∀b,b<F.n→∀r,F.inT (asS S) b r→asS S b r){b:Nat}(hb:b<F.n)(r:Nat):r∈S b↔F.LI b r:=
 Flo.is_least hc h.below hb r
theorem ImInv.start:ImInv F R fun _=>[]:=⟨fun b _ r hr=>absurd hr (by simp[asS]),fun b _ r hr=>absurd hr (by simp[asS]),fun _=>by simp,fun _ r hr=>by simp at hr⟩
end Go.AE.Y

namespace Go.AE.Y
attribute [local go_sem] cond_true cond_false Bool.not_true Bool.not_false
open Go.Proofs.Tryz
variable {H H0 F:Heap}{K:V→Heap→Prop}{E L:List (Nat×Obj)}
variable {q:CodeD}{fl:Bool}{l yi yp:Nat}{ss:List SetO}{pr:List (List C)}
end Go.AE.Y

namespace Go.AE.Y
attribute [local go_sem] cond_true cond_false Bool.not_true Bool.not_false
open Go.Proofs.Tryz
variable {H H0 F:Heap}{K:V→Heap→Prop}{E L:List (Nat×Obj)}
def ksOf (ss:List SetO)(b:Nat):List Nat:=(ss[b]?.map SetO.ks).getD []
end Go.AE.Y

namespace Go.AE.Y
attribute [local go_sem] cond_true cond_false Bool.not_true Bool.not_false
open Go.Proofs.Tryz
variable {H H0 F:Heap}{K:V→Heap→Prop}{E L:List (Nat×Obj)}
variable {q:CodeD}{fl:Bool}{l yi yp:Nat}{ss:List SetO}{pr:List (List C)}
end Go.AE.Y

namespace Go.AE.Y
attribute [local go_sem] cond_true cond_false Bool.not_true Bool.not_false
open Go.Proofs.Tryz
variable {H H0 F:Heap}{K:V→Heap→Prop}{E L:List (Nat×Obj)}
end Go.AE.Y

namespace Go.AE.Y
attribute [local go_sem] cond_true cond_false Bool.not_true Bool.not_false
open Go.Proofs.Tryz
variable {H H0:Heap}{K:V→Heap→Prop}{E B Lg:List (Nat×Obj)}
theorem Qajk {S:Nat→Bool}{a b a' b':V}(h:FrzV H S a a')(k:FrzV H S b b'):FrzV H S (.tup [a,b]) (.tup [a',b']):=by
 refine .tup _ _ rfl fun j x x' h1 h2=>?_
 match j with
 |0=>simp at h1 h2;subst h1;subst h2;exact h
 |1=>simp at h1 h2;subst h1;subst h2;exact k
 |j+2=>simp at h1
theorem Qex {S:Nat→Bool}(cs:List CodeD):FrzV H S (.ag [.sl false 3 (Qp cs)]) (.ag [.sl false 3 (Qp cs)]):=FrzL.ag (.cons (FrzR.same (Qb3 cs)).sl .nil)
theorem UnitOk.fits {cs:List CodeD}(h:UnitOk cs):∀c∈cs,c.fits:=fun c hc=>(h.2.2 c hc).f
end Go.AE.Y

namespace Go.AE.Y
attribute [local go_sem] cond_true cond_false Bool.not_true Bool.not_false
open Go.Proofs.Tryz
variable {H H0:Heap}{K:V→Heap→Prop}{E B Lg:List (Nat×Obj)}
attribute [local instance] Classical.propDecidable
end Go.AE.Y

namespace Go.AE.Y
attribute [local go_sem] cond_true cond_false Bool.not_true Bool.not_false
open Go.Proofs.Tryz
variable {H H0:Heap}{K:V→Heap→Prop}{E B Lg:List (Nat×Obj)}
attribute [local instance] Classical.propDecidable
end Go.AE.Y

namespace Go.AE
variable {H0 F H:Heap}{E E' L M:List (Nat×Obj)}
end Go.AE
namespace Go.AE.Y
attribute [local go_sem] cond_true cond_false Bool.not_true Bool.not_false
open Go.Proofs.Tryz
variable {H H0 F:Heap}{K:V→Heap→Prop}{E L:List (Nat×Obj)}
variable {q:CodeD}{fl:Bool}{l yi yp:Nat}{ss:List SetO}{pr:List (List C)}
attribute [local instance] Classical.propDecidable
def Qblh (op:Int):Bool:=decide (1≤op∧op≤10)&&!decide (op=6)&&!decide (op=7)
noncomputable def Qbmc (q:CodeD)(b i:Nat)(x:InsD):Bool:=Qblh x.op&&!decide (x.to.toNat∈Qbd8 q b (i+1))
noncomputable def Qbk2 (q:CodeD)(b i:Nat):Bool:=match (q.blocks[b]?).bind (fun y=>y.ins[i]?)with
 |some x=>Qbmc q b i x
 |none=>false
end Go.AE.Y

namespace Go.AE.Y
attribute [local go_sem] cond_true cond_false Bool.not_true Bool.not_false
open Go.Proofs.Tryz
variable {H H0 F:Heap}{K:V→Heap→Prop}{E L:List (Nat×Obj)}
variable {q:CodeD}{fl:Bool}
attribute [local instance] Classical.propDecidable
def Qbhr (q:CodeD)(b:Nat):Nat:=((q.blocks[b]?.map BlkD.ins).getD []).length
noncomputable def idlB (q:CodeD)(b n:Nat):List Nat:=(List.range n).filter (Qbk2 q b)
def itB (k b:Nat)(l:List Nat):List (List Nat):=l.map fun i=>[k,b,i]
noncomputable def itC (q:CodeD)(k nb:Nat):List (List Nat):=(List.range nb).flatMap fun b=>itB k b (idlB q b (Qbhr q b))
noncomputable def itU (cs:List CodeD)(nk:Nat):List (List Nat):=(List.range nk).flatMap fun k=>match cs[k]? with
 |some q=>itC q k q.blocks.length
 |none=>[]
noncomputable def idleAll (cs:List CodeD):List (List Nat):=if Qcb cs=true then itU cs cs.length else []
noncomputable def idlN (q:CodeD)(nb:Nat):Nat:=((List.range nb).map fun b=>(idlB q b (Qbhr q b)).length).sum
def listsT (ls:List (List Nat)):List (List C):=ls.map fun l=>[.sl true 1 (Q5 l)]
end Go.AE.Y

namespace Go.AE.Y
attribute [local go_sem] cond_true cond_false Bool.not_true Bool.not_false
open Go.Proofs.Tryz
variable {H H0 F:Heap}{K:V→Heap→Prop}{E L:List (Nat×Obj)}
variable {q:CodeD}{fl:Bool}
attribute [local instance] Classical.propDecidable
noncomputable def countI (cs:List CodeD):Int:=if Qcb cs=true then (Qkd Q6u cs:Nat)else -1
end Go.AE.Y

namespace Go.AE.Y
open Go.Proofs.Tryz
end Go.AE.Y

namespace Go.AE.Y
attribute [local go_sem] cond_true cond_false Bool.not_true Bool.not_false
open Go.Proofs.Tryz
variable {H H0 F:Heap}{K:V→Heap→Prop}{E L:List (Nat×Obj)}
theorem PhiD.allOw (x:PhiD):(x.cells.all fun c=>!c.isOw)=true:=rfl
theorem PhiD.len2 (x:PhiD):x.cells.length=2:=rfl
def kRow (y:BlkD)(pc:C):List C:=[pc,.sl false 4 (Qbo y.ins),.int .i64 y.jump,.int .i64 y.on,.sl false 1 (Qf y.next)]
structure BlkD.cl (y:BlkD):Prop where
 i:y.ins.length≤2 ^ 38
 p:y.phis.length≤2 ^ 38
 n:y.next.length≤LIM
 ia:∀x∈y.ins,x.args.length≤LIM
 pa:∀x∈y.phis,x.args.length≤LIM
structure KBlk where
 y:BlkD
 pc:C
 pl:List (Nat×Obj)
def KBlk.row (b:KBlk):List C:=kRow b.y b.pc
def KBlk.ok (b:KBlk):Prop:=Gr b.pl 2 (Qaj b.y.phis) b.pc
theorem KBlk.noOw {b:KBlk}(h:b.ok):Go.AE.noOw b.row=true:=by
 have:=h.isOw
 simp only[Go.AE.noOw,KBlk.row,kRow,List.all_cons,List.all_nil,this];rfl
end Go.AE.Y

namespace Go.AE.Y
attribute [local go_sem] cond_true cond_false Bool.not_true Bool.not_false
open Go.Proofs.Tryz
variable {H H0 F:Heap}{K:V→Heap→Prop}{E L B pl:List (Nat×Obj)}
def keepK (ks:List Nat)(f:PhiD):Bool:=decide (f.to.toNat∈ks)
theorem Qa6a (l:List PhiD)(i:Nat)(x:PhiD):(Qaj l).set i x.cells=Qaj (l.set i x):=by simp[Qaj,List.map_set]
end Go.AE.Y

namespace Go.AE.Y
open Go.Proofs.Tryz
attribute [local instance] Classical.propDecidable
variable {q:CodeD}
noncomputable def kpD (q:CodeD)(b:Nat):Nat→List InsD→List InsD
 |_,[]=>[]
 |k,x::l=>if Qbk2 q b k=true then kpD q b (k+1) l else x::kpD q b (k+1) l
noncomputable def kpP (q:CodeD)(b:Nat)(l:List PhiD):List PhiD:=l.filter fun f=>decide (f.to.toNat∈Qbd8 q b 0)
noncomputable def Qbmi (q:CodeD)(b:Nat)(y:BlkD):BlkD:={ y with phis:=kpP q b y.phis,ins:=kpD q b 0 y.ins }
noncomputable def Qblc (q:CodeD):CodeD:={ q with blocks:=q.blocks.mapIdx (Qbmi q) }
structure Shr (c d:CodeD):Prop where
 pr:d.params=c.params
 rg:d.regs=c.regs
 bl:d.blocks.length=c.blocks.length
 j:∀b (h1:b<c.blocks.length) (h2:b<d.blocks.length),d.blocks[b].jump=c.blocks[b].jump∧d.blocks[b].on=c.blocks[b].on∧d.blocks[b].next=c.blocks[b].next∧d.blocks[b].ins.Sublist c.blocks[b].ins∧d.blocks[b].phis.Sublist c.blocks[b].phis
theorem Shr.refl (c:CodeD):Shr c c:=⟨rfl,rfl,rfl,fun b h1 h2=>⟨rfl,rfl,rfl,.refl _,.refl _⟩⟩
theorem Shr.trans {c d e:CodeD}(h:Shr c d)(k:Shr d e):Shr c e:=⟨k.pr.trans h.pr,k.rg.trans h.rg,k.bl.trans h.bl,fun b h1 h2=>by
 have hd:b<d.blocks.length:=by rw[h.bl];exact h1
 obtain⟨a1,a2,a3,a4,a5⟩:=h.j b h1 hd
 obtain⟨b1,b2,b3,b4,b5⟩:=k.j b hd h2
 exact⟨b1.trans a1,b2.trans a2,b3.trans a3,b4.trans a4,b5.trans a5⟩⟩
theorem Shr.next {c d:CodeD}(h:Shr c d):d.blocks.map BlkD.next=c.blocks.map BlkD.next:=List.ext_getElem (by simp[h.bl]) fun b h1 h2=>by
 simp only[List.length_map]at h1 h2
 simp only[List.getElem_map]
 exact (h.j b h2 h1).2.2.1
theorem Shr.gnx {c d:CodeD}(h:Shr c d):gnx d=gnx c:=by funext i;rw[Y.gnx,Y.gnx,h.next]
theorem Shr.cnt {c d:CodeD}(h:Shr c d):Q6u d≤Q6u c∧(Q6u d=Q6u c→∀b (h1:b<c.blocks.length) (h2:b<d.blocks.length),d.blocks[b].ins.length=c.blocks[b].ins.length∧d.blocks[b].phis.length=c.blocks[b].phis.length):=by
 have key:∀m,m≤c.blocks.length→Qkd Qtx (d.blocks.take m)≤Qkd Qtx (c.blocks.take m)∧(Qkd Qtx (d.blocks.take m)=Qkd Qtx (c.blocks.take m)→∀b,b<m→∀(h1:b<c.blocks.length) (h2:b<d.blocks.length),d.blocks[b].ins.length=c.blocks[b].ins.length∧d.blocks[b].phis.length=c.blocks[b].phis.length):=fun m=>by
  induction m with
  |zero=>intro _;exact⟨by simp[Qkd],fun _ b hb=>absurd hb (by omega)⟩
  |succ m ih=>
   intro hm
   obtain⟨i1,i2⟩:=ih (by omega)
   have hc:m<c.blocks.length:=by omega
   have hd:m<d.blocks.length:=by rw[h.bl];exact hc
   obtain⟨_,_,_,s1,s2⟩:=h.j m hc hd
   have l1:=s1.length_le
   have l2:=s2.length_le
   rw[Qfb hc,Qfb hd,Qtx,Qtx]
   refine⟨by omega,fun he b hb h1 h2=>?_⟩
   by_cases hbm:b=m
   ·subst hbm;exact⟨by omega,by omega⟩
   ·exact i2 (by omega) b (by omega) h1 h2
 obtain⟨k1,k2⟩:=key _ (Nat.le_refl _)
 have e1:d.blocks.take c.blocks.length=d.blocks:=by rw[←h.bl,List.take_length]
 have e2:c.blocks.take c.blocks.length=c.blocks:=List.take_length
 rw[e1,e2]at k1 k2
 exact⟨k1,fun he b h1 h2=>k2 he b h1 h1 h2⟩
def flI (x:InsD):Option Nat×List Nat:=(Q8b x,toN x.args)
theorem Shr.ok {c d:CodeD}(s:Shr c d)(ho:c.ok):d.ok:=by
 have hg:=s.gnx
 refine⟨by rw[s.rg];exact ho.r0,by rw[s.rg];exact ho.r1,by rw[s.bl];exact ho.b0,by rw[s.bl];exact ho.b1,fun b hb=>?_,fun b hb=>?_⟩
 ·have hb':b<c.blocks.length:=by rw[←s.bl];exact hb
  obtain⟨g1,g2,g3,g4,g5⟩:=s.j b hb' hb
  have o:=ho.bs b hb'
  have rr:∀v,rIn c v→rIn d v:=fun v hv=>by simp only[rIn,s.rg]at hv⊢;exact hv
  refine⟨by rw[g3];exact o.nxl,fun v hv=>?_,by rw[g1];exact o.jmp,fun hj=>?_,fun x hx v hv=>rr _ (o.args x (g4.subset hx) v hv),fun x hx hm=>rr _ (o.to x (g4.subset hx) hm),
   fun x hx=>rr _ (o.pto x (g5.subset hx)),fun x hx v hv=>rr _ (o.pargs x (g5.subset hx) v hv),fun x hx=>?_,fun x hx=>o.al x (g4.subset hx)⟩
  ·rw[g3]at hv;rw[s.bl];exact o.nx v hv
  ·rw[g1]at hj;rw[g2];exact rr _ (o.on hj)
  ·rw[hg,s.bl];exact o.pal x (g5.subset hx)
 ·have hb':b<c.blocks.length:=by rw[←s.bl];exact hb
  obtain⟨g1,g2,g3,g4,g5⟩:=s.j b hb' hb
  have o:=ho.il b hb'
  have:=g4.length_le
  have:=g5.length_le
  omega
def Idl (q d:CodeD):Prop:=∃n,d=Nat.repeat Qblc n q∧Qblc d=d
end Go.AE.Y

namespace Go.AE
variable {H0 H H':Heap}{E L B Lg:List (Nat×Obj)}
end Go.AE
namespace Go.AE.Y
attribute [local go_sem] cond_true cond_false Bool.not_true Bool.not_false
open Go.Proofs.Tryz
variable {H H0 F:Heap}{K:V→Heap→Prop}{E L B:List (Nat×Obj)}{q:CodeD}
structure DBlk where
 y:BlkD
 pc:C
 pl:List (Nat×Obj)
 ic:C
 il:List (Nat×Obj)
def DBlk.row (d:DBlk):List C:=[d.pc,d.ic,.int .i64 d.y.jump,.int .i64 d.y.on,.sl false 1 (Qf d.y.next)]
def DBlk.lg (d:DBlk):List (Nat×Obj):=d.pl++d.il
structure DBlk.ok (d:DBlk):Prop where
 p:Gw d.pl 2 (Qaj d.y.phis) d.pc
 i:Gr d.il 4 (Qbo d.y.ins) d.ic
theorem Gw.frzM {Lg:List (Nat×Obj)}{S:Nat→Bool}{sz:Nat}{rows:List (List C)}{c:C}(h:Gw Lg sz rows c)(hm:∀p∈Lg,H p.1=p.2∧S p.1=true)(hr:∀r∈rows,noOw r=true):FrzC H S c (.sl false sz rows):=by
 rcases h with ⟨rfl,rfl,_⟩|⟨y,R,rfl,rfl,hR⟩
 ·exact FrzR.nil.sl
 ·have hle:rows.length≤R.length:=by
   have:=congrArg List.length hR
   rw[List.length_take]at this
   omega
  obtain⟨h1,h2⟩:=hm (y,.vec sz R) (by simp)
  have h:=FrzR.same (H:=H) (S:=S) hr
  exact .vsl y sz 0 _ R rows rows h2 h1 (by omega) (by simpa using hR.symm) h.spec.1 (fun i r r' h1 h2=>(h.spec.2 i r r' h1 h2).spec.1) fun i r r' j c c' h1 h2 h3 h4=>(h.spec.2 i r r' h1 h2).spec.2 j c c' h3 h4
theorem DBlk.frzR {S:Nat→Bool}:∀{ds:List DBlk},(∀d∈ds,d.ok)→(∀d∈ds,∀p∈d.lg,H p.1=p.2∧S p.1=true)→FrzR H S (ds.map DBlk.row) (Qm (ds.map DBlk.y))
 |[],_,_=>.nil
 |d::ds,h,hm=>.cons (.cons ((h d List.mem_cons_self).p.frzM (fun p hp=>hm d List.mem_cons_self p (List.mem_append_left _ hp)) (Q8k _))
   (.cons (Gr.frzM (h d List.mem_cons_self).i (fun p hp=>hm d List.mem_cons_self p (List.mem_append_right _ hp)) (FrzR.same (Qrj _)))
   (.cons (Qi rfl) (.cons (Qi rfl) (.cons (Qip (noOw_mem (Qu _))) .nil)))))
   (DBlk.frzR (fun d hd=>h d (List.mem_cons_of_mem _ hd)) fun d hd=>hm d (List.mem_cons_of_mem _ hd))
theorem CodeD.ok.fts (h:q.ok):q.fits:=fun y hy=>by
 obtain⟨b,hb,rfl⟩:=List.mem_iff_getElem.1 hy
 have:=h.il b hb
 omega
theorem CodeD.ok.cl (h:q.ok):∀y∈q.blocks,y.cl:=fun y hy=>by
 obtain⟨b,hb,rfl⟩:=List.mem_iff_getElem.1 hy
 have h1:=h.il b hb
 have h2:=h.bs b hb
 have h3:=h2.nxl
 have h4:=h.b1
 refine⟨by omega,by omega,by simp only[LIM];omega,fun x hx=>?_,fun x hx=>?_⟩
 ·have:=h2.al x hx;simp only[LIM];omega
 ·have:=h2.pal x hx
  have h5:=Qcm (gnx q) (b:Int) q.blocks.length
  simp only[LIM];omega
end Go.AE.Y

namespace Go.AE
variable {H0 H H':Heap}{E L B Lg:List (Nat×Obj)}{S:Nat→Bool}
theorem Kn.freeze0 (kn:Kn H0 H E (B++Lg)):∃S:Nat→Bool,(∀p∈Lg,H p.1=p.2∧S p.1=true)∧(∀p∈B,H p.1=p.2∧S p.1=false)∧FrzH H S (H.frz S)∧Kn H0 (H.frz S) E B:=by
 have hd:=kn.dL
 rw[List.map_append]at hd
 obtain⟨d1,d2,d3⟩:=List.nodup_append.1 hd
 have keyB:∀m,m∉Lg.map Prod.fst→(Lg.map Prod.fst).contains m=false:=fun m hm=>by
  cases hc:(Lg.map Prod.fst).contains m with
  |false=>rfl
  |true=>exact absurd (List.contains_iff_mem.1 hc) hm
 have key:∀m,m∉Lg.map Prod.fst→(H.frz fun m=>(Lg.map Prod.fst).contains m) m=H m:=fun m hm=>by
  simp only[Heap.frz,keyB m hm];rfl
 have hB:∀p∈B,p.1∉Lg.map Prod.fst:=fun p hp hh=>d3 _ (Qam hp) _ hh rfl
 refine⟨fun m=>(Lg.map Prod.fst).contains m,fun p hp=>⟨(kn.get p (List.mem_append_right _ (List.mem_append_right _ hp))).1,List.contains_iff_mem.2 (Qam hp)⟩,
  fun p hp=>⟨(kn.get p (List.mem_append_right _ (List.mem_append_left _ hp))).1,keyB _ (hB p hp)⟩,Qf0 _ _,?_⟩
 refine⟨fun p hp=>?_,kn.ext,fun p hp=>kn.loc p (List.mem_append_left _ hp),kn.dE,d1,fun m hm hx=>?_⟩
 ·have hg:H p.1=p.2∧p.2≠.none:=kn.get p (by
   rcases List.mem_append.1 hp with h|h
   ·exact List.mem_append_left _ h
   ·exact List.mem_append_right _ (List.mem_append_left _ h))
  refine⟨?_,hg.2⟩
  rw[key p.1 (fun hh=>?_)];exact hg.1
  rcases List.mem_append.1 hp with h|h
  ·obtain⟨r,hr,he⟩:=List.mem_map.1 hh
   exact kn.ext p h (he▸kn.loc r (List.mem_append_right _ hr))
  ·exact hB p h hh
 ·rw[key m (fun hh=>?_)]
  ·exact kn.chg m hm hx
  ·obtain⟨r,hr,he⟩:=List.mem_map.1 hh
   exact hm (he▸kn.loc r (List.mem_append_right _ hr))
theorem Qawf {e e':Env}(h:∀p∈e',FrzV H S (lk p.1 e) p.2):∀t,FrzV H S (lk t e) (lk t e'):=fun t=>by
 induction e' with
 |nil=>exact .unk _
 |cons p e' ih=>
  obtain⟨s,v⟩:=p
  by_cases ht:t=s
  ·subst ht
   have:=h (t,v) List.mem_cons_self
   simpa[lk]using this
  ·have:=ih fun p hp=>h p (List.mem_cons_of_mem _ hp)
   simpa[lk,ht]using this
theorem FrzO.vecR {sz:Nat}{rows rows':List (List C)}(h:Y.FrzR H S rows rows')(hn:∀r∈rows,noOw r=true):FrzO H S (.vec sz rows) (.vec sz rows'):=by
 refine .vec sz rows rows' h.spec.1 (fun i r r' h1 h2=>(h.spec.2 i r r' h1 h2).spec.1) fun i r r' j c c' h1 h2 h3 h4=>.inr ⟨?_,(h.spec.2 i r r' h1 h2).spec.2 j c c' h3 h4⟩
 exact Y.noOw_mem hn r (List.mem_of_getElem? h1) c (List.mem_of_getElem? h3)
end Go.AE
namespace Go.AE.Y
variable {H H0:Heap}{E L R B Lg:List (Nat×Obj)}{S:Nat→Bool}
theorem Qkv {α:Type}{f g:α→List C}:∀(l:List α),(∀x∈l,FrzL H S (f x) (g x))→FrzR H S (l.map f) (l.map g)
 |[],_=>.nil
 |x::l,h=>.cons (h x List.mem_cons_self) (Qkv l fun y hy=>h y (List.mem_cons_of_mem _ hy))
theorem Qa4a {is:List OIns}(h:Held H S (is.flatMap OIns.lg)):FrzR H S (is.map OIns.row) (Qbo (is.map OIns.d)):=by
 rw[Qbo,List.map_map]
 exact Qkv is fun x hx=>x.frz (h.m hx)
theorem Qaox {ph:List OPhi}(ho:∀p∈ph,p.ok)(h:Held H S (ph.flatMap OPhi.lg)):FrzR H S (ph.map OPhi.row) (Qaj (ph.map OPhi.d)):=by
 rw[Qaj,List.map_map]
 exact Qkv ph fun x hx=>x.frz (ho x hx) (h.m hx)
theorem OBlk.gh {o:OBlk}(hok:o.ok){x8:Nat}(kn:Kn H0 H E ([(x8,.st o.row)]++(R++o.lg))) :
  ∃S H3 pl,FrzH H S H3∧Gr pl 2 (Qaj o.d.phis) o.pc∧Kn H0 H3 E ([(x8,.st (kRow o.d o.pc))]++(R++pl)):=by
 have kn:Kn H0 H E (([(x8,.st o.row)]++(o.pl++R))++(o.nx.lg++(o.phis.flatMap OPhi.lg++(o.ins.flatMap OIns.lg++o.il)))):=kn.perm (Qy fun f hf h0 hc hp=>by
  simp only[hf,OBlk.lg];omega)
 obtain⟨S,hS,hB,hfz,kn⟩:=kn.freeze0
 have hHd:Held H S (o.nx.lg++(o.phis.flatMap OPhi.lg++(o.ins.flatMap OIns.lg++o.il))):=hS
 have hic:=Gr.frzM hok.i hHd.r.r.r (Qa4a hHd.r.r.l)
 have hph:=Qaox hok.a hHd.r.l
 have hnx:=o.nx.frz hHd.l
 have hx8:=hB (x8,.st o.row) (by simp)
 have f1:FrzH H S ((H.frz S).set x8 (.st (kRow o.d o.pc))):=hfz.set hx8.2 (by
  rw[hx8.1]
  exact FrzKL.st (.same (.cons hok.i.isOw hic (.same (.same (.cons rfl hnx .nil))))))
 have kn:=kn.setL (o':=.st (kRow o.d o.pc)) 0 rfl (by simp)
 have kn:Kn H0 ((H.frz S).set x8 (.st (kRow o.d o.pc))) E ([(x8,.st (kRow o.d o.pc))]++(o.pl++R)):=kn
 rcases hok.p with ⟨h1,h2,h3⟩|⟨z,h1,h2⟩
 ·have hph0:o.phis=[]:=List.map_eq_nil_iff.1 h2
  refine⟨S,_,[],f1,?_,by rw[h3]at kn;simpa using kn⟩
  rw[h1];simp only[OBlk.d,hph0,List.map_nil];exact .nil 2
 ·rw[h2]at kn
  have hz:=hB (z,.vec 2 (o.phis.map OPhi.row)) (by rw[h2];simp)
  have hno:∀r∈o.phis.map OPhi.row,Go.AE.noOw r=true:=fun r hr=>by
   obtain⟨p,hp,rfl⟩:=List.mem_map.1 hr
   exact p.noOw (hok.a p hp)
  refine⟨S,_,[(z,.vec 2 (Qaj o.d.phis))],f1.set (o:=.vec 2 (Qaj o.d.phis)) hz.2 (by rw[hz.1];exact .vecR hph hno),?_,?_⟩
  ·rw[h1];exact .mk _ _ _ (by simp[OBlk.d,Q9])
  ·have kn:=kn.setL (o':=.vec 2 (Qaj o.d.phis)) 1 rfl (by simp)
   exact kn.perm (Qy fun f hf h0 hc hp=>by
    show f ([(x8,_)]++([(z,_)]++R))=_
    simp only[hf];omega)
def Qbn (q:CodeD)(b:Nat):BlkD:=q.blocks.getD b ⟨[],[],0,0,[]⟩
theorem Qb5 {q:CodeD}{b:Nat}(h:b<q.blocks.length):Qbn q b=q.blocks[b]:=by simp[Qbn,List.getD_eq_getElem?_getD,h]
theorem Qbhq {q:CodeD}{b:Nat}(h:b<q.blocks.length):gnx q b=(Qbn q b).next:=by rw[Qb5 h,Qv0 h]
structure Pk (q:CodeD)(l:List Nat):Prop where
 n:l.length≤160
 z:l[0]? = some 0
 lt:∀x∈l,x<q.blocks.length
 cl:∀x∈l,∀v∈gnx q x,v.toNat∈l
def pkY (q:CodeD)(P:List Int)(b:Nat):BlkD:=⟨(Qbn q b).phis,(Qbn q b).ins,(Qbn q b).jump,(Qbn q b).on,(Qbn q b).next.map fun v=>P.getD v.toNat 0⟩
def pkN (q:CodeD)(P:List Int)(l:List Nat):Nat→List Int:=fun i=>(l.map fun b=>(pkY q P b).next).getD i []
structure PkB (q:CodeD)(P:List Int)(b:Nat)(y:BlkD):Prop where
 j:y.jump=(Qbn q b).jump
 o:y.on=(Qbn q b).on
 i:y.ins=(Qbn q b).ins
 n:y.next=(pkY q P b).next
 t:y.phis.map PhiD.to=(Qbn q b).phis.map PhiD.to
def PkA (q:CodeD)(P:List Int)(l:List Nat)(j:Nat)(p:PhiD):Prop:=p.args.length=(Q8 (pkN q P l) (j:Int) l.length).length∧∀v∈p.args,rIn q v
structure PkR (q d:CodeD):Prop where
 ok:d.ok
 p:d.params=q.params
 r:d.regs=q.regs
 i:∀y∈d.blocks,∃y0∈q.blocks,y.ins=y0.ins∧y.phis.length=y0.phis.length
variable {q:CodeD}{P:List Int}{l:List Nat}
theorem Pk.get (hp:Pk q l){j:Nat}(hj:j<l.length):l.getD j 0=l[j]∧l[j]∈l∧l[j]<q.blocks.length:=
 ⟨by simp[List.getD_eq_getElem?_getD,hj],List.getElem_mem hj,hp.lt _ (List.getElem_mem hj)⟩
theorem Pk.to (ho:q.ok)(hp:Pk q l)(hP:Qa8o q.blocks.length l P){b:Nat}(hb:b∈l){w:Int}(hw:w∈(Qbn q b).next):1≤w∧w.toNat<P.length∧∃i,∃h:i<l.length,l[i]=w.toNat∧P.getD w.toNat 0=(i:Int)∧1≤i:=by
 have hlt:=hp.lt b hb
 have h1:1≤w∧w<q.blocks.length:=by
  rw[Qb5 hlt]at hw
  exact (ho.bs b hlt).nx w hw
 have h2:=hp.cl b hb w (by rw[Qbhq hlt];exact hw)
 obtain⟨i,hi,h3,h4⟩:=hP.2 _ h2
 refine⟨h1.1,by rw[hP.1];exact hp.lt _ h2,i,hi,h3,h4,?_⟩
 have hz:=hp.z
 by_cases h0:i=0
 ·subst h0
  rw[List.getElem?_eq_getElem hi,h3]at hz
  have:=Option.some.inj hz
  omega
 ·omega
theorem Qbbl {j:Nat}(hj:j<l.length):pkN q P l j=(pkY q P l[j]).next:=by simp[pkN,List.getD_eq_getElem?_getD,hj]
theorem Pk.preds (ho:q.ok)(hp:Pk q l)(hP:Qa8o q.blocks.length l P){j:Nat}(hj:j<l.length){m:Int}(hm:m∈Q8 (pkN q P l) (j:Int) l.length) :
  ∃j',∃h:j'<l.length,m=(j':Int)∧((l[j']:Nat):Int)∈Q8 (gnx q) ((l[j]:Nat):Int) q.blocks.length:=by
 simp only[Q8,List.mem_map,List.mem_filter,List.mem_range]at hm
 obtain⟨j',⟨h1,h2⟩,rfl⟩:=hm
 refine⟨j',h1,rfl,?_⟩
 have h3:=List.contains_iff_mem.1 h2
 rw[Qbbl h1]at h3
 obtain⟨w,hw,h4⟩:=List.mem_map.1 h3
 obtain⟨g1,g2⟩:=(hp.get h1).2
 obtain⟨w1,_,i,hi,h5,h6,_⟩:=hp.to ho hP g1 hw
 have hij:i=j:=by omega
 subst hij
 simp only[Q8,List.mem_map,List.mem_filter,List.mem_range]
 refine⟨l[j'],⟨g2,List.contains_iff_mem.2 ?_⟩,rfl⟩
 rw[Qbhq g2,h5]
 have e:((w.toNat:Nat):Int)=w:=by omega
 rw[e];exact hw
theorem CodeD.ok.sg (h:q.ok):q.sg:=⟨by have:=h.b1;omega,fun y hy=>by
 obtain⟨b,hb,rfl⟩:=List.mem_iff_getElem.1 hy
 have h1:=h.il b hb
 have h2:=h.bs b hb
 have h3:=h2.nxl
 have h4:=h.b1
 refine⟨by omega,by omega,by omega,fun x hx=>by have:=h2.al x hx;omega,fun x hx=>?_⟩
 have:=h2.pal x hx
 have h5:=Qcm (gnx q) (b:Int) q.blocks.length
 omega⟩
theorem Qbmj (ho:q.ok)(hp:Pk q l)(hP:Qa8o q.blocks.length l P){d:CodeD}(h1:d.params=q.params)(h2:d.regs=q.regs)(hl:d.blocks.length=l.length)
  (hb:∀j (h:j<d.blocks.length),PkB q P (l.getD j 0) d.blocks[j]∧∀p∈d.blocks[j].phis,PkA q P l j p):PkR q d:=by
 have hg:gnx d=pkN q P l:=by
  funext i
  by_cases hi:i<l.length
  ·have hi':i<d.blocks.length:=by omega
   rw[Qbbl hi,Qv0 hi',(hb i hi').1.n,(hp.get hi).1]
  ·have hi':¬i<d.blocks.length:=by omega
   rw[gnx,pkN,List.getD_eq_getElem?_getD,List.getD_eq_getElem?_getD,List.getElem?_eq_none (by simpa using hi'),List.getElem?_eq_none (by simpa using hi)]
 have hr:∀v,rIn q v→rIn d v:=fun v hv=>by simp only[rIn,h2]at hv⊢;exact hv
 have hl0:0<l.length:=by
  have:=hp.z
  cases l with
  |nil=>simp at this
  |cons=>simp
 have hn:=hp.n
 refine⟨⟨by rw[h2];exact ho.r0,by rw[h2];exact ho.r1,by omega,by omega,fun b h=>?_,fun b h=>?_⟩,h1,h2,fun y hy=>?_⟩
 ·have hbl:b<l.length:=by omega
  obtain⟨g,ga⟩:=hb b h
  obtain⟨e1,e2,e3⟩:=hp.get hbl
  rw[e1]at g
  have o:=ho.bs _ e3
  rw[←Qb5 e3]at o
  have gt:∀p∈d.blocks[b].phis,rIn q p.to:=fun p hp'=>by
   have:p.to∈d.blocks[b].phis.map PhiD.to:=List.mem_map.2 ⟨p,hp',rfl⟩
   rw[g.t]at this
   obtain⟨p0,hp0,he⟩:=List.mem_map.1 this
   rw[←he];exact o.pto p0 hp0
  refine⟨by rw[g.n];simpa[pkY]using o.nxl,fun v hv=>?_,by rw[g.j];exact o.jmp,fun hj=>by rw[g.j]at hj;rw[g.o];exact hr _ (o.on hj),fun x hx v hv=>?_,fun x hx hm=>?_,fun x hx=>hr _ (gt x hx),fun x hx v hv=>hr _ ((ga x hx).2 v hv),fun x hx=>?_,fun x hx=>?_⟩
  ·rw[g.n]at hv
   obtain⟨w,hw,rfl⟩:=List.mem_map.1 hv
   obtain⟨_,_,i,hi,_,h6,h7⟩:=hp.to ho hP e2 hw
   rw[h6];omega
  ·rw[g.i]at hx;exact hr _ (o.args x hx v hv)
  ·rw[g.i]at hx;exact hr _ (o.to x hx hm)
  ·rw[(ga x hx).1,hg,hl]
  ·rw[g.i]at hx;exact o.al x hx
 ·have hbl:b<l.length:=by omega
  obtain⟨g,ga⟩:=hb b h
  obtain⟨e1,e2,e3⟩:=hp.get hbl
  rw[e1]at g
  have gi:=g.i
  have h3:=congrArg List.length g.t
  rw[Qb5 e3]at gi h3
  have:=ho.il _ e3
  simp only[List.length_map]at h3
  rw[gi];omega
 ·obtain⟨b,h,rfl⟩:=List.mem_iff_getElem.1 hy
  have hbl:b<l.length:=by omega
  obtain⟨g,ga⟩:=hb b h
  obtain⟨e1,e2,e3⟩:=hp.get hbl
  rw[e1]at g
  have gi:=g.i
  have h3:=congrArg List.length g.t
  rw[Qb5 e3]at gi h3
  simp only[List.length_map]at h3
  exact⟨_,List.getElem_mem e3,gi,h3⟩
theorem Qbf1 {α:Type}{f:α→α}{l:List α}{k:Nat}(hk:k<l.length):((l.take k).map f++l.drop k).set k (f l[k])=(l.take (k+1)).map f++l.drop (k+1):=by
 have h1:((l.take k).map f).length=k:=by simp;omega
 rw[List.set_append_right _ _ (by omega),h1,Nat.sub_self,List.drop_eq_getElem_cons hk,List.set_cons_zero,List.take_succ_eq_append_getElem hk,List.map_append]
 simp
end Go.AE.Y

namespace Go.AE.Y
attribute [local go_sem] cond_true cond_false Bool.not_true Bool.not_false
open Go.Proofs.Tryz
variable {H H0:Heap}{K:V→Heap→Prop}{E B Lg:List (Nat×Obj)}
theorem OBlk.row_eq (o:OBlk):o.row=[o.pc,o.ic,.int .i64 o.jump,.int .i64 o.on,.vsl o.nx.y 1 0 o.nx.ns.length]:=rfl
def OBlk.rest (o:OBlk):List (Nat×Obj):=o.phis.flatMap OPhi.lg++(o.pl++(o.ins.flatMap OIns.lg++o.il))
theorem OBlk.lg_eq (o:OBlk):o.lg=[(o.nx.y,.vec 1 (Qf o.nx.ns))]++o.rest:=rfl
theorem KBlk.row_eq (b:KBlk):b.row=[b.pc,.sl false 4 (Qbo b.y.ins),.int .i64 b.y.jump,.int .i64 b.y.on,.sl false 1 (Qf b.y.next)]:=rfl
structure PkS (q:CodeD)(P:List Int)(l:List Nat)(i:Nat)(ks:List KBlk):Prop where
 n:ks.length=l.length
 b:∀j (h:j<ks.length),PkB q P (l.getD j 0) ks[j].y
 ok:∀b∈ks,b.ok
 a:∀j (h:j<ks.length),j<i→∀p∈ks[j].y.phis,PkA q P l j p
 u:∀j (h:j<ks.length),i≤j→ks[j].y.phis=(Qbn q (l.getD j 0)).phis
theorem Qdh {α β:Type}{f:α→List β}:∀{l:List α} {i:Nat} (h:i<l.length),(l.flatMap f).Perm (f l[i]++(l.eraseIdx i).flatMap f)
 |[],i,h=>by simp at h
 |x::l,0,h=>by simp
 |x::l,i+1,h=>by
  have:=Qdh (f:=f) (l:=l) (i:=i) (by simpa using h)
  simp only[List.flatMap_cons,List.getElem_cons_succ,List.eraseIdx_cons_succ]
  refine (List.Perm.append_left _ this).trans ?_
  rw[←List.append_assoc,←List.append_assoc]
  exact List.Perm.append_right _ List.perm_append_comm
theorem vslc {H:Heap}{z sz n:Nat}{rows:List (List C)}(h:H z=.vec sz rows)(hn:n=rows.length):Slc H sz rows (.vsl z sz 0 n):=by
 subst hn
 exact⟨by simp only[okSl,h,Nat.zero_add,Nat.le_refl,and_self],rfl,by simp only[rowsOf,h,List.drop_zero,List.take_length],rfl⟩
variable {q:CodeD}{P:List Int}{l:List Nat}{ks:List KBlk}
theorem PkS.step {i:Nat}(hS:PkS q P l i ks)(hi:i<ks.length){ph:List PhiD}{pl:List (Nat×Obj)}(h1:ph.map PhiD.to=(Qbn q (l.getD i 0)).phis.map PhiD.to)(h2:∀p∈ph,PkA q P l i p)(hg:Gr pl 2 (Qaj ph) ks[i].pc) :
  PkS q P l (i+1) (ks.set i ⟨⟨ph,ks[i].y.ins,ks[i].y.jump,ks[i].y.on,ks[i].y.next⟩,ks[i].pc,pl⟩):=by
 have hb:=hS.b i hi
 refine⟨by rw[List.length_set];exact hS.n,fun j h=>?_,fun w hw=>?_,fun j h hj=>?_,fun j h hj=>?_⟩
 ·have h':j<ks.length:=by simpa using h
  rw[List.getElem_set]
  split
  ·rename_i e;subst e;exact⟨hb.j,hb.o,hb.i,hb.n,h1⟩
  ·exact hS.b j h'
 ·rcases List.mem_or_eq_of_mem_set hw with h|rfl
  ·exact hS.ok w h
  ·exact hg
 ·have h':j<ks.length:=by simpa using h
  rw[List.getElem_set]
  split
  ·rename_i e;subst e;exact h2
  ·exact hS.a j h' (by omega)
 ·have h':j<ks.length:=by simpa using h
  rw[List.getElem_set]
  split
  ·omega
  ·exact hS.u j h' (by omega)
theorem PkS.rows {i:Nat}{ph:List PhiD}{pl:List (Nat×Obj)}(hi:i<ks.length):(ks.set i ⟨⟨ph,ks[i].y.ins,ks[i].y.jump,ks[i].y.on,ks[i].y.next⟩,ks[i].pc,pl⟩).map KBlk.row=ks.map KBlk.row:=by
 rw[List.map_set]
 have:(KBlk.mk ⟨ph,ks[i].y.ins,ks[i].y.jump,ks[i].y.on,ks[i].y.next⟩ ks[i].pc pl).row=(ks.map KBlk.row)[i]'(by simpa using hi):=by simp[KBlk.row,kRow]
 rw[this,List.set_getElem_self]
set_option maxHeartbeats 8000000 in
theorem Qbbk {H0 H:Heap}{E:List (Nat×Obj)}{Q:X→Env→Heap→Prop}{e:Env}{fl fl2:Bool}{x4 x6 zb:Nat}{ks0:List KBlk}(ho:q.ok)(hp:Pk q l)(hP:Qa8o q.blocks.length l P)(hS:PkS q P l 0 ks0)
  (kn:Kn H0 H E ([(x4,.st [.int .i64 0,.int .i64 0,.sl true 5 []]),(x6,.st [.int .i64 q.params,.int .i64 q.regs,.vsl zb 5 0 l.length]),(zb,.vec 5 (ks0.map KBlk.row))]++ks0.flatMap KBlk.pl))
  (l1:lk 1 e=.c (.sl fl2 1 (Q5 l))) (l2:lk 2 e=.c (.pp [.int .i64 q.params,.int .i64 q.regs,.sl fl 5 (Qm q.blocks)])) (l4:lk 4 e=.c (.ptr x4 0)) (l6:lk 6 e=.c (.ptr x6 0))
  (hQ:∀(e:Env) (H':Heap) (ks:List KBlk),PkS q P l l.length ks→Kn H0 H' E ([(x4,.st [.int .i64 q.params,.int .i64 q.regs,.vsl zb 5 0 l.length]),(x6,.st [.int .i64 q.params,.int .i64 q.regs,.vsl zb 5 0 l.length]),(zb,.vec 5 (ks.map KBlk.row))]++ks.flatMap KBlk.pl)→
   lk 4 e=.c (.ptr x4 0)→Q .ret e H'):Qae prog Q16 Q e H:=by
 have hb1:=ho.b1
 have hln:=hp.n
 obtain⟨X4,hX4⟩:∃o,o=Obj.st [.int .i64 0,.int .i64 0,.sl true 5 []]:=⟨_,rfl⟩
 obtain⟨X6,hX6⟩:∃o,o=Obj.st [.int .i64 q.params,.int .i64 q.regs,.vsl zb 5 0 l.length]:=⟨_,rfl⟩
 rw[←hX4,←hX6]at kn
 refine Q4 ?_
 refine Qa ?_
 simp only[go_sem,l1,l2,l4,l6]
 refine Qg (Qc (Qs (fun m e1 H1=>∃(i:Nat) (ks:List KBlk),m=l.length-i∧i≤l.length∧PkS q P l i ks∧
  Kn H0 H1 E ([(x4,X4),(x6,X6),(zb,.vec 5 (ks.map KBlk.row))]++ks.flatMap KBlk.pl)∧
  lk 1 e1=.c (.sl fl2 1 (Q5 l))∧lk 2 e1=.c (.pp [.int .i64 q.params,.int .i64 q.regs,.sl fl 5 (Qm q.blocks)])∧lk 4 e1=.c (.ptr x4 0)∧lk 6 e1=.c (.ptr x6 0)∧lk 10 e1=.c (.int .i64 i)) l.length ?_ ?_))
 ·exact⟨0,ks0,by omega,by omega,hS,kn,rfl,rfl,rfl,rfl,rfl⟩
 ·clear kn hS l1 l2 l4 l6
  rintro m e1 H1 ⟨i,ks,hm,hi,hS,kn,l1,l2,l4,l6,l10⟩
  have hkl:=hS.n
  refine Q4 ?_
  refine Qa ?_
  simp only[go_sem,l1,l2,l4,l6,l10,Qw]
  try intro _
  refine Qg (Qe rfl ?_ ?_)
  ·intro hc
   have hlt:i<l.length:=by simpa using hc
   have hki:i<ks.length:=by omega
   obtain⟨b,hb⟩:∃b,l[i]=b:=⟨_,rfl⟩
   have hbm:b∈l:=by rw[←hb];exact List.getElem_mem hlt
   have hbn:=hp.lt b hbm
   have hgd:l.getD i 0=b:=by simp[List.getD_eq_getElem?_getD,hlt,hb]
   obtain⟨kb,hkb⟩:∃kb,ks[i]=kb:=⟨_,rfl⟩
   have hkbo:Gr kb.pl 2 (Qaj kb.y.phis) kb.pc:=by rw[←hkb];exact hS.ok _ (List.getElem_mem hki)
   have hkbB:PkB q P b kb.y:=by have:=hS.b i hki;rw[hgd,hkb]at this;exact this
   have hkbU:kb.y.phis=(Qbn q b).phis:=by have:=hS.u i hki (Nat.le_refl _);rw[hgd,hkb]at this;exact this
   have hyo:=ho.bs b hbn
   have hil:=ho.il b hbn
   rw[←Qb5 hbn]at hyo hil
   obtain⟨R,hR⟩:∃R,(ks.eraseIdx i).flatMap KBlk.pl=R:=⟨_,rfl⟩
   have hflat:(ks.flatMap KBlk.pl).Perm (kb.pl++R):=by rw[←hR,←hkb];exact Qdh hki
   obtain⟨RW,hRW⟩:∃RW,ks.map KBlk.row=RW:=⟨_,rfl⟩
   have hRWl:RW.length=l.length:=by rw[←hRW,List.length_map,hkl]
   have hRWg:RW.getD i []=[kb.pc,.sl false 4 (Qbo kb.y.ins),.int .i64 kb.y.jump,.int .i64 kb.y.on,.sl false 1 (Qf kb.y.next)]:=by
    rw[←hRW,List.getD_eq_getElem?_getD]
    simp only[List.getElem?_map,List.getElem?_eq_getElem hki,hkb,Option.map_some,Option.getD_some]
    exact kb.row_eq
   have hRWt:RW.take l.length=RW:=List.take_of_length_le (by omega)
   rw[hRW]at kn
   have hx6:H1 x6=X6:=(kn.get (x6,X6) (by simp)).1
   rw[hX6]at hx6
   refine Qh ?_
   try simp only[go_sem]
   refine Qg (Qc ?_)
   refine Qal ?_
   simp only[go_sem,l1,l2,l4,l6,l10,hlt,Qw,Qad _ _ hlt,hgd]
   refine Qe1 (nx:=gnx q) (.mk' _ _ _ _) rfl (Qht H1 q fl).x fun H2 hu=>?_
   have kn:=kn.call0 hu
   simp only[go_sem,Qxb,Qk]
   obtain⟨olds,hol⟩:∃o,Q8 (gnx q) (b:Int) q.blocks.length=o:=⟨_,rfl⟩
   rw[hol]
   have hx6:H2 x6=X6:=(kn.get (x6,X6) (by simp)).1
   rw[hX6]at hx6
   have hzb:H2 zb=.vec 5 RW:=(kn.get (zb,.vec 5 RW) (by simp)).1
   refine Qa ?_
   simp only[go_sem,l1,l2,l4,l6,l10,hx6]
   refine Qe1 (nx:=pkN q P l) (vslc hzb hRWl.symm) rfl (fun j hj=>?_) fun H3 hu=>?_
   ·have hj':j<ks.length:=by omega
    have hj2:j<l.length:=by omega
    have hjB:=hS.b j hj'
    rw[(hp.get hj2).1]at hjB
    refine⟨ks[j].pc,.sl false 4 (Qbo ks[j].y.ins),.int .i64 ks[j].y.jump,.int .i64 ks[j].y.on,false,?_⟩
    rw[←hRW,List.getD_eq_getElem?_getD]
    simp only[List.getElem?_map,List.getElem?_eq_getElem hj',Option.map_some,Option.getD_some]
    rw[Qbbl hj2,←hjB.n]
    exact KBlk.row_eq _
   have kn:=kn.call0 hu
   rw[hRWl]
   obtain⟨news,hnw⟩:∃o,Q8 (pkN q P l) (i:Int) l.length=o:=⟨_,rfl⟩
   rw[hnw]
   have hnl:news.length≤l.length:=by rw[←hnw];exact Qcm _ _ _
   simp only[go_sem,Qxc]
   refine Qa ?_
   simp only[go_sem]
   have kn:Kn H0 H3 E (([(x4,X4),(x6,X6),(zb,.vec 5 RW)]++R)++kb.pl):=kn.perm (Qy fun f hf h0 hc hp=>by
    have:=hp _ _ hflat
    simp only[hf]at this⊢;omega)
   refine Qc (Qs (fun m e1 H1=>∃(k:Nat) (ph:List PhiD) (pl:List (Nat×Obj)),m=ph.length-k∧k≤ph.length∧ph.map PhiD.to=(Qbn q b).phis.map PhiD.to∧(∀j (h:j<ph.length),j<k→PkA q P l i ph[j])∧(∀j,k≤j→ph[j]? = (Qbn q b).phis[j]?)∧Gr pl 2 (Qaj ph) kb.pc∧
    Kn H0 H1 E (([(x4,X4),(x6,X6),(zb,.vec 5 RW)]++R)++pl)∧
    lk 1 e1=.c (.sl fl2 1 (Q5 l))∧lk 2 e1=.c (.pp [.int .i64 q.params,.int .i64 q.regs,.sl fl 5 (Qm q.blocks)])∧lk 4 e1=.c (.ptr x4 0)∧lk 6 e1=.c (.ptr x6 0)∧lk 10 e1=.c (.int .i64 i)∧lk 11 e1=.c (.sl false 1 (Qf olds))∧lk 12 e1=.c (.sl false 1 (Qf news))∧lk 13 e1=.c (.int .i64 k)) kb.y.phis.length ?_ ?_)
   ·exact⟨0,kb.y.phis,kb.pl,by omega,by omega,by rw[hkbU],fun j h hj=>by omega,fun j _=>by rw[hkbU],hkbo,kn,rfl,rfl,rfl,rfl,rfl,rfl,rfl,rfl⟩
   ·clear kn hx6 hzb hflat hu l1 l2 l4 l6 l10
    rintro m2 e2 H4 ⟨k,ph,pl,hm2,hk,hto,hpa,hpu,hgr,kn,l1,l2,l4,l6,l10,l11,l12,l13⟩
    have hphl:ph.length=(Qbn q b).phis.length:=by have:=congrArg List.length hto;simpa using this
    have hx6:H4 x6=X6:=(kn.get (x6,X6) (by simp)).1
    rw[hX6]at hx6
    have hzb:H4 zb=.vec 5 RW:=(kn.get (zb,.vec 5 RW) (by simp)).1
    have hpw:=hgr.isOw
    have hpok:=eq_true (hgr.get kn).1
    have hplen:=hgr.lenC
    rw[Q9]at hplen
    refine Q4 ?_
    refine Qa ?_
    simp only[go_sem,l1,l2,l4,l6,l10,l11,l12,l13,hx6,hzb,hRWl,hRWt,hRWg,hlt,hpw,hpok,hplen,Nat.zero_add,Nat.le_refl]
    try intro _
    refine Qg (Qe rfl ?_ ?_)
    ·intro hc2
     have hlt2:k<ph.length:=by simpa using hc2
     obtain⟨z,hpc,hpl⟩:∃z,kb.pc=.vsl z 2 0 ph.length∧pl=[(z,.vec 2 (Qaj ph))]:=by
      rcases hgr with ⟨_,h,_⟩|⟨y,h1,h2⟩
      ·have:=congrArg List.length h;rw[Q9]at this;simp only[List.length_nil]at this;omega
      ·exact⟨y,by rw[h1,Q9],h2⟩
     rw[hpc]at hRWg
     rw[hpl]at kn
     clear hpw hpok hplen
     obtain⟨p,hpk⟩:∃p,ph[k]=p:=⟨_,rfl⟩
     have hpm:p∈(Qbn q b).phis:=by
      have h1:=hpu k (Nat.le_refl _)
      rw[List.getElem?_eq_getElem hlt2,hpk]at h1
      exact List.mem_of_getElem? h1.symm
     have hpal:p.args.length=olds.length:=by rw[←hol];exact hyo.pal p hpm
     have hpargs:=hyo.pargs p hpm
     have hptk:(Qaj ph).take ph.length=Qaj ph:=List.take_of_length_le (by rw[Q9];omega)
     have hpg:(Qaj ph).getD k []=[.int .i64 p.to,.sl false 1 (Qf p.args)]:=by rw[Qbg _ _ hlt2,hpk];rfl
     refine Qh ?_
     try simp only[go_sem]
     refine Qg (Qc ?_)
     refine Qa ?_
     simp only[go_sem]
     refine Q4 ?_
     refine Qa ?_
     simp only[go_sem]
     refine Qg (Qc (Qs (fun m e1 H1=>∃(j:Nat) (av:List Int) (t:C) (Lg:List (Nat×Obj)),m=news.length-j∧j≤news.length∧av.length=j∧(∀v∈av,rIn q v)∧Gr Lg 1 (Qf av) t∧
      Kn H0 H1 E (([(x4,X4),(x6,X6),(zb,.vec 5 RW)]++R++[(z,.vec 2 (Qaj ph))])++Lg)∧
      lk 1 e1=.c (.sl fl2 1 (Q5 l))∧lk 2 e1=.c (.pp [.int .i64 q.params,.int .i64 q.regs,.sl fl 5 (Qm q.blocks)])∧lk 4 e1=.c (.ptr x4 0)∧lk 6 e1=.c (.ptr x6 0)∧lk 10 e1=.c (.int .i64 i)∧lk 11 e1=.c (.sl false 1 (Qf olds))∧lk 12 e1=.c (.sl false 1 (Qf news))∧lk 13 e1=.c (.int .i64 k)∧
      lk 14 e1=.c t∧lk 15 e1=.c (.int .i64 j)) news.length ?_ ?_))
     ·exact⟨0,[],_,[],by omega,by omega,rfl,by simp,.nil 1,by simpa using kn,rfl,rfl,rfl,rfl,rfl,rfl,rfl,rfl,rfl,rfl⟩
     ·clear kn hx6 hzb l1 l2 l4 l6 l10 l11 l12 l13
      rintro m3 e3 H5 ⟨j,av,t,Lg,hm3,hj,hasl,has,hgt,kn,l1,l2,l4,l6,l10,l11,l12,l13,l14,l15⟩
      have htw:=hgt.isOw
      refine Q4 ?_
      refine Qa ?_
      simp only[go_sem,l1,l2,l4,l6,l10,l11,l12,l13,l14,l15,htw,Qd]
      try intro _
      refine Qg (Qe rfl ?_ ?_)
      ·intro hc3
       have hlt3:j<news.length:=by simpa using hc3
       have hnm:news[j]∈Q8 (pkN q P l) (i:Int) l.length:=by rw[hnw];exact List.getElem_mem hlt3
       obtain⟨j',hj',hnj,hmo⟩:=hp.preds ho hP hlt hnm
       rw[hb,hol]at hmo
       have hgd3:news.getD j 0=(j':Int):=by rw[←hnj];simp[List.getD_eq_getElem?_getD,hlt3]
       have hgd4:l.getD j' 0=l[j']:=by simp[List.getD_eq_getElem?_getD,hj']
       have hx6:H5 x6=X6:=(kn.get (x6,X6) (by simp)).1
       rw[hX6]at hx6
       have hzb:H5 zb=.vec 5 RW:=(kn.get (zb,.vec 5 RW) (by simp)).1
       have hz:H5 z=.vec 2 (Qaj ph):=(kn.get (z,.vec 2 (Qaj ph)) (by simp)).1
       refine Qh ?_
       try simp only[go_sem]
       refine Qg (Qc ?_)
       refine Qbc ?_
       simp only[go_sem,hx6,hzb,hz,hRWl,hRWt,hRWg,hlt,hlt2,hptk,hpg,Q9,hlt3,Qd,Qx _ _ hlt3,hgd3,hj',Qw,Qad _ _ hj',hgd4,htw,Nat.zero_add,Nat.le_refl]
       refine Qajo (ns:=olds) (.mk' _ _ _ _) rfl fun r hr=>?_
       obtain⟨a,ra,hal,_⟩:∃a:Nat,r=(a:Int)∧a<olds.length∧True:=by
        rcases hr with ⟨_,hn⟩|⟨a,h1,h2,_⟩
        ·exact absurd hmo hn
        ·exact⟨a,h1,h2,trivial⟩
       have hal2:a<p.args.length:=by omega
       have hgd5:p.args.getD a 0∈p.args:=Qjb hal2
       simp only[go_sem,Qxe,ra,hx6,hzb,hz,hRWl,hRWt,hRWg,hlt,hlt2,hptk,hpg,Q9,hal2,Qd,Qx _ _ hal2,htw,Nat.zero_add,Nat.le_refl]
       refine kn.growR (new:=Qf [p.args.getD a 0]) hgt (.mk' _ _ _ _) (Qu _) (by simp only[Qd,LIM,List.length_cons,List.length_nil];omega) fun t2 Lg2 H6 hgt2 ht2 kn=>?_
       simp only[go_sem,Qxd,ht2]
       refine Qq ?_
       simp only[go_sem,ht2]
       refine⟨Qo (by omega) (by omega),?_⟩
       show ∃m,_
       refine⟨news.length-(j+1),by omega,j+1,av++[p.args.getD a 0],t2,Lg2,rfl,by omega,by simp[hasl],fun v hv=>?_,by rw[Qcf];exact hgt2,kn,rfl,rfl,rfl,rfl,rfl,rfl,rfl,rfl,rfl,by simp[lk]⟩
       rcases List.mem_append.1 hv with hv|hv
       ·exact has v hv
       ·simp only[List.mem_singleton]at hv;rw[hv];exact hpargs _ hgd5
      ·intro hc3
       have hje:j=news.length:=by have:news.length≤j:=(by simpa using hc3);omega
       refine Qr ?_
       simp only[go_sem,X.next]
       obtain⟨S,hSL,hSB,hfz,kn⟩:=kn.freeze0
       have hft:FrzC H5 S t (.sl false 1 (Qf av)):=Gr.frzM hgt hSL (FrzR.same (Qu _))
       refine c_gh (Qga S (Qawf ?_) hfz) (e':=[(1,.c (.sl fl2 1 (Q5 l))),(2,.c (.pp [.int .i64 q.params,.int .i64 q.regs,.sl fl 5 (Qm q.blocks)])),(4,.c (.ptr x4 0)),(6,.c (.ptr x6 0)),(10,.c (.int .i64 i)),(11,.c (.sl false 1 (Qf olds))),(12,.c (.sl false 1 (Qf news))),(13,.c (.int .i64 k)),(14,.c (.sl false 1 (Qf av)))]) ?_
       ·simp only[List.forall_mem_cons,l1,l2,l4,l6,l10,l11,l12,l13,l14]
        exact⟨.c _ _ (.same _ rfl),.c _ _ (.same _ rfl),.c _ _ (.same _ rfl),.c _ _ (.same _ rfl),.c _ _ (.same _ rfl),.c _ _ (.same _ rfl),.c _ _ (.same _ rfl),.c _ _ (.same _ rfl),.c _ _ hft,by simp⟩
       generalize H5.frz S=H6 at *
       have hx6:H6 x6=X6:=(kn.get (x6,X6) (by simp)).1
       rw[hX6]at hx6
       have hzb:H6 zb=.vec 5 RW:=(kn.get (zb,.vec 5 RW) (by simp)).1
       have hz:H6 z=.vec 2 (Qaj ph):=(kn.get (z,.vec 2 (Qaj ph)) (by simp)).1
       have hset:(Qaj ph).set k [.int .i64 p.to,.sl false 1 (Qf av)]=Qaj (ph.set k ⟨p.to,av⟩):=Qa6a ph k ⟨p.to,av⟩
       refine Qq ?_
       simp only[go_sem,hx6,hzb,hz,hRWl,hRWt,hRWg,hlt,hlt2,hptk,hpg,hset,Q9,Nat.zero_add,Nat.le_refl]
       intro H7 h7
       have kn:Kn H0 H7 E (([(x4,X4),(x6,X6),(zb,.vec 5 RW)]++R)++[(z,.vec 2 (Qaj (ph.set k ⟨p.to,av⟩)))]):=by
        have:=kn.stL ([(x4,X4),(x6,X6),(zb,Obj.vec 5 RW)]++R).length (x:=z) (o:=.vec 2 (Qaj ph)) (by simp) h7
        simpa using this
       refine Qq ?_
       simp only[go_sem]
       refine⟨Qo (by omega) (by omega),?_⟩
       show ∃m,_
       refine⟨ph.length-(k+1),by omega,k+1,ph.set k ⟨p.to,av⟩,_,by rw[List.length_set],by rw[List.length_set];omega,?_,fun j2 h2 hj2=>?_,fun j2 hj2=>?_,?_,kn,rfl,rfl,rfl,rfl,rfl,rfl,rfl,by simp[lk]⟩
       ·rw[List.map_set,hto]
        have e:p.to=((Qbn q b).phis.map PhiD.to)[k]'(by rw[List.length_map];omega):=by
         have h1:(ph.map PhiD.to)[k]? = some p.to:=by simp[hlt2,hpk]
         rw[hto,List.getElem?_eq_getElem (by rw[List.length_map];omega)]at h1
         exact (Option.some.inj h1).symm
        show List.set _ k p.to=_
        conv=>lhs;rw[e]
        exact List.set_getElem_self _
       ·rw[List.getElem_set]
        split
        ·exact⟨by show av.length=_;rw[hnw];omega,has⟩
        ·exact hpa j2 (by simpa using h2) (by omega)
       ·rw[List.getElem?_set_ne (by omega)];exact hpu j2 (by omega)
       ·rw[hpc];exact .mk _ _ _ (by rw[Q9,List.length_set])
    ·intro hc2
     have hge:ph.length≤k:=by simpa using hc2
     refine Qr ?_
     simp only[go_sem,X.next]
     refine Qq ?_
     simp only[go_sem,l1,l2,l4,l6,l10]
     refine⟨Qo (by omega) (by omega),?_⟩
     show ∃m,_
     have hst:=hS.step hki (ph:=ph) (pl:=pl) (by rw[hgd];exact hto) (fun w hw=>by
      obtain⟨j,hj,rfl⟩:=List.mem_iff_getElem.1 hw
      exact hpa j hj (by omega)) (by rw[hkb];exact hgr)
     have hrw:=PkS.rows (ks:=ks) (ph:=ph) (pl:=pl) hki
     have hs2:=Qdh (f:=KBlk.pl) (l:=ks.set i ⟨⟨ph,ks[i].y.ins,ks[i].y.jump,ks[i].y.on,ks[i].y.next⟩,ks[i].pc,pl⟩) (i:=i) (by rw[List.length_set];exact hki)
     rw[List.getElem_set_self,List.eraseIdx_set_eq,hR]at hs2
     generalize ks.set i ⟨⟨ph,ks[i].y.ins,ks[i].y.jump,ks[i].y.on,ks[i].y.next⟩,ks[i].pc,pl⟩=ks' at *
     have kn:Kn H0 H4 E ([(x4,X4),(x6,X6),(zb,.vec 5 (ks'.map KBlk.row))]++ks'.flatMap KBlk.pl):=by
      rw[hrw,hRW]
      refine kn.perm (Qy fun f hf h0 hc hp=>?_)
      have:=hp _ _ hs2
      simp only[hf]at this⊢;omega
     exact⟨l.length-(i+1),by omega,i+1,ks',rfl,by omega,hst,kn,rfl,rfl,rfl,rfl,by simp[lk]⟩
  ·intro hc
   have hie:i=l.length:=by have:l.length≤i:=(by simpa using hc);omega
   subst hie
   refine Qr ?_
   simp only[go_sem,X.next]
   have hx4:=kn.l 0 rfl
   have hx6:=kn.l 1 rfl
   rw[hX6]at hx6
   rw[hX4]at hx4
   refine Qa ?_
   simp only[go_sem,l4,l6,hx4,hx6]
   intro H2 h2
   have kn:=kn.stL 0 rfl h2
   refine Qj ?_
   refine hQ _ _ ks hS ?_ (by simp[lk])
   rw[hX6]at kn
   exact kn
set_option maxHeartbeats 8000000 in
theorem Qa5o {q:CodeD}{fl fl2:Bool}{l:List Nat}(ho:q.ok)(hp:Pk q l)
  (hK:∀(d:CodeD) z H',PkR q d→Kn H H' [] [(z,.vec 5 (Qm d.blocks))]→K (.ag [.int .i64 d.params,.int .i64 d.regs,.vsl z 5 0 d.blocks.length]) H') :
  Qv prog Qrc [.ag [.int .i64 q.params,.int .i64 q.regs,.sl fl 5 (Qm q.blocks)],.c (.sl fl2 1 (Q5 l))] H K:=by
 have hb1:=ho.b1
 have hln:=hp.n
 have hl0:0<l.length:=by
  have:=hp.z
  cases l with
  |nil=>simp at this
  |cons=>simp
 refine Qez ?_
 refine Qb Qar Qban ?_
 refine Qa ?_
 simp only[go_sem]
 intro x4 hx4 H1 h1
 have kn:=(Kn.start0 H).al hx4 h1
 refine Qa ?_
 simp only[go_sem,Qk]
 try intro _
 refine Qa5p (n:=q.blocks.length) (by omega) (by omega) hp.lt fun P H2 hP hu=>?_
 have kn:=kn.call0 hu
 simp only[go_sem,Q17]
 refine Qa ?_
 simp only[go_sem]
 intro x6 hx6 H3 h3
 have kn:=kn.al hx6 h3
 have hx6:=kn.l 1 rfl
 simp only[go_sem,Q18,hx6]
 intro H4 h4
 have kn:Kn H H4 [] [(x4,.st [.int .i64 0,.int .i64 0,.sl true 5 []]),(x6,.st [.int .i64 q.params,.int .i64 q.regs,.sl true 5 []])]:=kn.stL 1 rfl h4
 refine Q4 ?_
 refine Qa ?_
 simp only[go_sem]
 refine Qg (Qc (Qs (fun m e1 H1=>∃(ks:List KBlk) (bc:C) (bl:List (Nat×Obj)),m=l.length-ks.length∧ks.length≤l.length∧ks.map KBlk.y=(l.take ks.length).map (pkY q P)∧(∀b∈ks,b.ok)∧Gr bl 5 (ks.map KBlk.row) bc∧
  Kn H H1 [] (([(x4,.st [.int .i64 0,.int .i64 0,.sl true 5 []]),(x6,.st [.int .i64 q.params,.int .i64 q.regs,bc])]++ks.flatMap KBlk.pl)++bl)∧
  lk 1 e1=.c (.sl fl2 1 (Q5 l))∧lk 2 e1=.c (.pp [.int .i64 q.params,.int .i64 q.regs,.sl fl 5 (Qm q.blocks)])∧lk 4 e1=.c (.ptr x4 0)∧lk 5 e1=.c (.sl false 1 (Qf P))∧lk 6 e1=.c (.ptr x6 0)∧lk 7 e1=.c (.int .i64 ks.length)) l.length ?_ ?_))
 ·exact⟨[],_,[],by simp,by simp,by simp,by simp,.nil 5,by simpa using kn,rfl,rfl,rfl,rfl,rfl,rfl⟩
 ·clear kn hx6
  rintro m e1 H5 ⟨ks,bc,bl,hm,hkl,hky,hko,hgr,kn,l1,l2,l4,l5,l6,l7⟩
  have hbw:=hgr.isOw
  refine Q4 ?_
  refine Qa ?_
  simp only[go_sem,l1,l2,l4,l5,l6,l7,Qw]
  try intro _
  refine Qg (Qe rfl ?_ ?_)
  ·intro hc
   have hlt:ks.length<l.length:=by simpa using hc
   obtain⟨b,hb⟩:∃b,l[ks.length]=b:=⟨_,rfl⟩
   have hbm:b∈l:=by rw[←hb];exact List.getElem_mem hlt
   have hbn:=hp.lt b hbm
   have hgd:l.getD ks.length 0=b:=by simp[List.getD_eq_getElem?_getD,hlt,hb]
   refine Qh ?_
   try simp only[go_sem]
   refine Qg (Qc ?_)
   refine Qal ?_
   simp only[go_sem,hlt,Qw,Qad _ _ hlt,hgd,hbn,Qk,Q7 _ _ hbn,BlkD.take5,BlkD.allOw,BlkD.len5]
   refine Qv3 (ho.sg.bs _ (List.getElem_mem hbn)) fun o H6 k2 hok hod _=>?_
   have kn:=kn.comp0 k2
   rw[←Qb5 hbn]at hod
   have how:=o.noOw hok
   have hpw:=hok.p.isOw
   have hiw:=hok.i.isOw
   simp only[go_sem,Q2a]
   intro x8 hx8 H7 h7
   have kn:=(kn.al hx8 h7).perm List.perm_append_comm
   have hx8:=kn.l 0 rfl
   simp only[go_sem,Q19,hx8,o.row_eq,hlt,Qw,Qad _ _ hlt,hgd,hbn,Qk,Q7 _ _ hbn,BlkD.take5,BlkD.allOw,BlkD.len5]
   intro H8 h8
   have kn:Kn H H8 [] ([(o.nx.y,.vec 1 (Qf o.nx.ns))]++([(x8,.st [o.pc,o.ic,.int .i64 o.jump,.int .i64 o.on,.vsl o.nx.y 1 0 o.nx.ns.length])]++(([(x4,.st [.int .i64 0,.int .i64 0,.sl true 5 []]),(x6,.st [.int .i64 q.params,.int .i64 q.regs,bc])]++ks.flatMap KBlk.pl)++bl)++o.rest)):=
    (kn.stL 0 rfl h8).perm (Qy fun f hf h0 hc hp=>by
     show f ([(x8,_)]++(_++_))=_
     simp only[o.lg_eq,hf];omega)
   clear hx8
   have hns:o.nx.ns=(Qbn q b).next:=by rw[←hod];rfl
   have hns2:o.nx.ns.length≤2:=by rw[hns,Qb5 hbn];exact (ho.bs b hbn).nxl
   refine Q4 ?_
   refine Qa ?_
   simp only[go_sem]
   refine Qg (Qc (Qs (fun m e1 H1=>∃(k:Nat) (ns:List Int),m=o.nx.ns.length-k∧k≤o.nx.ns.length∧ns=(o.nx.ns.take k).map (fun v=>P.getD v.toNat 0)++o.nx.ns.drop k∧
    Kn H H1 [] ([(o.nx.y,.vec 1 (Qf ns))]++([(x8,.st [o.pc,o.ic,.int .i64 o.jump,.int .i64 o.on,.vsl o.nx.y 1 0 o.nx.ns.length])]++(([(x4,.st [.int .i64 0,.int .i64 0,.sl true 5 []]),(x6,.st [.int .i64 q.params,.int .i64 q.regs,bc])]++ks.flatMap KBlk.pl)++bl)++o.rest))∧
    lk 1 e1=.c (.sl fl2 1 (Q5 l))∧lk 2 e1=.c (.pp [.int .i64 q.params,.int .i64 q.regs,.sl fl 5 (Qm q.blocks)])∧lk 4 e1=.c (.ptr x4 0)∧lk 5 e1=.c (.sl false 1 (Qf P))∧lk 6 e1=.c (.ptr x6 0)∧lk 7 e1=.c (.int .i64 ks.length)∧lk 8 e1=.c (.ptr x8 0)∧lk 9 e1=.c (.int .i64 k)) o.nx.ns.length ?_ ?_))
   ·exact⟨0,o.nx.ns,by omega,by omega,by simp,kn,rfl,rfl,rfl,rfl,rfl,rfl,rfl,rfl⟩
   ·clear kn
    rintro m2 e2 H9 ⟨k,ns,hm2,hk,hnse,kn,l1,l2,l4,l5,l6,l7,l8,l9⟩
    have hnl:ns.length=o.nx.ns.length:=by rw[hnse];simp;omega
    have hx8:H9 x8=.st [o.pc,o.ic,.int .i64 o.jump,.int .i64 o.on,.vsl o.nx.y 1 0 o.nx.ns.length]:=(kn.get (x8,.st [o.pc,o.ic,.int .i64 o.jump,.int .i64 o.on,.vsl o.nx.y 1 0 o.nx.ns.length]) (by simp)).1
    have hy:=kn.l 0 rfl
    refine Q4 ?_
    refine Qa ?_
    simp only[go_sem,l1,l2,l4,l5,l6,l7,l8,l9,hx8,hpw,hiw,hy,Qd,hnl,Nat.zero_add,Nat.le_refl]
    try intro _
    refine Qg (Qe rfl ?_ ?_)
    ·intro hc2
     have hlt2:k<o.nx.ns.length:=by simpa using hc2
     obtain⟨w,hw⟩:∃w,o.nx.ns[k]=w:=⟨_,rfl⟩
     have hwm:w∈(Qbn q b).next:=by rw[←hns,←hw];exact List.getElem_mem hlt2
     obtain⟨w1,w2,_⟩:=hp.to ho hP hbm hwm
     have hgd2:ns.getD k 0=w:=by
      rw[hnse,List.getD_eq_getElem?_getD,List.getElem?_append_right (by rw[List.length_map,List.length_take];exact Nat.min_le_left _ _)]
      simp[hlt2,hw,Nat.min_eq_left (Nat.le_of_lt hlt2)]
     have hkn:k<ns.length:=by omega
     have htk:(Qf ns).take o.nx.ns.length=Qf ns:=List.take_of_length_le (by rw[Qd];omega)
     have hstep:=Qbf1 (f:=fun v=>P.getD v.toNat 0) hlt2
     rw[hw]at hstep
     have hwe:w=(w.toNat:Int):=by omega
     refine Qh ?_
     try simp only[go_sem]
     refine Qg (Qc ?_)
     refine Qbc ?_
     generalize hr:w.toNat=r at *
     simp only[go_sem,hx8,hpw,hiw,hy,htk,hlt2,Qd,hnl,Qx _ _ hkn,hgd2,hwe,w2,Qx _ _ w2,Qcu,Nat.zero_add,Nat.le_refl]
     intro H10 h10
     have kn:=kn.stL 0 rfl h10
     refine Qq ?_
     simp only[go_sem,l9]
     refine⟨Qo (by omega) (by omega),?_⟩
     show ∃m,_
     exact⟨o.nx.ns.length-(k+1),by omega,k+1,ns.set k (P.getD r 0),rfl,by omega,by rw[hnse];exact hstep,kn,rfl,rfl,rfl,rfl,rfl,rfl,rfl,rfl⟩
    ·intro hc2
     have hge:o.nx.ns.length≤k:=by simpa using hc2
     rw[List.take_of_length_le hge,List.drop_eq_nil_of_le hge,List.append_nil]at hnse
     refine Qr ?_
     simp only[go_sem,X.next]
     obtain⟨o2,ho2⟩:∃o2:OBlk,o2=⟨o.phis,o.pc,o.pl,o.ins,o.ic,o.il,o.jump,o.on,⟨ns,o.nx.y⟩⟩:=⟨_,rfl⟩
     have hok2:o2.ok:=by rw[ho2];exact⟨hok.p,hok.i,hok.a⟩
     have hd2:o2.d=pkY q P b:=by
      rw[ho2,pkY,←hod]
      simp only[OBlk.d,hnse]
     have hpc2:o2.pc=o.pc:=by rw[ho2]
     have kn:Kn H H9 [] ([(x8,.st o2.row)]++((([(x4,.st [.int .i64 0,.int .i64 0,.sl true 5 []]),(x6,.st [.int .i64 q.params,.int .i64 q.regs,bc])]++ks.flatMap KBlk.pl)++bl)++o2.lg)):=by
      have er:o2.row=[o.pc,o.ic,.int .i64 o.jump,.int .i64 o.on,.vsl o.nx.y 1 0 o.nx.ns.length]:=by rw[ho2,OBlk.row_eq,hnl]
      have el:o2.lg=[(o.nx.y,.vec 1 (Qf ns))]++o.rest:=by rw[ho2];rfl
      rw[er,el]
      exact kn.perm (Qy fun f hf h0 hc hp=>by simp only[hf];omega)
     obtain⟨S,H10,pl,hfz,hgp,kn⟩:=OBlk.gh hok2 kn
     rw[hd2,hpc2]at hgp kn
     refine c_gh (Qga S (Qawf ?_) hfz) (e':=[(1,.c (.sl fl2 1 (Q5 l))),(2,.c (.pp [.int .i64 q.params,.int .i64 q.regs,.sl fl 5 (Qm q.blocks)])),(4,.c (.ptr x4 0)),(5,.c (.sl false 1 (Qf P))),(6,.c (.ptr x6 0)),(7,.c (.int .i64 ks.length)),(8,.c (.ptr x8 0))]) ?_
     ·simp only[List.forall_mem_cons,l1,l2,l4,l5,l6,l7,l8]
      exact⟨.c _ _ (.same _ rfl),.c _ _ (.same _ rfl),.c _ _ (.same _ rfl),.c _ _ (.same _ rfl),.c _ _ (.same _ rfl),.c _ _ (.same _ rfl),.c _ _ (.same _ rfl),by simp⟩
     clear hfz hx8 hy
     have kn:Kn H H10 [] (([(x6,.st [.int .i64 q.params,.int .i64 q.regs,bc])]++([(x8,.st (kRow (pkY q P b) o.pc))]++([(x4,.st [.int .i64 0,.int .i64 0,.sl true 5 []])]++(ks.flatMap KBlk.pl++pl))))++bl):=
      kn.perm (Qy fun f hf h0 hc hp=>by
       have e:∀(a b:Nat×Obj),f [a,b]=f [a]+f [b]:=fun a b=>hc a [b]
       simp only[hf,e];omega)
     have hx6:=kn.l 0 rfl
     have hx8:=kn.l 1 rfl
     obtain⟨kb,hkb⟩:∃kb:KBlk,kb=⟨pkY q P b,o.pc,pl⟩:=⟨_,rfl⟩
     have hkbr:kRow (pkY q P b) o.pc=kb.row:=by rw[hkb];rfl
     have hkbo:kb.ok:=by rw[hkb];exact hgp
     have hkw:=KBlk.noOw hkbo
     rw[hkbr]at hx8 kn
     have hkl5:kb.row.length=5:=rfl
     have hkt5:kb.row.take 5=kb.row:=rfl
     have hka:(kb.row.all fun c=>!c.isOw)=true:=hkw
     refine Qq ?_
     simp only[go_sem,hx6,hx8,hbw,hkl5,hkt5,hka]
     refine kn.growR (new:=[kb.row]) hgr (.mk' _ _ _ _) (by intro r hr;simp only[List.mem_singleton]at hr;rw[hr];exact hkw) (by simp only[List.length_map,LIM,List.length_cons,List.length_nil];omega) fun bc2 bl2 H11 hgr2 hbw2 kn=>?_
     have hx6:=kn.l 0 rfl
     simp only[go_sem,Q2b,hx6,hbw2]
     intro H12 h12
     have kn:Kn H H12 [] ((([(x4,.st [.int .i64 0,.int .i64 0,.sl true 5 []]),(x6,.st [.int .i64 q.params,.int .i64 q.regs,bc2])]++(ks++[kb]).flatMap KBlk.pl)++bl2)++[(x8,.st kb.row)]):=
      (kn.stL 0 rfl h12).perm (Qy fun f hf h0 hc hp=>by
       have e:∀(a b:Nat×Obj),f [a,b]=f [a]+f [b]:=fun a b=>hc a [b]
       have ek:kb.pl=pl:=by rw[hkb]
       show f ([(x6,_)]++([(x8,_)]++([(x4,_)]++(ks.flatMap KBlk.pl++pl)))++bl2)=_
       simp only[List.flatMap_append,List.flatMap_cons,List.flatMap_nil,List.append_nil,ek,hf,e];omega)
     refine Qq ?_
     simp only[go_sem]
     refine⟨Qo (by omega) (by omega),?_⟩
     show ∃m,_
     refine⟨l.length-(ks.length+1),by omega,ks++[kb],bc2,bl2,by simp,by simp only[List.length_append,List.length_cons,List.length_nil];omega,?_,fun w hw=>?_,by rw[List.map_append];exact hgr2,kn.drop,rfl,rfl,rfl,rfl,rfl,by simp[lk]⟩
     ·simp only[List.length_append,List.length_cons,List.length_nil,Nat.zero_add]
      rw[List.map_append,hky,List.take_succ_eq_append_getElem hlt,List.map_append,hb,hkb];rfl
     ·rcases List.mem_append.1 hw with hw|hw
      ·exact hko w hw
      ·simp only[List.mem_singleton]at hw;rw[hw];exact hkbo
  ·intro hc
   have hke:ks.length=l.length:=by have:l.length≤ks.length:=(by simpa using hc);omega
   rw[hke,List.take_length]at hky
   obtain⟨zb,rfl,rfl⟩:∃z,bc=.vsl z 5 0 l.length∧bl=[(z,.vec 5 (ks.map KBlk.row))]:=by
    rcases hgr with ⟨_,h,_⟩|⟨y,h1,h2⟩
    ·have:=congrArg List.length h;simp only[List.length_map,List.length_nil]at this;omega
    ·exact⟨y,by rw[h1,List.length_map,hke],h2⟩
   have hS:PkS q P l 0 ks:=by
    have hg:∀j (h:j<ks.length),ks[j].y=pkY q P (l.getD j 0):=fun j h=>by
     have hj:j<l.length:=by omega
     have h1:(ks.map KBlk.y)[j]? = some ks[j].y:=by simp[h]
     rw[hky]at h1
     simp only[List.getElem?_map,List.getElem?_eq_getElem hj,Option.map_some]at h1
     rw[(hp.get hj).1];exact (Option.some.inj h1).symm
    exact⟨hke,fun j h=>by rw[hg j h];exact⟨rfl,rfl,rfl,rfl,rfl⟩,hko,fun j h h0=>by omega,fun j h _=>by rw[hg j h];rfl⟩
   have kn:Kn H H5 [] ([(x4,.st [.int .i64 0,.int .i64 0,.sl true 5 []]),(x6,.st [.int .i64 q.params,.int .i64 q.regs,.vsl zb 5 0 l.length]),(zb,.vec 5 (ks.map KBlk.row))]++ks.flatMap KBlk.pl):=
    kn.perm (Qy fun f hf h0 hc hp=>by
     have e2:∀(a b:Nat×Obj),f [a,b]=f [a]+f [b]:=fun a b=>hc a [b]
     have e3:∀(a b c:Nat×Obj),f [a,b,c]=f [a]+f [b]+f [c]:=fun a b c=>by rw[hc a [b,c],e2];omega
     simp only[hf,e2,e3];omega)
   clear hky hko hke hgr
   refine Qr ?_
   simp only[go_sem,X.next]
   refine Qbbk (fl:=fl) (fl2:=fl2) ho hp hP hS kn rfl rfl rfl rfl fun e6 H6 ks hS kn l4=>?_
   have hx4:=kn.l 0 rfl
   simp only[go_sem,Q6,Qab,Qao0,List.mem_singleton,forall_eq,RS.op,l4,hx4]
   obtain⟨d,hd⟩:∃d:CodeD,d=⟨q.params,q.regs,ks.map KBlk.y⟩:=⟨_,rfl⟩
   have hdl:d.blocks.length=l.length:=by rw[hd];simpa using hS.n
   have hR:=Qbmj (d:=d) ho hp hP (by rw[hd]) (by rw[hd]) hdl fun j h=>by
    have hj:j<ks.length:=by rw[hS.n];omega
    have e:d.blocks[j]=ks[j].y:=by subst hd;simp
    rw[e]
    exact⟨hS.b j hj,hS.a j hj (by omega)⟩
   have kn:Kn H H6 [] ([(zb,.vec 5 (ks.map KBlk.row))]++(([(x4,.st [.int .i64 q.params,.int .i64 q.regs,.vsl zb 5 0 l.length])]++[(x6,.st [.int .i64 q.params,.int .i64 q.regs,.vsl zb 5 0 l.length])])++ks.flatMap KBlk.pl)):=
    kn.perm (Qy fun f hf h0 hc hp=>by
     have e3:∀(a b c:Nat×Obj),f [a,b,c]=f [a]+f [b]+f [c]:=fun a b c=>by rw[hc a [b,c],hc b [c]];omega
     simp only[hf,e3];omega)
   obtain⟨S,hSL,hSB,hfz,kn⟩:=kn.freeze0
   have hz:=hSB (zb,.vec 5 (ks.map KBlk.row)) (by simp)
   have hrows:FrzR H6 S (ks.map KBlk.row) (Qm d.blocks):=by
    rw[hd]
    show FrzR H6 S (ks.map KBlk.row) (Qm (ks.map KBlk.y))
    rw[Qm,List.map_map]
    refine Qkv ks fun k hk=>?_
    refine .cons (Gr.frzM (hS.ok k hk) (fun p hp=>hSL p (List.mem_append_right _ (List.mem_flatMap.2 ⟨k,hk,hp⟩))) (FrzR.same (Q8k _))) (.cons (Qi rfl) (.cons (Qi rfl) (.cons (Qi rfl) (.cons (Qi rfl) .nil))))
   have hno:∀r∈ks.map KBlk.row,Go.AE.noOw r=true:=fun r hr=>by
    obtain⟨k,hk,rfl⟩:=List.mem_map.1 hr
    exact KBlk.noOw (hS.ok k hk)
   refine⟨S,.ag [.int .i64 q.params,.int .i64 q.regs,.vsl zb 5 0 l.length],_,FrzL.ag (.cons (Qi rfl) (.cons (Qi rfl) (.cons (.same _ rfl) .nil))),hfz.set (o:=.vec 5 (Qm d.blocks)) hz.2 (by rw[hz.1];exact .vecR hrows hno),?_⟩
   have:=hK d zb _ hR (kn.setL (o':=.vec 5 (Qm d.blocks)) 0 rfl (by simp))
   rw[hdl,hR.p,hR.r]at this
   exact this
end Go.AE.Y

namespace Go.AE.Y
attribute [local go_sem] cond_true cond_false Bool.not_true Bool.not_false
open Go.Proofs.Tryz
variable {H H0:Heap}{K:V→Heap→Prop}{E B Lg:List (Nat×Obj)}{q:CodeD}
theorem CodeD.ok.gd (h:q.ok):q.gd:=⟨h.b0,h.b1,fun y hy=>by
 obtain⟨b,hb,rfl⟩:=List.mem_iff_getElem.1 hy
 exact (h.bs b hb).nxl,h.fts⟩
theorem CodeD.ok.fitB (h:q.ok):Qkj q.blocks.length (gnx q)=true:=by
 have h1:(List.range q.blocks.length).all (fun i=>(gnx q i).all fun x=>decide (0≤x∧x≤(q.blocks.length:Int)-1))=true:=by
  simp only[List.all_eq_true,List.mem_range,decide_eq_true_eq]
  intro b hb x hx
  rw[Qv0 hb]at hx
  have:=(h.bs b hb).nx x hx
  omega
 have h2:decide (0<q.blocks.length)=true:=decide_eq_true h.b0
 simp only[Qkj,h1,Bool.true_and]
 first|exact h2|simpa using h.b0
theorem CodeD.ok.rchPk (h:q.ok):Pk q (rchL q.blocks.length (nxN (gnx q))):=by
 have hb0:=h.b0
 have hb1:=h.b1
 refine⟨?_,?_,fun x hx=>?_,fun x hx v hv=>?_⟩
 ·have:=List.length_filter_le (Qi3 (nxN (gnx q)) (-1)) (List.range q.blocks.length)
  rw[List.length_range]at this
  rw[rchL];omega
 ·obtain⟨m,hm⟩:∃m,q.blocks.length=m+1:=⟨q.blocks.length-1,by omega⟩
  have h0:Qi3 (nxN (gnx q)) (-1) 0=true:=rchB_iff.2 (.refl (by omega))
  rw[rchL,hm,List.range_succ_eq_map,List.filter_cons,h0]
  rfl
 ·rw[rchL,List.mem_filter,List.mem_range]at hx
  exact hx.1
 ·rw[rchL,List.mem_filter,List.mem_range]at hx⊢
  have hvx:=hv
  rw[Qv0 hx.1]at hvx
  have:=(h.bs x hx.1).nx v hvx
  refine⟨by omega,rchB_iff.2 (.step (rchB_iff.1 hx.2) (List.mem_map.2 ⟨v,hv,rfl⟩) (by omega))⟩
theorem Qa9v {fl:Bool}(ho:q.ok)(hK:∀(d:CodeD) z H',PkR q d→Kn H H' [] [(z,.vec 5 (Qm d.blocks))]→K (.ag [.int .i64 d.params,.int .i64 d.regs,.vsl z 5 0 d.blocks.length]) H') :
  Qv prog Qrb [.ag [.int .i64 q.params,.int .i64 q.regs,.sl fl 5 (Qm q.blocks)]] H K:=by
 refine Qez ?_
 refine Qb Qar Qbak ?_
 refine Qa ?_
 simp only[go_sem]
 intro x2 hx2 H1 h1
 have kn:=(Kn.start0 H).al hx2 h1
 refine Qal ?_
 simp only[go_sem]
 refine Qank (rows:=Qm q.blocks) (nx:=gnx q) (Qawj ho.gd) (by rw[Qk];exact ho.fitB) fun H2 hu=>?_
 have kn:=kn.call0 hu
 rw[Qk]
 simp only[go_sem,Q1y]
 refine Qa5o ho ho.rchPk fun d z H3 hR k2=>?_
 have kn:=kn.comp0 k2
 have hx2:=kn.l 0 rfl
 simp only[go_sem,Q1x,hx2]
 intro H4 h4
 have kn:Kn H H4 [] ([(x2,.st [.int .i64 d.params,.int .i64 d.regs,.vsl z 5 0 d.blocks.length])]++[(z,.vec 5 (Qm d.blocks))]):=kn.stL 0 rfl h4
 have hx2:=kn.l 0 rfl
 refine Qj ?_
 simp only[go_sem,Q6,Qab,Qaoz,List.mem_singleton,forall_eq,RS.op,hx2]
 obtain⟨S,hSL,hSB,hfz,kn⟩:=(kn.perm List.perm_append_comm).freeze0
 exact⟨S,_,_,FrzL.ag (.cons (Qi rfl) (.cons (Qi rfl) (.cons (.same _ rfl) .nil))),hfz,hK d z _ hR kn⟩
def zRow (v:Int):List C:=[.int .i64 1,.int .i64 v,.sl true 1 [],.int .i64 0]
def zIns (v:Int):InsD:=⟨1,v,[],0⟩
theorem Qbhm {S:Nat→Bool}(vs:List Int):FrzR H S (vs.map zRow) (Qbo (vs.map zIns)):=by
 rw[Qbo,List.map_map]
 exact Qkv vs fun v _=>.cons (Qi rfl) (.cons (Qi rfl) (.cons FrzR.nil.sl (.cons (Qi rfl) .nil)))
theorem Qbd7 {d:CodeD}(ho:d.ok)(h9:∀y∈d.blocks,y.ins.length≤900∧y.phis.length≤900){vs:List Int}(hv:∀v∈vs,rIn d v)(hl:vs.length≤300){y:BlkD}{ys:List BlkD}(hd:d.blocks=y::ys) :
  (CodeD.mk d.params d.regs (⟨y.phis,vs.map zIns++y.ins,y.jump,y.on,y.next⟩::ys)).ok:=by
 obtain⟨y',hy'⟩:∃y':BlkD,y'=⟨y.phis,vs.map zIns++y.ins,y.jump,y.on,y.next⟩:=⟨_,rfl⟩
 obtain⟨d',hd'⟩:∃d':CodeD,d'=⟨d.params,d.regs,y'::ys⟩:=⟨_,rfl⟩
 rw[←hy',←hd']
 have hlen:d'.blocks.length=d.blocks.length:=by rw[hd',hd];rfl
 have hmap:d'.blocks.map BlkD.next=d.blocks.map BlkD.next:=by rw[hd',hd,hy'];rfl
 have hg:gnx d'=gnx d:=by funext i;rw[gnx,gnx,hmap]
 have hr:∀v,rIn d v→rIn d' v:=fun v h=>by simp only[rIn,hd']at h⊢;exact h
 have h9y:=h9 y (by rw[hd];exact List.mem_cons_self)
 have hrg:d'.regs=d.regs:=by rw[hd']
 refine⟨by rw[hrg];exact ho.r0,by rw[hrg];exact ho.r1,by rw[hlen];exact ho.b0,by rw[hlen];exact ho.b1,fun b h=>?_,fun b h=>?_⟩
 ·have h':b<d.blocks.length:=by omega
  have o:=ho.bs b h'
  have hin:∀x∈d'.blocks[b].ins,x∈d.blocks[b].ins∨∃v∈vs,x=zIns v:=fun x hx=>by
   cases b with
   |zero=>
    simp only[hd',List.getElem_cons_zero,hy']at hx
    rcases List.mem_append.1 hx with hx|hx
    ·obtain⟨v,hv,rfl⟩:=List.mem_map.1 hx
     exact .inr ⟨v,hv,rfl⟩
    ·left;simp only[hd,List.getElem_cons_zero];exact hx
   |succ b=>left;simp only[hd',hd,List.getElem_cons_succ]at hx⊢;exact hx
  have e:d'.blocks[b].phis=d.blocks[b].phis∧d'.blocks[b].jump=d.blocks[b].jump∧d'.blocks[b].on=d.blocks[b].on∧d'.blocks[b].next=d.blocks[b].next:=by
   cases b with
   |zero=>simp only[hd',hd,List.getElem_cons_zero,hy',and_self]
   |succ b=>simp only[hd',hd,List.getElem_cons_succ,and_self]
  obtain⟨e1,e2,e3,e4⟩:=e
  refine⟨by rw[e4];exact o.nxl,fun v hv=>by rw[e4]at hv;rw[hlen];exact o.nx v hv,by rw[e2];exact o.jmp,fun hj=>by rw[e2]at hj;rw[e3];exact hr _ (o.on hj),fun x hx v hv=>?_,fun x hx hm=>?_,
   fun p hp=>by rw[e1]at hp;exact hr _ (o.pto p hp),fun p hp v hv=>by rw[e1]at hp;exact hr _ (o.pargs p hp v hv),fun p hp=>by rw[e1]at hp;rw[hg,hlen];exact o.pal p hp,fun x hx=>?_⟩
  ·rcases hin x hx with h|⟨v',_,rfl⟩
   ·exact hr _ (o.args x h v hv)
   ·simp[zIns]at hv
  ·rcases hin x hx with h|⟨v',hv',rfl⟩
   ·exact hr _ (o.to x h hm)
   ·exact hr _ (hv v' hv')
  ·rcases hin x hx with h|⟨v',_,rfl⟩
   ·exact o.al x h
   ·simp[zIns]
 ·have h':b<d.blocks.length:=by omega
  have o:=ho.il b h'
  cases b with
  |zero=>
   simp only[hd',List.getElem_cons_zero,hy',List.length_append,List.length_map]
   omega
  |succ b=>simp only[hd',hd,List.getElem_cons_succ]at o⊢;exact o
set_option maxHeartbeats 4000000 in
theorem Qa5r {fl:Bool}(ho:q.ok)(hpar:0≤q.params)(h9:∀y∈q.blocks,y.ins.length≤900∧y.phis.length≤900)
  (hK:∀(d:CodeD) H',d.ok→d.params=q.params→d.regs=q.regs→(∀y∈d.blocks,y.phis.length≤900)→Upd H H' []→K (.ag d.cells) H') :
  Qv prog Qt4 [.ag [.int .i64 q.params,.int .i64 q.regs,.sl fl 5 (Qm q.blocks)]] H K:=by
 refine Qz ?_
 refine Qb Qar Qa50 ?_
 refine Qa ?_
 simp only[go_sem]
 intro x2 hx2 H1 h1
 have kn:=(Kn.start0 H).al hx2 h1
 refine Qa ?_
 simp only[go_sem]
 refine Qa9v ho fun d z H2 hR k2=>?_
 have kn:=kn.comp0 k2
 have hdo:=hR.ok
 have hd9:∀y∈d.blocks,y.ins.length≤900∧y.phis.length≤900:=fun y hy=>by
  obtain⟨y0,hy0,h1,h2⟩:=hR.i y hy
  rw[h1,h2];exact h9 y0 hy0
 have hpar:0≤d.params:=by rw[hR.p];exact hpar
 have hr0:=hdo.r0
 have hr1:=hdo.r1
 have hb0:=hdo.b0
 have hb1:=hdo.b1
 simp only[go_sem,Qxn]
 intro x3 hx3 H3 h3
 have kn:=(kn.al hx3 h3).perm List.perm_append_comm
 have hx3:=kn.l 0 rfl
 simp only[go_sem,Qxm,hx3]
 intro H4 h4
 have kn:Kn H H4 [] ([(x3,.st [.int .i64 d.params,.int .i64 d.regs,.vsl z 5 0 d.blocks.length]),(x2,.st [.int .i64 0,.int .i64 0,.sl true 5 []]),(z,.vec 5 (Qm d.blocks))]):=kn.stL 0 rfl h4
 have hx3:=kn.l 0 rfl
 have hz:=kn.l 2 rfl
 refine Qa ?_
 simp only[go_sem,hx3]
 refine Qaoc hdo (CodeR.vsl hz (by simp)) fun zi zo H5 hu hlv=>?_
 have kn:=kn.call0 hu
 obtain⟨y,ys,hys⟩:∃y ys,d.blocks=y::ys:=by
  cases hb:d.blocks with
  |nil=>rw[hb]at hb0;simp at hb0
  |cons y ys=>exact⟨y,ys,rfl⟩
 have hzl:0<zi.length:=by rw[hlv.1.i];exact hb0
 obtain⟨nd,hnd⟩:∃nd,zi[0].2=nd:=⟨_,rfl⟩
 have hndl:nd.length=d.regs.toNat:=by rw[←hnd];exact hlv.1.li _ (List.getElem_mem hzl)
 simp only[go_sem,Qxo,hzl,Qape,Qaio _ _ hzl,hnd]
 refine⟨Int.le_refl 0,?_⟩
 refine Qa ?_
 simp only[go_sem]
 have hx3:=kn.l 0 rfl
 refine Q4 ?_
 refine Qa ?_
 simp only[go_sem,hx3]
 refine Qg (Qc (Qs (fun m e1 H1=>∃(r:Int) (vs:List Int) (t:C) (Lg:List (Nat×Obj)),m=(d.regs-r).toNat∧0≤r∧(r≤d.regs∨r=d.params)∧(vs.length:Int)≤r∧(vs=[]∨r≤d.regs)∧(∀v∈vs,rIn d v)∧Gr Lg 4 (vs.map zRow) t∧
  Kn H H1 [] ([(x3,.st [.int .i64 d.params,.int .i64 d.regs,.vsl z 5 0 d.blocks.length]),(x2,.st [.int .i64 0,.int .i64 0,.sl true 5 []]),(z,.vec 5 (Qm d.blocks))]++Lg)∧
  lk 2 e1=.c (.ptr x2 0)∧lk 3 e1=.c (.ptr x3 0)∧lk 4 e1=.c (.sl false 1 (Ql nd))∧lk 5 e1=.c t∧lk 6 e1=.c (.int .i64 r)) (d.regs-d.params).toNat ?_ ?_))
 ·exact⟨d.params,[],_,[],rfl,hpar,.inr rfl,hpar,.inl rfl,by simp,.nil 4,by simpa using kn,rfl,rfl,rfl,rfl,rfl⟩
 ·clear kn hx3 hz
  rintro m e1 H6 ⟨r,vs,t,Lg,hm,hr,hrr,hvl,hve,hvs,hgr,kn,l2,l3,l4,l5,l6⟩
  have htw:=hgr.isOw
  have hx3:=kn.l 0 rfl
  refine Q4 ?_
  refine Qa ?_
  simp only[go_sem,l2,l3,l4,l5,l6,hx3,htw]
  refine Qg (Qe rfl ?_ ?_)
  ·intro hc
   have hlt:r<d.regs:=by simpa using hc
   obtain⟨rn,hrn⟩:∃rn:Nat,r=(rn:Int):=⟨r.toNat,by omega⟩
   subst hrn
   have hrl:rn<nd.length:=by omega
   refine Qh ?_
   try simp only[go_sem]
   refine Qdm (fun e2 H2=>∃(vs:List Int) (t:C) (Lg:List (Nat×Obj)),(vs.length:Int)≤(rn:Int)+1∧(∀v∈vs,rIn d v)∧Gr Lg 4 (vs.map zRow) t∧
    Kn H H2 [] ([(x3,.st [.int .i64 d.params,.int .i64 d.regs,.vsl z 5 0 d.blocks.length]),(x2,.st [.int .i64 0,.int .i64 0,.sl true 5 []]),(z,.vec 5 (Qm d.blocks))]++Lg)∧
    lk 2 e2=.c (.ptr x2 0)∧lk 3 e2=.c (.ptr x3 0)∧lk 4 e2=.c (.sl false 1 (Ql nd))∧lk 5 e2=.c t∧lk 6 e2=.c (.int .i64 (rn:Int))) ?_ ?_
   ·intro Q hnr _ _
    refine Qc ?_
    refine Qa ?_
    simp only[go_sem,htw,hrl,Qt,Q0 _ _ hrl]
    refine Qe rfl ?_ ?_
    ·intro hc2
     refine Qq ?_
     simp only[go_sem,htw]
     refine kn.growR (new:=[zRow (rn:Int)]) hgr (.mk' _ _ _ _) (by intro w hw;simp only[List.mem_singleton]at hw;rw[hw];rfl) (by simp only[List.length_map,LIM,List.length_cons,List.length_nil];omega) fun t2 Lg2 H7 hgr2 ht2 kn=>?_
     simp only[go_sem,Qxp,ht2]
     refine hnr _ _ ⟨vs++[(rn:Int)],t2,Lg2,by simp only[List.length_append,List.length_cons,List.length_nil];omega,fun v hv=>?_,by rw[List.map_append];exact hgr2,kn,rfl,rfl,rfl,rfl,rfl⟩
     rcases List.mem_append.1 hv with hv|hv
     ·exact hvs v hv
     ·simp only[List.mem_singleton]at hv;rw[hv];exact⟨by omega,hlt⟩
    ·intro hc2
     refine Qh ?_
     try simp only[go_sem]
     exact hnr _ _ ⟨vs,t,Lg,by omega,hvs,hgr,kn,rfl,rfl,rfl,rfl,rfl⟩
   ·rintro e2 H7 ⟨vs,t,Lg,hvl,hvs,hgr,kn,l2,l3,l4,l5,l6⟩
    have htw:=hgr.isOw
    refine Qq ?_
    simp only[go_sem,l2,l3,l4,l5,l6,htw]
    refine⟨Qo (by omega) (by omega),?_⟩
    show ∃m,_
    exact⟨(d.regs-((rn:Int)+1)).toNat,by omega,(rn:Int)+1,vs,t,Lg,rfl,by omega,.inl (by omega),hvl,.inr (by omega),hvs,hgr,kn,rfl,rfl,rfl,rfl,rfl⟩
  ·intro hc
   have hvl3:vs.length≤300:=by
    rcases hve with rfl|h
    ·simp
    ·omega
   have hge:d.regs≤r:=by simpa using hc
   have hz:=kn.l 2 rfl
   have h0:0<(Qm d.blocks).length:=by rw[Qk];exact hb0
   have hb0g:(Qm d.blocks).getD 0 []=[.sl false 2 (Qaj y.phis),.sl false 4 (Qbo y.ins),.int .i64 y.jump,.int .i64 y.on,.sl false 1 (Qf y.next)]:=by rw[hys];rfl
   have hbt:(Qm d.blocks).take d.blocks.length=Qm d.blocks:=List.take_of_length_le (by rw[Qk];exact Nat.le_refl _)
   have hyl:=hd9 y (by rw[hys];exact List.mem_cons_self)
   refine Qr ?_
   simp only[go_sem,X.next]
   refine Qal ?_
   simp only[go_sem,l2,l3,l4,l5,l6,hx3,hz,htw,Qk,hb0,hb0g,hbt,Nat.zero_add,Nat.le_refl,Int.le_refl]
   refine kn.growR (new:=Qbo y.ins) hgr (.mk' _ _ _ _) (Qrj _) (by simp only[List.length_map,Qan,LIM];omega) fun t2 Lg2 H7 hgr2 ht2 kn=>?_
   have hx3:=kn.l 0 rfl
   have hz:=kn.l 2 rfl
   simp only[go_sem,Qxq,hx3,hz,ht2,Qk,hb0,hb0g,hbt,Nat.zero_add,Nat.le_refl,Int.le_refl]
   intro H8 h8
   have hset:∀R:List C,(Qm d.blocks).set 0 R=R::Qm ys:=fun R=>by rw[hys];rfl
   rw[hset]at h8
   have kn:Kn H H8 [] ([(x3,.st [.int .i64 d.params,.int .i64 d.regs,.vsl z 5 0 d.blocks.length]),(x2,.st [.int .i64 0,.int .i64 0,.sl true 5 []]),(z,.vec 5 ([.sl false 2 (Qaj y.phis),t2,.int .i64 y.jump,.int .i64 y.on,.sl false 1 (Qf y.next)]::Qm ys))]++Lg2):=kn.stL 2 rfl h8
   have hx2:=kn.l 1 rfl
   have hx3:=kn.l 0 rfl
   refine Qa ?_
   simp only[go_sem,hx2,hx3]
   intro H9 h9'
   have kn:Kn H H9 [] ([(x3,.st [.int .i64 d.params,.int .i64 d.regs,.vsl z 5 0 d.blocks.length]),(x2,.st [.int .i64 d.params,.int .i64 d.regs,.vsl z 5 0 d.blocks.length]),(z,.vec 5 ([.sl false 2 (Qaj y.phis),t2,.int .i64 y.jump,.int .i64 y.on,.sl false 1 (Qf y.next)]::Qm ys))]++Lg2):=kn.stL 1 rfl h9'
   have hx2:=kn.l 1 rfl
   have hz:=kn.l 2 rfl
   have hzu:=kn.un 2 rfl
   refine Qj ?_
   simp only[go_sem,Q6,Qab,Qaim,List.mem_singleton,forall_eq,RS.op,hx2]
   have hins:FrzC H9 (un H) t2 (.sl false 4 (Qbo (vs.map zIns++y.ins))):=by
    have:Qbo (vs.map zIns++y.ins)=Qbo (vs.map zIns)++Qbo y.ins:=by simp[Qbo]
    rw[this]
    exact hgr2.frzR kn ((Qbhm vs).app (FrzR.same (Qrj _)))
   have hrows:FrzR H9 (un H) ([.sl false 2 (Qaj y.phis),t2,.int .i64 y.jump,.int .i64 y.on,.sl false 1 (Qf y.next)]::Qm ys) (Qm (⟨y.phis,vs.map zIns++y.ins,y.jump,y.on,y.next⟩::ys)):=
    .cons (.cons (Qi rfl) (.cons hins (.cons (Qi rfl) (.cons (Qi rfl) (.cons (Qi rfl) .nil))))) (FrzR.same (Q67 _))
   have hdl:d.blocks.length=(⟨y.phis,vs.map zIns++y.ins,y.jump,y.on,y.next⟩::ys:List BlkD).length:=by rw[hys];rfl
   refine⟨_,FrzL.ag (.cons (Qi rfl) (.cons (Qi rfl) (.cons (hrows.vsl hzu hz (by rw[hdl,List.length_cons,List.length_cons,Qk])) .nil))),hK (CodeD.mk d.params d.regs (⟨y.phis,vs.map zIns++y.ins,y.jump,y.on,y.next⟩::ys)) _ (Qbd7 hdo hd9 hvs hvl3 hys) hR.p hR.r (fun w hw=>?_) kn.fin⟩
   rcases List.mem_cons.1 hw with rfl|hw
   ·exact hyl.2
   ·exact (hd9 w (by rw[hys];exact List.mem_cons_of_mem _ hw)).2
end Go.AE.Y

namespace Go.AE.Y
attribute [local go_sem] cond_true cond_false Bool.not_true Bool.not_false
open Go.Proofs.Tryz
variable {H H0:Heap}{K:V→Heap→Prop}{E B Lg:List (Nat×Obj)}{q:CodeD}
abbrev Plc:=Int×Int
def pRow (p:Plc):List C:=[.sl true 1 [[.int .i64 p.1],[.int .i64 p.2]]]
def Qbw (ps:List Plc):List (List C):=ps.map pRow
theorem Qca (ps:List Plc):(Qbw ps).length=ps.length:=by simp[Qbw]
theorem Qrn (ps:List Plc)(i:Nat)(h:i<ps.length):(Qbw ps).getD i []=pRow ps[i]:=by simp[Qbw,List.getD_eq_getElem?_getD,h]
theorem Qdj (ps:List Plc):∀r∈Qbw ps,noOw r=true:=by intro r hr;obtain⟨x,_,rfl⟩:=List.mem_map.1 hr;rfl
def phS (q:CodeD)(b k r:Nat):List Plc:=(((Qbn q b).phis.take k).filter fun p=>decide (p.to=(r:Int))).map fun _=>((b:Int),(-1:Int))
def Qaic (q:CodeD)(b i:Nat):Int:=(((Qbn q b).ins[i]?).map Qmt).getD (-1)
def inS (q:CodeD)(b j r:Nat):List Plc:=((List.range j).filter fun i=>decide (Qaic q b i=(r:Int))).map fun (i:Nat)=>((b:Int),(i:Int))
def blS (q:CodeD)(b r:Nat):List Plc:=phS q b (Qbn q b).phis.length r++inS q b (Qbn q b).ins.length r
def Qfa (q:CodeD)(b r:Nat):List Plc:=(List.range b).flatMap fun b=>blS q b r
def Qa3m (q:CodeD)(r:Nat):List Plc:=Qfa q q.blocks.length r
def Qig (q:CodeD):List (List C):=(List.range q.regs.toNat).map fun r=>[.sl false 1 (Qbw (Qa3m q r))]
theorem Qbgb {b k r:Nat}(h:k<(Qbn q b).phis.length):phS q b (k+1) r=phS q b k r++if (Qbn q b).phis[k].to=(r:Int)then [((b:Int),(-1:Int))]else []:=by
 rw[phS,phS,List.take_succ_eq_append_getElem h,List.filter_append,List.map_append]
 congr 1
 by_cases hc:(Qbn q b).phis[k].to=(r:Int)
 ·rw[if_pos hc];simp[hc]
 ·rw[if_neg hc];simp[hc]
theorem Qbbc {b i:Nat}(h:i<(Qbn q b).ins.length):Qaic q b i=Qmt (Qbn q b).ins[i]:=by simp[Qaic,h]
theorem Qa39 {b j r:Nat}:inS q b (j+1) r=inS q b j r++if Qaic q b j=(r:Int)then [((b:Int),(j:Int))]else []:=by
 rw[inS,inS,List.range_succ,List.filter_append,List.map_append]
 congr 1
 by_cases hc:Qaic q b j=(r:Int)
 ·rw[if_pos hc];simp[hc]
 ·rw[if_neg hc];simp[hc]
theorem Qa3o {b r:Nat}:Qfa q (b+1) r=Qfa q b r++blS q b r:=by simp[Qfa,List.range_succ]
theorem Qaw7 (x:InsD):(Qd1 x.op=true∧Qmt x=x.to)∨(Qd1 x.op=false∧Qmt x=-1):=by
 cases h:Qd1 x.op with
 |true=>exact .inl ⟨rfl,by simp[Qmt,h]⟩
 |false=>exact .inr ⟨rfl,by simp[Qmt,h]⟩
structure SReg where
 ps:List Plc
 c:C
 lg:List (Nat×Obj)
def SReg.row (s:SReg):List C:=[s.c]
def SReg.ok (s:SReg):Prop:=Gr s.lg 1 (Qbw s.ps) s.c
structure SInv (R N:Nat)(F:Nat→List Plc)(ss:List SReg):Prop where
 n:ss.length=R
 f:∀r (h:r<ss.length),ss[r].ps=F r
 ok:∀s∈ss,s.ok
 l:∀s∈ss,s.ps.length≤N
variable {R N:Nat}{F F':Nat→List Plc}{ss:List SReg}
theorem SInv.get (h:SInv R N F ss){x:Nat}(hx:x<R):∃s∈ss,∃hx':x<ss.length,ss[x]=s∧s.ps=F x∧s.ok∧s.ps.length≤N∧(ss.map SReg.row).getD x []=[s.c]:=
 have hx':x<ss.length:=by rw[h.n];exact hx
 ⟨ss[x],List.getElem_mem hx',hx',rfl,h.f x hx',h.ok _ (List.getElem_mem hx'),h.l _ (List.getElem_mem hx'),by simp[List.getD_eq_getElem?_getD,hx',SReg.row]⟩
theorem SInv.put (h:SInv R N F ss){x:Nat}(hx:x<R){p:Plc}{t:C}{Lg:List (Nat×Obj)}(hg:Gr Lg 1 (Qbw (F x++[p])) t)(hF:∀r,F' r=if r=x then F x++[p]else F r) :
  SInv R (N+1) F' (ss.set x ⟨F x++[p],t,Lg⟩):=by
 obtain⟨s,hs,hx',e1,e2,e3,e4,_⟩:=h.get hx
 refine⟨by rw[List.length_set];exact h.n,fun r hr=>?_,fun w hw=>?_,fun w hw=>?_⟩
 ·rw[List.getElem_set,hF]
  split
  ·rename_i e;rw[if_pos e.symm]
  ·rename_i e;rw[if_neg (fun hh=>e hh.symm)];exact h.f r (by simpa using hr)
 ·rcases List.mem_or_eq_of_mem_set hw with hw|rfl
  ·exact h.ok w hw
  ·exact hg
 ·rcases List.mem_or_eq_of_mem_set hw with hw|rfl
  ·have:=h.l w hw;omega
  ·rw[e2]at e4;simp only[List.length_append,List.length_cons,List.length_nil];omega
theorem SInv.same (h:SInv R N F ss)(hF:∀r,r<R→F' r=F r):SInv R N F' ss:=⟨h.n,fun r hr=>by rw[h.f r hr,hF r (by rw[←h.n];exact hr)],h.ok,h.l⟩
theorem SInv.up (h:SInv R N F ss){M:Nat}(hM:N≤M):SInv R M F ss:=⟨h.n,h.f,h.ok,fun s hs=>by have:=h.l s hs;omega⟩
def ssL (o:Nat)(ss:List SReg):List (Nat×Obj):=[(o,.vec 1 (ss.map SReg.row))]++ss.flatMap SReg.lg
theorem Qad9 {o x:Nat}{s:SReg}(hx:x<ss.length)(hs:ss[x]=s):(ssL o ss).Perm (([(o,.vec 1 (ss.map SReg.row))]++(ss.eraseIdx x).flatMap SReg.lg)++s.lg):=by
 subst hs
 have:=Qdh (f:=SReg.lg) hx
 rw[ssL]
 refine Qy fun f hf h0 hc hp=>?_
 have:=hp _ _ this
 simp only[hf]at this⊢;omega
theorem Qa4v {o x:Nat}{s:SReg}(hx:x<ss.length):(([(o,Obj.vec 1 ((ss.set x s).map SReg.row))]++(ss.eraseIdx x).flatMap SReg.lg)++s.lg).Perm (ssL o (ss.set x s)):=by
 have h1:=Qad9 (o:=o) (ss:=ss.set x s) (x:=x) (s:=s) (by rw[List.length_set];exact hx) (by simp)
 rw[List.eraseIdx_set_eq]at h1
 exact h1.symm
set_option maxHeartbeats 4000000 in
theorem Qa95 {fl:Bool}(ho:q.ok)(hK:∀H',Upd H H' []→K (.c (.sl false 1 (Qig q))) H') :
  Qv prog Qze [.ag [.int .i64 q.params,.int .i64 q.regs,.sl fl 5 (Qm q.blocks)]] H K:=by
 have hr0:=ho.r0
 have hr1:=ho.r1
 have hb1:=ho.b1
 obtain⟨R,hR⟩:∃R:Nat,q.regs.toNat=R:=⟨_,rfl⟩
 have hRq:q.regs=(R:Int):=by omega
 refine Qz ?_
 refine Qb Qar Qbay ?_
 refine Qa ?_
 simp only[go_sem]
 refine Qa ?_
 simp only[go_sem,hRq]
 refine⟨by simp only[LIM];omega,fun o ho2 H1 h1=>?_⟩
 have kn:Kn H H1 [] (ssL o (List.replicate R ⟨[],.sl true 1 [],[]⟩)):=by
  have e:(List.replicate R (SReg.mk [] (.sl true 1 []) [])).flatMap SReg.lg=[]:=List.flatMap_eq_nil_iff.2 fun s hs=>by rw[List.eq_of_mem_replicate hs]
  have:=(Kn.start0 H).al ho2 h1
  rw[ssL,e]
  simpa[SReg.row]using this
 simp only[go_sem,Q3b]
 have hS0:SInv R 0 (Qfa q 0) (List.replicate R ⟨[],.sl true 1 [],[]⟩):=⟨by simp,fun r h=>by simp[Qfa],fun s hs=>by rw[List.eq_of_mem_replicate hs];exact .nil 1,fun s hs=>by rw[List.eq_of_mem_replicate hs];simp⟩
 generalize List.replicate R (SReg.mk [] (.sl true 1 []) [])=ss0 at *
 refine Q4 ?_
 refine Qa ?_
 simp only[go_sem]
 refine Qg (Qc (Qs (fun m e1 H1=>∃(b N:Nat) (ss:List SReg),m=q.blocks.length-b∧b≤q.blocks.length∧N≤b * 2400∧SInv R N (Qfa q b) ss∧Kn H H1 [] (ssL o ss)∧
  lk 1 e1=.c (.pp [.int .i64 q.params,.int .i64 (R:Int),.sl fl 5 (Qm q.blocks)])∧lk 3 e1=.c (.vsl o 1 0 R)∧lk 4 e1=.c (.int .i64 b)) q.blocks.length ?_ ?_))
 ·exact⟨0,0,ss0,by omega,by omega,by omega,hS0,kn,rfl,rfl,rfl⟩
 ·clear kn hS0 h1 ho2
  clear ss0
  rintro m e1 H1 ⟨b,N,ss,hm,hb,hNb,hS,kn,l1,l3,l4⟩
  refine Q4 ?_
  refine Qa ?_
  simp only[go_sem,l1,l3,l4,Qk]
  try intro _
  refine Qg (Qe rfl ?_ ?_)
  ·intro hc
   have hlt:b<q.blocks.length:=by simpa using hc
   obtain⟨y,hy⟩:∃y,q.blocks[b]=y:=⟨_,rfl⟩
   have hya:Qbn q b=y:=by rw[Qb5 hlt,hy]
   have hyo:=ho.bs b hlt
   have hil:=ho.il b hlt
   rw[hy]at hyo hil
   refine Qh ?_
   try simp only[go_sem]
   refine Qg (Qc ?_)
   refine Q4 ?_
   refine Qa ?_
   simp only[go_sem,l1,l3,l4]
   refine Qg (Qc (Qs (fun m e1 H1=>∃(k N:Nat) (ss:List SReg),m=y.phis.length-k∧k≤y.phis.length∧N≤b * 2400+k∧SInv R N (fun r=>Qfa q b r++phS q b k r) ss∧Kn H H1 [] (ssL o ss)∧
    lk 1 e1=.c (.pp [.int .i64 q.params,.int .i64 (R:Int),.sl fl 5 (Qm q.blocks)])∧lk 3 e1=.c (.vsl o 1 0 R)∧lk 4 e1=.c (.int .i64 b)∧lk 5 e1=.c (.int .i64 k)) y.phis.length ?_ ?_))
   ·exact⟨0,N,ss,by omega,by omega,Nat.le_trans hNb (Nat.le_add_right _ _),hS.same fun r _=>by simp[phS],kn,rfl,rfl,rfl,rfl⟩
   ·clear kn hS l1 l3 l4
    clear ss hNb
    clear N
    rintro m2 e2 H2 ⟨k,N,ss,hm2,hk,hNb,hS,kn,l1,l3,l4,l5⟩
    refine Q4 ?_
    refine Qa ?_
    simp only[go_sem,l1,l3,l4,l5,hlt,Qk,Q7 _ _ hlt,BlkD.cells,hy,Q9]
    try intro _
    refine Qg (Qe rfl ?_ ?_)
    ·intro hc2
     have hlt2:k<y.phis.length:=by simpa using hc2
     obtain⟨p,hp⟩:∃p,y.phis[k]=p:=⟨_,rfl⟩
     have hpm:p∈y.phis:=by rw[←hp];exact List.getElem_mem hlt2
     obtain⟨hv,hvl⟩:=(hyo.pto p hpm).nat
     have hsucc:∀r,phS q b (k+1) r=phS q b k r++if p.to=(r:Int)then [((b:Int),(-1:Int))]else []:=fun r=>by
      have:=Qbgb (q:=q) (b:=b) (k:=k) (r:=r) (by rw[hya];exact hlt2)
      simp only[hya,hp]at this
      exact this
     refine Qh ?_
     try simp only[go_sem]
     refine Qg (Qc ?_)
     rw[hR]at hvl
     generalize hx:p.to.toNat=x at *
     obtain⟨s,hsm,hxl,hsx,hsF,hsok,hsl,hsg⟩:=hS.get hvl
     have hsw:=hsok.isOw
     refine Qa ?_
     simp only[go_sem,l1,l3,l4,l5,hlt,Qk,Q7 _ _ hlt,BlkD.cells,hy,Q9,hlt2,Qbg _ _ hlt2,PhiD.cells,hp]
     have kn:=kn.perm (Qad9 hxl hsx)
     have hob:H2 o=.vec 1 (ss.map SReg.row):=(kn.get (o,.vec 1 (ss.map SReg.row)) (by simp)).1
     have hrl:(ss.map SReg.row).length=R:=by rw[List.length_map,hS.n]
     have hrt:(ss.map SReg.row).take R=ss.map SReg.row:=List.take_of_length_le (by omega)
     refine Qq ?_
     simp only[go_sem,hob,hrl,hrt,hv,hvl,hsg,hsw,Nat.zero_add,Nat.le_refl]
     refine kn.growR (new:=Qbw [((b:Int),(-1:Int))]) hsok (.mk' _ _ _ _) (Qdj _) (by simp only[Qca,LIM,List.length_cons,List.length_nil];omega) fun t2 Lg2 H3 hg2 ht2 kn=>?_
     have hob:H3 o=.vec 1 (ss.map SReg.row):=(kn.get (o,.vec 1 (ss.map SReg.row)) (by simp)).1
     simp only[go_sem,Q3c,hob,hrl,hrt,hv,hvl,hsg,hsw,ht2,Nat.zero_add,Nat.le_refl]
     intro H4 h4
     obtain⟨s',hs'⟩:∃s':SReg,s'=⟨(Qfa q b x++phS q b k x)++[((b:Int),(-1:Int))],t2,Lg2⟩:=⟨_,rfl⟩
     have hset:(ss.map SReg.row).set x [t2]=(ss.set x s').map SReg.row:=by rw[List.map_set,hs'];rfl
     rw[hset]at h4
     have kn:Kn H H4 [] (([(o,.vec 1 ((ss.set x s').map SReg.row))]++(ss.eraseIdx x).flatMap SReg.lg)++s'.lg):=by
      have e:s'.lg=Lg2:=by rw[hs']
      rw[e];exact kn.stL 0 rfl h4
     have kn:=kn.perm (Qa4v hxl)
     refine Qq ?_
     simp only[go_sem,l1,l3,l4,l5]
     refine⟨Qo (by omega) (by omega),?_⟩
     show ∃m,_
     refine⟨y.phis.length-(k+1),by omega,k+1,N+1,ss.set x s',rfl,by omega,by omega,?_,kn,rfl,rfl,rfl,rfl⟩
     rw[hs']
     refine (hS.put hvl (p:=((b:Int),(-1:Int))) (t:=t2) (Lg:=Lg2) ?_ fun r=>?_)
     ·have:Qbw ((Qfa q b x++phS q b k x)++[((b:Int),(-1:Int))])=Qbw s.ps++Qbw [((b:Int),(-1:Int))]:=by rw[hsF];simp[Qbw]
      rw[this];exact hg2
     ·show Qfa q b r++phS q b (k+1) r=_
      rw[hsucc]
      by_cases hrx:r=x
      ·subst hrx;rw[if_pos rfl,if_pos hv];simp
      ·rw[if_neg hrx,if_neg (by omega)];simp
    ·intro hc2
     have hke:k=y.phis.length:=by have:y.phis.length≤k:=(by simpa using hc2);omega
     subst hke
     refine Qr ?_
     simp only[go_sem,X.next]
     refine Qa ?_
     simp only[go_sem,l1,l3,l4,l5]
     refine Qc (Qs (fun m e1 H1=>∃(j N:Nat) (ss:List SReg),m=y.ins.length-j∧j≤y.ins.length∧N≤b * 2400+y.phis.length+j∧SInv R N (fun r=>Qfa q b r++phS q b y.phis.length r++inS q b j r) ss∧Kn H H1 [] (ssL o ss)∧
      lk 1 e1=.c (.pp [.int .i64 q.params,.int .i64 (R:Int),.sl fl 5 (Qm q.blocks)])∧lk 3 e1=.c (.vsl o 1 0 R)∧lk 4 e1=.c (.int .i64 b)∧lk 7 e1=.c (.int .i64 j)) y.ins.length ?_ ?_)
     ·exact⟨0,N,ss,by omega,by omega,Nat.le_trans hNb (Nat.le_add_right _ _),hS.same fun r _=>by simp[inS],kn,rfl,rfl,rfl,rfl⟩
     ·clear kn hS l1 l3 l4 l5
      clear ss hNb
      clear N
      rintro m3 e3 H3 ⟨j,N,ss,hm3,hj,hNb,hS,kn,l1,l3,l4,l7⟩
      refine Q4 ?_
      refine Qa ?_
      simp only[go_sem,l1,l3,l4,l7,hlt,Qk,Q7 _ _ hlt,BlkD.cells,hy,Qan]
      try intro _
      refine Qg (Qe rfl ?_ ?_)
      ·intro hc3
       have hlt3:j<y.ins.length:=by simpa using hc3
       obtain⟨x,hx⟩:∃x,y.ins[j]=x:=⟨_,rfl⟩
       have hxm:x∈y.ins:=by rw[←hx];exact List.getElem_mem hlt3
       have hma:Qaic q b j=Qmt x:=by
        have:=Qbbc (q:=q) (b:=b) (i:=j) (by rw[hya];exact hlt3)
        simp only[hya,hx]at this
        exact this
       refine Qh ?_
       try simp only[go_sem]
       refine Qdm (fun e2 H2=>∃(N:Nat) (ss:List SReg),N≤b * 2400+y.phis.length+(j+1)∧SInv R N (fun r=>Qfa q b r++phS q b y.phis.length r++inS q b (j+1) r) ss∧Kn H H2 [] (ssL o ss)∧
        lk 1 e2=.c (.pp [.int .i64 q.params,.int .i64 (R:Int),.sl fl 5 (Qm q.blocks)])∧lk 3 e2=.c (.vsl o 1 0 R)∧lk 4 e2=.c (.int .i64 b)∧lk 7 e2=.c (.int .i64 j)) ?_ ?_
       ·intro Q hnr _ _
        refine Qc ?_
        refine Qa ?_
        simp only[go_sem,l1,l3,l4,l7,hlt,Qk,Q7 _ _ hlt,BlkD.cells,hy,hlt3,Qan,Qbs _ _ hlt3,InsD.take4,InsD.allOw,InsD.len4,hx]
        refine Qai4 ?_
        simp only[go_sem,Q3d]
        refine Qa ?_
        simp only[go_sem]
        refine Qe rfl ?_ ?_
        ·intro hc4
         have hge:0≤Qmt x:=by simpa using hc4
         have hmk:Qd1 x.op=true∧Qmt x=x.to:=by
          rcases Qaw7 x with h|⟨_,h⟩
          ·exact h
          ·omega
         obtain⟨hv,hvl⟩:=(hyo.to x hxm hmk.1).nat
         rw[←hmk.2,hR]at hvl
         rw[←hmk.2]at hv
         clear hmk
         generalize hx:(Qmt x).toNat=z at *
         obtain⟨s,hsm,hxl,hsx,hsF,hsok,hsl,hsg⟩:=hS.get hvl
         have hsw:=hsok.isOw
         have kn:=kn.perm (Qad9 hxl hsx)
         have hob:H3 o=.vec 1 (ss.map SReg.row):=(kn.get (o,.vec 1 (ss.map SReg.row)) (by simp)).1
         have hrl:(ss.map SReg.row).length=R:=by rw[List.length_map,hS.n]
         have hrt:(ss.map SReg.row).take R=ss.map SReg.row:=List.take_of_length_le (by omega)
         refine Qq ?_
         simp only[go_sem,hob,hrl,hrt,hv,hvl,hsg,hsw,Nat.zero_add,Nat.le_refl]
         refine kn.growR (new:=Qbw [((b:Int),(j:Int))]) hsok (.mk' _ _ _ _) (Qdj _) (by simp only[Qca,LIM,List.length_cons,List.length_nil];omega) fun t2 Lg2 H4 hg2 ht2 kn=>?_
         have hob:H4 o=.vec 1 (ss.map SReg.row):=(kn.get (o,.vec 1 (ss.map SReg.row)) (by simp)).1
         simp only[go_sem,Q3e,hob,hrl,hrt,hv,hvl,hsg,hsw,ht2,Nat.zero_add,Nat.le_refl]
         intro H5 h5
         obtain⟨s',hs'⟩:∃s':SReg,s'=⟨(Qfa q b z++phS q b y.phis.length z++inS q b j z)++[((b:Int),(j:Int))],t2,Lg2⟩:=⟨_,rfl⟩
         have hset:(ss.map SReg.row).set z [t2]=(ss.set z s').map SReg.row:=by rw[List.map_set,hs'];rfl
         rw[hset]at h5
         have kn:Kn H H5 [] (([(o,.vec 1 ((ss.set z s').map SReg.row))]++(ss.eraseIdx z).flatMap SReg.lg)++s'.lg):=by
          have e:s'.lg=Lg2:=by rw[hs']
          rw[e];exact kn.stL 0 rfl h5
         have kn:=kn.perm (Qa4v hxl)
         refine hnr _ _ ⟨N+1,ss.set z s',by omega,?_,kn,rfl,rfl,rfl,rfl⟩
         rw[hs']
         refine (hS.put hvl (p:=((b:Int),(j:Int))) (t:=t2) (Lg:=Lg2) ?_ fun r=>?_)
         ·have:Qbw ((Qfa q b z++phS q b y.phis.length z++inS q b j z)++[((b:Int),(j:Int))])=Qbw s.ps++Qbw [((b:Int),(j:Int))]:=by rw[hsF];simp[Qbw]
          rw[this];exact hg2
         ·show Qfa q b r++phS q b y.phis.length r++inS q b (j+1) r=_
          rw[Qa39,hma]
          by_cases hrx:r=z
          ·subst hrx;rw[if_pos rfl,if_pos hv];simp
          ·rw[if_neg hrx,if_neg (by omega)];simp
        ·intro hc4
         have hneg:¬0≤Qmt x:=by simpa using hc4
         refine Qh ?_
         try simp only[go_sem]
         refine hnr _ _ ⟨N,ss,by omega,hS.same fun r _=>?_,kn,rfl,rfl,rfl,rfl⟩
         rw[Qa39,hma,if_neg (by omega)];simp
       ·rintro e4 H4 ⟨N,ss,hNb,hS,kn,l1,l3,l4,l7⟩
        refine Qq ?_
        simp only[go_sem,l1,l3,l4,l7]
        refine⟨Qo (by omega) (by omega),?_⟩
        show ∃m,_
        exact⟨y.ins.length-(j+1),by omega,j+1,N,ss,rfl,by omega,hNb,hS,kn,rfl,rfl,rfl,rfl⟩
      ·intro hc3
       have hje:j=y.ins.length:=by have:y.ins.length≤j:=(by simpa using hc3);omega
       subst hje
       refine Qr ?_
       simp only[go_sem,X.next]
       refine Qq ?_
       simp only[go_sem,l1,l3,l4]
       refine⟨Qo (by omega) (by omega),?_⟩
       show ∃m,_
       refine⟨q.blocks.length-(b+1),by omega,b+1,N,ss,rfl,by omega,by omega,hS.same fun r _=>?_,kn,rfl,rfl,rfl⟩
       rw[Qa3o,blS,hya];simp
  ·intro hc
   have hbe:b=q.blocks.length:=by have:q.blocks.length≤b:=(by simpa using hc);omega
   subst hbe
   refine Qr ?_
   simp only[go_sem,X.next]
   refine Qa ?_
   simp only[go_sem,l3]
   refine Qj ?_
   simp only[go_sem,Q6,Qab,Qao8,List.mem_singleton,forall_eq,RS.op]
   have hob:=kn.l 0 rfl
   have hmem:∀p∈ssL o ss,H1 p.1=p.2∧un H p.1=true:=fun p hp=>⟨(kn.get p (List.mem_append_right _ hp)).1,Qep (kn.loc p hp)⟩
   have hrows:FrzR H1 (un H) (ss.map SReg.row) (Qig q):=by
    have e:Qig q=ss.map fun s=>[C.sl false 1 (Qbw s.ps)]:=by
     rw[Qig,hR]
     refine List.ext_getElem (by simp[hS.n]) fun i h1 h2=>?_
     have h3:i<ss.length:=by simpa using h2
     simp only[List.getElem_map,List.getElem_range,hS.f i h3];rfl
    rw[e]
    exact Qkv ss fun s hs=>.cons (Gr.frzM (hS.ok s hs) (fun p hp=>hmem p (List.mem_append_right _ (List.mem_flatMap.2 ⟨s,hs,hp⟩))) (FrzR.same (Qdj _))) .nil
   exact⟨_,.c _ _ (hrows.vsl (kn.un 0 rfl) hob (by rw[List.length_map,hS.n])),hK _ kn.fin⟩
end Go.AE.Y

namespace Go.AE.Y
open Go.Proofs.Tryz
variable {H H0:Heap}{K:V→Heap→Prop}{E B Lg:List (Nat×Obj)}
def Gq (Lg:List (Nat×Obj))(W:List Nat)(c:C):Prop:=
 (c=.sl true 1 []∧W=[]∧Lg=[])∨∃z st R,c=.vsl z 1 st W.length∧Lg=[(z,.vec 1 R)]∧(R.drop st).take W.length=Q5 W∧st+W.length≤R.length
theorem Gq.isOw {W:List Nat}{c:C}(h:Gq Lg W c):c.isOw=false:=by rcases h with ⟨rfl,_⟩|⟨z,st,R,rfl,_⟩ <;> rfl
theorem Gq.elemSz {W:List Nat}{c:C}(h:Gq Lg W c):c.elemSz=1:=by rcases h with ⟨rfl,_⟩|⟨z,st,R,rfl,_⟩ <;> rfl
theorem Gq.lenC {W:List Nat}{c:C}(h:Gq Lg W c):lenC c=W.length:=by rcases h with ⟨rfl,rfl,_⟩|⟨z,st,R,rfl,_⟩ <;> rfl
theorem Gq.get {W:List Nat}{c:C}(h:Gq Lg W c)(kn:Kn H0 H E (B++Lg)):okSl H c∧rowsOf H c=Q5 W:=by
 rcases h with ⟨rfl,rfl,_⟩|⟨z,st,R,rfl,rfl,h1,h2⟩
 ·exact⟨trivial,rfl⟩
 ·have hz:H z=.vec 1 R:=(kn.get (z,.vec 1 R) (by simp)).1
  exact⟨by simp[okSl,hz,h2],by simp[rowsOf,hz,h1]⟩
theorem Gr.gq {W:List Nat}{c:C}(h:Gr Lg 1 (Q5 W) c):Gq Lg W c:=by
 rcases h with ⟨h1,h2,h3⟩|⟨y,h1,h2⟩
 ·refine .inl ⟨h1,?_,h3⟩
  have:=congrArg List.length h2
  rw[Qw]at this
  exact List.length_eq_zero_iff.1 this
 ·exact .inr ⟨y,0,Q5 W,by rw[h1,Qw],h2,by rw[List.drop_zero,List.take_of_length_le (by rw[Qw];exact Nat.le_refl _)],by rw[Qw];omega⟩
theorem Kn.growQ {K:V→Heap→Prop}{W new:List Nat}{b c:C}(kn:Kn H0 H E (B++Lg))(hc:Gq Lg W c)(hb:Slc H 1 (Q5 new) b)(h2:W.length+new.length≤LIM)
  (h:∀t Lg' H',Gq Lg' (W++new) t→t.isOw=false→Kn H0 H' E (B++Lg')→K (.c t) H'):appQ H 1 c b K:=by
 rcases hc with ⟨rfl,rfl,rfl⟩|⟨z,st,R,rfl,rfl,h3,h4⟩
 ·refine Kn.growR (new:=Q5 new) kn (.nil 1) hb (Qaq _) (by simp only[Qw,List.length_nil]at *;omega) fun t Lg' H' hg ht k=>h t Lg' H' (Gr.gq ?_) ht k
  simpa using hg
 ·have hz:H z=.vec 1 R:=(kn.get (z,.vec 1 R) (by simp)).1
  refine⟨hb.ok,hb.sz,?_⟩
  simp only[hz,hb.rows,hb.len,h3,Qw]
  refine⟨trivial,trivial,h4,Qaq _,h2,fun l' hl' H' hH'=>?_⟩
  have hg:Gr [(l',.vec 1 (Q5 (W++new)))] 1 (Q5 (W++new)) (.vsl l' 1 0 (W.length+new.length)):=.mk _ _ _ (by simp[Qw])
  refine h _ _ H' (Gr.gq hg) rfl ?_
  have:=kn.ap B.length (y:=z) (o:=.vec 1 R) (by simp) hl' hH'
  rw[Qje]
  simpa using this
end Go.AE.Y

namespace Go.AE.Y
attribute [local go_sem] cond_true cond_false Bool.not_true Bool.not_false
open Go.Proofs.Tryz
variable {H H0:Heap}{K:V→Heap→Prop}{E B Lg:List (Nat×Obj)}{q:CodeD}
theorem Qaxd {nx:Nat→List Int}{f:Int}{n i:Nat}(h:i<(Q8 nx f n).length):∃p:Nat,(Q8 nx f n).getD i 0=(p:Int)∧p<n:=by
 have h1:(Q8 nx f n)[i]∈Q8 nx f n:=List.getElem_mem h
 have e:(Q8 nx f n).getD i 0=(Q8 nx f n)[i]:=by simp[List.getD_eq_getElem?_getD,h]
 rw[e]
 generalize (Q8 nx f n)[i]=v at h1
 simp only[Q8,List.mem_map,List.mem_filter,List.mem_range]at h1
 obtain⟨p,⟨h2,_⟩,rfl⟩:=h1
 exact⟨p,rfl,h2⟩
theorem Q8e {ns:List Int}(h:∀x∈ns,0≤x):Qf ns=Q5 (ns.map Int.toNat):=by
 have hk:ns=(ns.map Int.toNat).map Int.ofNat:=by
  rw[List.map_map]
  conv=>lhs;rw[←List.map_id ns]
  refine List.map_congr_left fun x hx=>?_
  have:=h x hx
  simp;omega
 conv=>lhs;rw[hk]
 rfl
theorem Qny {ns:List Int}(h:∀x∈ns,0≤x)(ha:ns.Pairwise (· < ·)):(ns.map Int.toNat).Pairwise (· < ·):=by
 rw[List.pairwise_map]
 refine ha.imp_of_mem fun {a b} h1 h2 h3=>?_
 have:=h a h1
 have:=h b h2
 omega
theorem Q66 {l:List Nat}{n:Nat}(ha:l.Pairwise (· < ·))(hn:∀x∈l,x<n):l.length≤n:=by
 have h1:l.Nodup:=ha.imp fun h=>by omega
 have h2:l ⊆ List.range n:=fun x hx=>List.mem_range.2 (hn x hx)
 have:=(List.nodup_iff_count.1 h1)
 have h3:=List.Nodup.length_le_of_subset h1 h2
 simpa using h3
set_option maxHeartbeats 2000000 in
theorem Qajp {fl flo:Bool}{b:Nat}(ho:q.ok)(hb:b<q.blocks.length)
  (hK:∀(fl':Bool) (fs:List Nat) H',Upd H H' []→fs.Pairwise (· < ·)→(∀x∈fs,x<q.blocks.length)→K (.c (.sl fl' 1 (Q5 fs))) H') :
  Qv prog Qik [.ag [.int .i64 q.params,.int .i64 q.regs,.sl fl 5 (Qm q.blocks)],.c (.sl flo 1 (Q6x q.blocks.length (nxN (gnx q)) q.blocks.length)),.c (.int .i64 b)] H K:=by
 have hb1:=ho.b1
 obtain⟨n,hn⟩:∃n,q.blocks.length=n:=⟨_,rfl⟩
 obtain⟨g,hg⟩:∃g,nxN (gnx q)=g:=⟨_,rfl⟩
 rw[hn]at hb hb1 hK
 rw[hn,hg]
 refine Qz ?_
 refine Qb Qar Qajy ?_
 refine Qa ?_
 simp only[go_sem]
 refine Qa ?_
 simp only[go_sem]
 refine Q4 ?_
 refine Qa ?_
 simp only[go_sem]
 refine Qg (Qc (Qs (fun m e1 H1=>∃(f:Nat) (fo:Bool) (ns:List Int),m=n-f∧f≤n∧ns.Pairwise (· < ·)∧(∀x∈ns,0≤x∧x<n)∧ns.length≤f * 200∧Kn H H1 [] []∧
  lk 1 e1=.c (.sl flo 1 (Q6x n g n))∧lk 2 e1=.c (.int .i64 b)∧lk 3 e1=.c (.pp [.int .i64 q.params,.int .i64 q.regs,.sl fl 5 (Qm q.blocks)])∧lk 7 e1=.c (.sl fo 1 (Qf ns))∧lk 8 e1=.c (.int .i64 f)) n ?_ ?_))
 ·exact⟨0,true,[],by omega,by omega,by simp,by simp,by simp,Kn.start0 H,rfl,rfl,rfl,rfl,rfl⟩
 ·rintro m e1 H1 ⟨f,fo,ns,hm,hf,ha,hns,hnl,kn,l1,l2,l3,l7,l8⟩
  refine Q4 ?_
  refine Qa ?_
  simp only[go_sem,l1,l2,l3,l7,l8,Qrm]
  try intro _
  refine Qg (Qe rfl ?_ ?_)
  ·intro hc
   have hlt:f<n:=by simpa using hc
   refine Qh ?_
   try simp only[go_sem]
   refine Qg (Qc ?_)
   refine Qa ?_
   simp only[go_sem,l1,l2,l3,l7,l8]
   refine Qe1 (nx:=gnx q) (.mk' _ _ _ _) rfl (Qht H1 q fl).x fun H2 hu=>?_
   have kn:=kn.call0 hu
   rw[Qk,hn]
   have hpl:=Qcm (gnx q) (f:Int) n
   have hpg:=fun (i:Nat)=>Qaxd (nx:=gnx q) (f:=(f:Int)) (n:=n) (i:=i)
   generalize Q8 (gnx q) (f:Int) n=pr at *
   simp only[go_sem,Qln]
   refine Qa ?_
   simp only[go_sem]
   refine Qc (Qs (fun m e1 H1=>∃(i:Nat) (fo:Bool) (ns:List Int),m=pr.length-i∧i≤pr.length∧ns.Pairwise (· < ·)∧(∀x∈ns,0≤x∧x<n)∧ns.length≤f * 200+i∧Kn H H1 [] []∧
    lk 1 e1=.c (.sl flo 1 (Q6x n g n))∧lk 2 e1=.c (.int .i64 b)∧lk 3 e1=.c (.pp [.int .i64 q.params,.int .i64 q.regs,.sl fl 5 (Qm q.blocks)])∧lk 7 e1=.c (.sl fo 1 (Qf ns))∧lk 8 e1=.c (.int .i64 f)∧lk 9 e1=.c (.sl false 1 (Qf pr))∧lk 10 e1=.c (.int .i64 i)) pr.length ?_ ?_)
   ·exact⟨0,fo,ns,by omega,by omega,ha,hns,by omega,kn,rfl,rfl,rfl,rfl,rfl,rfl,rfl⟩
   ·clear kn ha hns hnl l1 l2 l3 l7 l8
    clear ns fo
    rintro m2 e2 H3 ⟨i,fo,ns,hm2,hi,ha,hns,hnl,kn,l1,l2,l3,l7,l8,l9,l10⟩
    refine Q4 ?_
    refine Qa ?_
    simp only[go_sem,l1,l2,l3,l7,l8,l9,l10,Qd]
    try intro _
    refine Qg (Qe rfl ?_ ?_)
    ·intro hc2
     have hlt2:i<pr.length:=by simpa using hc2
     obtain⟨p,hp1,hp2⟩:=hpg i hlt2
     have hpd:p<(Qgd n g b).length:=by rw[Qd8];exact hp2
     have hfd:f<(Qgd n g b).length:=by rw[Qd8];exact hlt
     refine Qh ?_
     try simp only[go_sem]
     refine Qdm (fun e2 H2=>∃(fo:Bool) (ns:List Int),ns.Pairwise (· < ·)∧(∀x∈ns,0≤x∧x<n)∧ns.length≤f * 200+(i+1)∧Kn H H2 [] []∧
      lk 1 e2=.c (.sl flo 1 (Q6x n g n))∧lk 2 e2=.c (.int .i64 b)∧lk 3 e2=.c (.pp [.int .i64 q.params,.int .i64 q.regs,.sl fl 5 (Qm q.blocks)])∧lk 7 e2=.c (.sl fo 1 (Qf ns))∧lk 8 e2=.c (.int .i64 f)∧lk 9 e2=.c (.sl false 1 (Qf pr))∧lk 10 e2=.c (.int .i64 i)) ?_ ?_
     ·intro Q hnr _ _
      refine Qc ?_
      refine Qal ?_
      simp only[go_sem,l1,l2,l3,l7,l8,l9,l10,hb,Qrm,Q8j hb,hlt2,Qd,Qx _ _ hlt2,hp1,hp2,hlt,Qd8,Qt,Q0 _ _ hpd,Q0 _ _ hfd]
      refine Qe rfl ?_ ?_
      ·intro _
       refine Qq ?_
       simp only[go_sem]
       refine Qrk ha (by omega) fun fl2 ns2 H4 hu ha2 hm2' hl2=>?_
       have kn:=kn.call0 hu
       simp only[go_sem,Qlo]
       refine hnr _ _ ⟨fl2,ns2,ha2,fun x hx=>?_,by omega,kn,rfl,rfl,rfl,rfl,rfl,rfl,rfl⟩
       rcases (hm2' x).1 hx with rfl|hx
       ·omega
       ·exact hns x hx
      ·intro _
       refine Qh ?_
       try simp only[go_sem]
       exact hnr _ _ ⟨fo,ns,ha,hns,by omega,kn,rfl,rfl,rfl,rfl,rfl,rfl,rfl⟩
     ·rintro e3 H4 ⟨fo,ns,ha,hns,hnl,kn,l1,l2,l3,l7,l8,l9,l10⟩
      refine Qq ?_
      simp only[go_sem,l1,l2,l3,l7,l8,l9,l10]
      refine⟨Qo (by omega) (by omega),?_⟩
      show ∃m,_
      exact⟨pr.length-(i+1),by omega,i+1,fo,ns,rfl,by omega,ha,hns,hnl,kn,rfl,rfl,rfl,rfl,rfl,rfl,rfl⟩
    ·intro hc2
     refine Qr ?_
     simp only[go_sem,X.next]
     refine Qq ?_
     simp only[go_sem,l1,l2,l3,l7,l8]
     refine⟨Qo (by omega) (by omega),?_⟩
     show ∃m,_
     exact⟨n-(f+1),by omega,f+1,fo,ns,rfl,by omega,ha,hns,by omega,kn,rfl,rfl,rfl,rfl,rfl⟩
  ·intro hc
   refine Qr ?_
   simp only[go_sem,X.next]
   refine Qa ?_
   simp only[go_sem,l7]
   refine Qj ?_
   simp only[go_sem,Q6,Qab,Qwd,List.mem_singleton,forall_eq,RS.op]
   have h0:∀x∈ns,0≤x:=fun x hx=>(hns x hx).1
   rw[Q8e h0]
   refine⟨_,.c _ _ (FrzR.same (Qaq _)).sl,hK false _ _ kn.fin (Qny h0 ha) fun x hx=>?_⟩
   obtain⟨v,hv,rfl⟩:=List.mem_map.1 hx
   have:=hns v hv
   omega
set_option maxHeartbeats 2000000 in
theorem Qael {fl flo fll:Bool}{ls:List Nat}(ho:q.ok)(hls:ls.length≤1000000)
  (hK:∀(fs:List Nat) H',Upd H H' []→fs.Pairwise (· < ·)→(∀x∈fs,x<q.blocks.length)→K (.c (.sl false 1 (Q5 fs))) H') :
  Qv prog Qgk [.ag [.int .i64 q.params,.int .i64 q.regs,.sl fl 5 (Qm q.blocks)],.c (.sl flo 1 (Q6x q.blocks.length (nxN (gnx q)) q.blocks.length)),.c (.sl fll 1 (Q5 ls))] H K:=by
 have hb1:=ho.b1
 obtain⟨n,hn⟩:∃n,q.blocks.length=n:=⟨_,rfl⟩
 obtain⟨OV,hOV⟩:∃OV,Q6x q.blocks.length (nxN (gnx q)) q.blocks.length=OV:=⟨_,rfl⟩
 have hOVl:OV.length=n:=by rw[←hOV,Qrm,hn]
 rw[hn]at hb1 hK
 rw[hOV]
 refine Qz ?_
 refine Qb Qar Qaet ?_
 refine Qa ?_
 simp only[go_sem]
 refine Qa ?_
 simp only[go_sem]
 refine Qa ?_
 simp only[go_sem]
 refine⟨.inl trivial,Qaq _,by rw[Qw];simp only[LIM];omega,fun y0 hy0 H1 h1=>?_⟩
 have kn:Kn H H1 [] ([]++[(y0,.vec 1 (Q5 ls))]):=(Kn.start0 H).al hy0 h1
 obtain⟨wc0,hwc⟩:∃wc0,C.vsl y0 1 0 (0+(Q5 ls).length)=wc0:=⟨_,rfl⟩
 have hq0:Gq [(y0,.vec 1 (Q5 ls))] ls wc0:=by rw[←hwc];exact Gr.gq (.mk _ _ _ (by omega))
 have hw0:=hq0.isOw
 rw[hwc]
 simp only[go_sem,Qjy,hw0]
 refine Qg (Qc (Qs (fun m e1 H1=>∃(O:List Int) (W:List Nat) (fo:Bool) (wc:C) (Lg:List (Nat×Obj)),m=W.length+2 * (n-O.length)∧W.length+2 * (n-O.length)≤ls.length+2 * n∧O.Pairwise (· < ·)∧(∀x∈O,0≤x∧x<n)∧Gq Lg W wc∧Kn H H1 [] ([]++Lg)∧
  lk 1 e1=.c (.sl flo 1 OV)∧lk 3 e1=.c (.pp [.int .i64 q.params,.int .i64 q.regs,.sl fl 5 (Qm q.blocks)])∧lk 7 e1=.c (.sl fo 1 (Qf O))∧lk 8 e1=.c wc) (ls.length+2 * n) ?_ ?_))
 ·exact⟨[],ls,true,wc0,[(y0,.vec 1 (Q5 ls))],by simp,by simp,by simp,by simp,hq0,kn,rfl,rfl,rfl,rfl⟩
 ·clear kn hq0 hw0 hwc h1 hy0
  rintro m e1 H2 ⟨O,W,fo,wc,Lg,hm,hWl,ha,hO,hq,kn,l1,l3,l7,l8⟩
  have hqw:=hq.isOw
  obtain⟨hqok,hqr⟩:=hq.get kn
  have hqok:=eq_true hqok
  have hql:=hq.lenC
  have hqs:=hq.elemSz
  refine Q4 ?_
  refine Qa ?_
  simp only[go_sem,l1,l3,l7,l8,hqw,hqok,hql]
  try intro _
  refine Qg (Qe rfl ?_ ?_)
  ·intro hc2
   obtain⟨b,W,rfl⟩:∃b W',W=b::W':=by
    cases W with
    |nil=>simp at hc2
    |cons b W=>exact⟨b,W,rfl⟩
   have hr0:(Q5 (b::W)).getD 0 []=[.int .i64 (b:Int)]:=rfl
   obtain⟨wc2,hsli,hq2⟩:∃wc2,sliC (some 1) none wc=wc2∧Gq Lg W wc2:=by
    refine⟨_,rfl,?_⟩
    rcases hq with ⟨_,h,_⟩|⟨z,st,R,rfl,rfl,h3,h4⟩
    ·simp at h
    ·refine .inr ⟨z,st+1,R,?_,rfl,?_,by simp at h4;omega⟩
     ·simp[sliC]
     ·have:=congrArg (List.drop 1) h3
      rw[←List.drop_drop,List.drop_take]at *
      simp only[List.length_cons,Nat.add_sub_cancel]at this
      rw[this];rfl
   refine Qh ?_
   try simp only[go_sem]
   refine Qc ?_
   refine Qa ?_
   simp only[go_sem,l1,l3,l7,l8,hqw,hqok,hqr,hqs,hql,hr0,Nat.succ_pos,List.length_cons]
   first|refine⟨by omega,?_⟩|skip
   refine Qa ?_
   simp only[go_sem,hqw,hqok,hqs,hql,hsli,List.length_cons]
   refine⟨⟨by omega,by omega,by omega⟩,?_⟩
   have hqw2:=hq2.isOw
   simp only[List.length_cons]at hWl hm
   refine Q4 ?_
   refine Qa ?_
   simp only[go_sem,hqw2,hOVl]
   try intro _
   refine⟨Qo (by omega) (by omega),?_⟩
   refine Qc0 ?_
   simp only[go_sem,Qjz,hqw2]
   refine Qg (Qe rfl ?_ ?_)
   ·intro _
    refine Qr ?_
    show ∃m,_
    exact⟨W.length+2 * (n-O.length),by omega,O,W,fo,wc2,Lg,rfl,by omega,ha,hO,hq2,kn,rfl,rfl,rfl,rfl⟩
   ·intro hc3
    have hbn:b<n:=by
     have:=Qeh hc3
     have:=of_decide_eq_true this
     omega
    refine Qh ?_
    try simp only[go_sem]
    refine Qa ?_
    simp only[go_sem,hqw2]
    rw[←hOV]
    refine Qajp ho (by rw[hn];exact hbn) fun flf fs H3 hu hfa hfn=>?_
    rw[hOV]
    rw[hn]at hfn
    have kn:=kn.call0 hu
    have hfl:=Q66 hfa hfn
    simp only[go_sem,Qj0,hqw2]
    refine Qa ?_
    simp only[go_sem,hqw2]
    refine Qc (Qs (fun m2 e1 H1=>∃(i:Nat) (O2:List Int) (W:List Nat) (fo:Bool) (wc:C) (Lg:List (Nat×Obj)),m2=fs.length-i∧i≤fs.length∧W.length+2 * (n-O2.length)<m∧O2.Pairwise (· < ·)∧(∀x∈O2,0≤x∧x<n)∧Gq Lg W wc∧Kn H H1 [] ([]++Lg)∧
     lk 1 e1=.c (.sl flo 1 OV)∧lk 3 e1=.c (.pp [.int .i64 q.params,.int .i64 q.regs,.sl fl 5 (Qm q.blocks)])∧lk 7 e1=.c (.sl fo 1 (Qf O2))∧lk 8 e1=.c wc∧lk 10 e1=.c (.sl flf 1 (Q5 fs))∧lk 11 e1=.c (.int .i64 i)) fs.length ?_ ?_)
    ·exact⟨0,O,W,fo,wc2,Lg,by omega,by omega,by omega,ha,hO,hq2,kn,rfl,rfl,rfl,rfl,rfl,rfl⟩
    ·clear kn hq2 hqw2 hqok hqr hql hqs hqw hq hsli ha hO l1 l3 l7 l8
     have hmb:m≤ls.length+2 * n:=by omega
     clear hm hWl
     rintro m2 e2 H4 ⟨i,O,W,fo,wc,Lg,hm2,hi,hWl,ha,hO,hq,kn,l1,l3,l7,l8,l10,l11⟩
     have hqw:=hq.isOw
     refine Q4 ?_
     refine Qa ?_
     simp only[go_sem,l1,l3,l7,l8,l10,l11,hqw,Qw]
     try intro _
     refine Qg (Qe rfl ?_ ?_)
     ·intro hc4
      have hlt:i<fs.length:=by simpa using hc4
      obtain⟨f,hf⟩:∃f,fs[i]=f:=⟨_,rfl⟩
      have hfg:fs.getD i 0=f:=by simp[List.getD_eq_getElem?_getD,hlt,hf]
      have hfn2:f<n:=by rw[←hf];exact hfn _ (List.getElem_mem hlt)
      have hO0:∀x∈O,0≤x:=fun x hx=>(hO x hx).1
      have hOl:O.length≤n:=by
       have:=Q66 (n:=n) (Qny hO0 ha) fun x hx=>by
        obtain⟨v,hv,rfl⟩:=List.mem_map.1 hx
        have:=hO v hv
        omega
       simpa using this
      refine Qh ?_
      try simp only[go_sem]
      refine Qdm (fun e1 H1=>∃(O:List Int) (W:List Nat) (fo:Bool) (wc:C) (Lg:List (Nat×Obj)),W.length+2 * (n-O.length)<m∧O.Pairwise (· < ·)∧(∀x∈O,0≤x∧x<n)∧Gq Lg W wc∧Kn H H1 [] ([]++Lg)∧
       lk 1 e1=.c (.sl flo 1 OV)∧lk 3 e1=.c (.pp [.int .i64 q.params,.int .i64 q.regs,.sl fl 5 (Qm q.blocks)])∧lk 7 e1=.c (.sl fo 1 (Qf O))∧lk 8 e1=.c wc∧lk 10 e1=.c (.sl flf 1 (Q5 fs))∧lk 11 e1=.c (.int .i64 i)) ?_ ?_
      ·intro Q hnr _ _
       refine Qc ?_
       refine Qa ?_
       simp only[go_sem,l1,l3,l7,l8,l10,l11,hqw,hlt,Qw,Qad _ _ hlt,hfg]
       refine Qajo (ns:=O) (.mk' _ _ _ _) rfl fun r hr=>?_
       simp only[go_sem,Qj1,hqw]
       refine Qe rfl ?_ ?_
       ·intro hc5
        have hneg:r<0:=by simpa using hc5
        have hnin:(f:Int)∉O:=by
         rcases hr with ⟨_,h⟩|⟨i,rfl,_⟩
         ·exact h
         ·omega
        refine Qa ?_
        simp only[go_sem,hqw,hlt,Qw,Qad _ _ hlt,hfg]
        refine Qrk ha (by omega) fun fl2 O2 H5 hu ha2 hm2' hl2=>?_
        have kn:=kn.call0 hu
        have hO2l:O2.length=O.length+1:=by
         have h1:((f:Int)::O).Nodup:=List.nodup_cons.2 ⟨hnin,ha.imp fun h=>by omega⟩
         have h2:((f:Int)::O) ⊆ O2:=fun x hx=>by
          rw[hm2']
          rcases List.mem_cons.1 hx with h|h
          ·exact .inl h
          ·exact .inr h
         have:=List.Nodup.length_le_of_subset h1 h2
         simp only[List.length_cons]at this
         omega
        have hO2:∀x∈O2,0≤x∧x<n:=fun x hx=>by
         rcases (hm2' x).1 hx with rfl|hx
         ·omega
         ·exact hO x hx
        have hO2n:O2.length≤n:=by
         have:=Q66 (n:=n) (Qny (fun x hx=>(hO2 x hx).1) ha2) fun x hx=>by
          obtain⟨v,hv,rfl⟩:=List.mem_map.1 hx
          have:=hO2 v hv
          omega
         simpa using this
        simp only[go_sem,Qj2,hqw]
        refine Qq ?_
        simp only[go_sem,hqw,hlt,Qw,Qad _ _ hlt,hfg]
        refine Kn.growQ kn (new:=[f]) hq (.mk' _ _ _ _) (by simp only[LIM,List.length_cons,List.length_nil];omega) fun wc2 Lg2 H6 hq2 hw2 kn=>?_
        simp only[go_sem,Qj3,hw2]
        refine hnr _ _ ⟨O2,W++[f],fl2,wc2,Lg2,by simp only[List.length_append,List.length_cons,List.length_nil];omega,ha2,hO2,hq2,kn,rfl,rfl,rfl,rfl,rfl,rfl⟩
       ·intro _
        refine Qh ?_
        try simp only[go_sem]
        exact hnr _ _ ⟨O,W,fo,wc,Lg,hWl,ha,hO,hq,kn,rfl,rfl,rfl,rfl,rfl,rfl⟩
      ·rintro e3 H5 ⟨O,W,fo,wc,Lg,hWl,ha,hO,hq,kn,l1,l3,l7,l8,l10,l11⟩
       have hqw:=hq.isOw
       refine Qq ?_
       simp only[go_sem,l1,l3,l7,l8,l10,l11,hqw]
       refine⟨Qo (by omega) (by omega),?_⟩
       show ∃m,_
       exact⟨fs.length-(i+1),by omega,i+1,O,W,fo,wc,Lg,rfl,by omega,hWl,ha,hO,hq,kn,rfl,rfl,rfl,rfl,rfl,rfl⟩
     ·intro _
      refine Qr ?_
      show ∃m,_
      exact⟨_,hWl,O,W,fo,wc,Lg,rfl,by omega,ha,hO,hq,kn,rfl,rfl,rfl,rfl⟩
  ·intro _
   refine Qr ?_
   simp only[go_sem,X.next]
   refine Qa ?_
   simp only[go_sem,l7]
   refine Qj ?_
   simp only[go_sem,Q6,Qab,Qso,List.mem_singleton,forall_eq,RS.op]
   have h0:∀x∈O,0≤x:=fun x hx=>(hO x hx).1
   rw[Q8e h0]
   refine⟨_,.c _ _ (FrzR.same (Qaq _)).sl,hK _ _ kn.fin (Qny h0 ha) fun x hx=>?_⟩
   obtain⟨v,hv,rfl⟩:=List.mem_map.1 hx
   have:=hO v hv
   omega
end Go.AE.Y

namespace Go.AE.Y
attribute [local go_sem] cond_true cond_false Bool.not_true Bool.not_false
open Go.Proofs.Tryz
variable {H H0:Heap}{K:V→Heap→Prop}{E B Lg:List (Nat×Obj)}{q:CodeD}{S:Nat→Bool}
theorem OBlk.frzD (x:OBlk)(hok:x.ok)(h:Held H S x.lg):FrzL H S x.row x.d.cells:=
 .cons (Gr.frzM hok.p h.r.r.l (Qaox hok.a h.r.l)) (.cons (Gr.frzM hok.i h.r.r.r.r (Qa4a h.r.r.r.l)) (.cons (Qi rfl) (.cons (Qi rfl) (.cons (x.nx.frz h.l) .nil))))
theorem OBlks.frzD {os:List OBlk}(hok:∀b∈os,b.ok)(h:Held H S (os.flatMap OBlk.lg)):FrzR H S (os.map OBlk.row) (Qm (os.map OBlk.d)):=by
 rw[Qm,List.map_map]
 exact Qkv os fun x hx=>x.frzD (hok x hx) (h.m hx)
theorem Qbdo {r:Nat}{p:Plc}(h:p∈Qa3m q r):∃b:Nat,p.1=(b:Int)∧b<q.blocks.length:=by
 simp only[Qa3m,Qfa,List.mem_flatMap,List.mem_range]at h
 obtain⟨b,hb,h⟩:=h
 refine⟨b,?_,hb⟩
 simp only[blS,phS,inS,List.mem_append,List.mem_map]at h
 rcases h with ⟨_,_,rfl⟩|⟨_,_,rfl⟩ <;> rfl
theorem Qai3:(Qig q).length=q.regs.toNat:=by simp[Qig]
theorem Qa3n {r:Nat}(h:r<q.regs.toNat):(Qig q).getD r []=[.sl false 1 (Qbw (Qa3m q r))]:=by simp[Qig,List.getD_eq_getElem?_getD,h]
structure PhS (q:CodeD)(k:Nat→Nat)(os:List OBlk):Prop where
 n:os.length=q.blocks.length
 ok:∀b∈os,b.ok
 d:∀j (h:j<os.length) (h':j<q.blocks.length),os[j].d.ins=q.blocks[j].ins∧os[j].jump=q.blocks[j].jump∧os[j].on=q.blocks[j].on∧os[j].nx.ns=q.blocks[j].next
 p:∀j (h:j<os.length),∀p∈os[j].phis,rIn q p.to∧(∀v∈p.ns,rIn q v)∧p.ns.length=(Q8 (gnx q) (j:Int) q.blocks.length).length
 l:∀j (h:j<os.length) (h':j<q.blocks.length),os[j].phis.length≤q.blocks[j].phis.length+k j
variable {k k':Nat→Nat}{os:List OBlk}
theorem PhS.up (h:PhS q k os)(hk:∀j,k j≤k' j):PhS q k' os:=⟨h.n,h.ok,h.d,h.p,fun j h1 h2=>by have:=h.l j h1 h2;have:=hk j;omega⟩
theorem Qbga (ho:q.ok){o:OCode}(hok:o.ok)(hd:o.d=q):PhS q (fun _=>0) o.blocks:=by
 have hb:o.blocks.map OBlk.d=q.blocks:=by rw[←hd];rfl
 have hl:o.blocks.length=q.blocks.length:=by rw[←hb,List.length_map]
 have hg:∀j (h:j<o.blocks.length) (h':j<q.blocks.length),o.blocks[j].d=q.blocks[j]:=fun j h h'=>by
  have h1:(o.blocks.map OBlk.d)[j]? = some o.blocks[j].d:=by simp[h]
  rw[hb,List.getElem?_eq_getElem h']at h1
  exact (Option.some.inj h1).symm
 refine⟨hl,hok.bs,fun j h h'=>by rw[←hg j h h'];exact⟨rfl,rfl,rfl,rfl⟩,fun j h p hp=>?_,fun j h h'=>?_⟩
 ·have h':j<q.blocks.length:=by omega
  have o1:=ho.bs j h'
  rw[←hg j h h']at o1
  have hm:p.d∈o.blocks[j].d.phis:=List.mem_map.2 ⟨p,hp,rfl⟩
  exact⟨o1.pto _ hm,o1.pargs _ hm,o1.pal _ hm⟩
 ·rw[←hg j h h'];simp[OBlk.d]
theorem PhS.step {b:Nat}(h:PhS q k os)(hb:b<os.length){o:OBlk}(hob:os[b]=o){p:OPhi}{pc:C}{pl:List (Nat×Obj)}(hp:p.ok)(hg:Gr pl 2 ((p::o.phis).map OPhi.row) pc)
  (h1:rIn q p.to) (h2:∀v∈p.ns,rIn q v) (h3:p.ns.length=(Q8 (gnx q) (b:Int) q.blocks.length).length) (hk:∀j,k' j=if j=b then k j+1 else k j) :
  PhS q k' (os.set b ⟨p::o.phis,pc,pl,o.ins,o.ic,o.il,o.jump,o.on,o.nx⟩):=by
 subst hob
 have hok:=h.ok _ (List.getElem_mem hb)
 refine⟨by rw[List.length_set];exact h.n,fun w hw=>?_,fun j hj hj'=>?_,fun j hj x hx=>?_,fun j hj hj'=>?_⟩
 ·rcases List.mem_or_eq_of_mem_set hw with hw|rfl
  ·exact h.ok w hw
  ·refine⟨hg,hok.i,fun x hx=>?_⟩
   rcases List.mem_cons.1 hx with rfl|hx
   ·exact hp
   ·exact hok.a x hx
 ·have hjl:j<os.length:=by simpa using hj
  have hd:=h.d j hjl hj'
  rw[List.getElem_set]
  split
  ·rename_i e;subst e;exact hd
  ·exact hd
 ·have hjl:j<os.length:=by simpa using hj
  rw[List.getElem_set]at hx
  split at hx
  ·rename_i e;subst e
   rcases List.mem_cons.1 hx with rfl|hx
   ·exact⟨h1,h2,h3⟩
   ·exact h.p _ hjl x hx
  ·exact h.p j hjl x hx
 ·have hjl:j<os.length:=by simpa using hj
  have hl:=h.l j hjl hj'
  rw[List.getElem_set,hk]
  split
  ·rename_i e;subst e;rw[if_pos rfl];show (p::os[b].phis).length≤_;simp only[List.length_cons];omega
  ·rename_i e;rw[if_neg (fun h=>e h.symm)];exact hl
theorem PhS.fin (ho:q.ok)(h:PhS q k os)(hk:∀j (hj:j<q.blocks.length),q.blocks[j].phis.length+k j≤1200):(CodeD.mk q.params q.regs (os.map OBlk.d)).ok:=by
 obtain⟨d,hd⟩:∃d:CodeD,d=⟨q.params,q.regs,os.map OBlk.d⟩:=⟨_,rfl⟩
 rw[←hd]
 have hl:d.blocks.length=q.blocks.length:=by rw[hd];simpa using h.n
 have hget:∀j (h1:j<d.blocks.length) (h2:j<os.length),d.blocks[j]=os[j].d:=fun j h1 h2=>by subst hd;simp
 have hmap:d.blocks.map BlkD.next=q.blocks.map BlkD.next:=List.ext_getElem (by simp[hl]) fun j h1 h2=>by
  simp only[List.length_map]at h1 h2
  have h3:j<os.length:=by rw[h.n];exact h2
  simp only[List.getElem_map,hget j h1 h3]
  exact (h.d j h3 h2).2.2.2
 have hg:gnx d=gnx q:=by funext i;rw[gnx,gnx,hmap]
 have hr:∀v,rIn q v→rIn d v:=fun v hv=>by simp only[rIn,hd]at hv⊢;exact hv
 have hrg:d.regs=q.regs:=by rw[hd]
 refine⟨by rw[hrg];exact ho.r0,by rw[hrg];exact ho.r1,by rw[hl];exact ho.b0,by rw[hl];exact ho.b1,fun b hb=>?_,fun b hb=>?_⟩
 ·have h2:b<q.blocks.length:=by omega
  have h3:b<os.length:=by rw[h.n];exact h2
  have o:=ho.bs b h2
  obtain⟨e1,e2,e3,e4⟩:=h.d b h3 h2
  have hp:=h.p b h3
  rw[hget b hb h3]
  have hph:∀p∈os[b].d.phis,rIn q p.to∧(∀v∈p.args,rIn q v)∧p.args.length=(Q8 (gnx q) (b:Int) q.blocks.length).length:=fun p hp'=>by
   obtain⟨x,hx,rfl⟩:=List.mem_map.1 hp'
   exact hp x hx
  refine⟨by show os[b].nx.ns.length≤2;rw[e4];exact o.nxl,fun v hv=>by rw[hl];exact o.nx v (by rw[←e4];exact hv),by show os[b].jump=1∨os[b].jump=2∨os[b].jump=3;rw[e2];exact o.jmp,fun hj=>?_,
   fun x hx v hv=>hr _ (o.args x (by rw[←e1];exact hx) v hv),fun x hx hm=>hr _ (o.to x (by rw[←e1];exact hx) hm),fun p hp=>hr _ (hph p hp).1,fun p hp v hv=>hr _ ((hph p hp).2.1 v hv),fun p hp=>by rw[hg,hl];exact (hph p hp).2.2,
   fun x hx=>o.al x (by rw[←e1];exact hx)⟩
  show rIn d os[b].on
  rw[e3]
  exact hr _ (o.on (by rw[←e2];exact hj))
 ·have h2:b<q.blocks.length:=by omega
  have h3:b<os.length:=by rw[h.n];exact h2
  have o:=ho.il b h2
  have e1:=(h.d b h3 h2).1
  have:=h.l b h3 h2
  have:=hk b h2
  rw[hget b hb h3,e1]
  refine⟨o.1,?_⟩
  simp only[OBlk.d,List.length_map]
  omega
theorem Qa4j {l:List Nat}(h:l.Nodup){i:Nat}(hi:i<l.length):l[i]∉l.take i:=fun hh=>by
 obtain⟨j,hj,he⟩:=List.mem_iff_getElem.1 hh
 rw[List.length_take]at hj
 rw[List.getElem_take]at he
 have hj2:j<l.length:=by omega
 have:=(List.getElem?_inj hj2 h (j:=i)).1 (by rw[List.getElem?_eq_getElem hj2,List.getElem?_eq_getElem hi,he])
 omega
def OBlk.rst (o:OBlk):List (Nat×Obj):=o.nx.lg++(o.phis.flatMap OPhi.lg++(o.ins.flatMap OIns.lg++o.il))
theorem OBlk.lg_perm (o:OBlk):o.lg.Perm (o.rst++o.pl):=Qy fun f hf h0 hc hp=>by simp only[hf,OBlk.lg,OBlk.rst];omega
set_option maxHeartbeats 8000000 in
theorem Qa94 (ho:q.ok)(hph:∀y∈q.blocks,y.phis.length≤900)(hK:∀(d:CodeD) H',d.ok→d.params=q.params→d.regs=q.regs→Upd H H' []→K (.ag d.cells) H') :
  Qv prog Qzd [.ag [.int .i64 q.params,.int .i64 q.regs,.sl false 5 (Qm q.blocks)]] H K:=by
 have hr0:=ho.r0
 have hr1:=ho.r1
 have hb0:=ho.b0
 have hb1:=ho.b1
 obtain⟨n,hn⟩:∃n,q.blocks.length=n:=⟨_,rfl⟩
 obtain⟨R,hR⟩:∃R:Nat,q.regs.toNat=R:=⟨_,rfl⟩
 have hRq:q.regs=(R:Int):=by omega
 have hgf:=Qawj ho.gd
 refine Qz ?_
 refine Qb Qar Qbax ?_
 refine Qa ?_
 simp only[go_sem]
 intro x2 hx2 H1 h1
 have kn:=(Kn.start0 H).al hx2 h1
 refine Qa ?_
 simp only[go_sem]
 refine Qajs ho.sg fun o H2 k2 hok hod _=>?_
 have kn:=kn.comp0 k2
 have hpar:o.params=q.params:=by rw[←hod];rfl
 have hreg:o.regs=q.regs:=by rw[←hod];rfl
 have hol:o.blocks.length=n:=by rw[←hn,←hod];simp[OCode.d]
 obtain⟨zb,hbc,hbl⟩:∃z,o.bc=.vsl z 5 0 n∧o.bl=[(z,.vec 5 (o.blocks.map OBlk.row))]:=by
  rcases hok.b with ⟨_,h,_⟩|⟨y,h1,h2⟩
  ·have:=congrArg List.length h;simp only[List.length_map,List.length_nil]at this;omega
  ·exact⟨y,by rw[h1,List.length_map,hol],h2⟩
 have hrow:o.row=[.int .i64 q.params,.int .i64 q.regs,.vsl zb 5 0 n]:=by rw[OCode.row,hpar,hreg,hbc]
 have hP:=Qbga ho hok hod
 have hlg:o.lg=o.blocks.flatMap OBlk.lg++[(zb,.vec 5 (o.blocks.map OBlk.row))]:=by rw[OCode.lg,hbl]
 rw[hlg]at kn
 rw[hrow]
 generalize o.blocks=os0 at *
 clear hok hod hpar hreg hrow hlg hbc hbl k2
 simp only[go_sem,Q25]
 intro x3 hx3 H3 h3
 have kn:=(kn.al hx3 h3).perm List.perm_append_comm
 have hx3:=kn.l 0 rfl
 simp only[go_sem,Q24,hx3]
 intro H4 h4
 have kn:Kn H H4 [] ([(x3,.st [.int .i64 q.params,.int .i64 q.regs,.vsl zb 5 0 n])]++([(x2,.st [.int .i64 0,.int .i64 0,.sl true 5 []])]++(os0.flatMap OBlk.lg++[(zb,.vec 5 (os0.map OBlk.row))]))):=kn.stL 0 rfl h4
 refine Qa ?_
 simp only[go_sem]
 refine Qaob (rows:=Qm q.blocks) (nx:=gnx q) hgf (by rw[Qk];exact ho.fitB) fun H5 hu=>?_
 have kn:=kn.call0 hu
 rw[Qk]
 simp only[go_sem,Q26]
 refine Qa ?_
 simp only[go_sem]
 refine Qaoc ho (.sl _ _ _ _) fun zi zo H6 hu hlv=>?_
 have kn:=kn.call0 hu
 simp only[go_sem,Q28]
 intro x5 hx5 H7 h7
 have kn:=(kn.al hx5 h7).perm List.perm_append_comm
 have hx5:=kn.l 0 rfl
 simp only[go_sem,Q27,hx5]
 intro H8 h8
 have kn:Kn H H8 [] (([(x3,.st [.int .i64 q.params,.int .i64 q.regs,.vsl zb 5 0 n]),(x2,.st [.int .i64 0,.int .i64 0,.sl true 5 []]),(x5,.st [.sl false 1 (Qug zi),.sl false 1 (Qug zo)])]++[(zb,.vec 5 (os0.map OBlk.row))])++os0.flatMap OBlk.lg):=
  (kn.stL 0 rfl h8).perm (Qy fun f hf h0 hc hp=>by
   have e3:∀(a b c:Nat×Obj),f [a,b,c]=f [a]+f [b]+f [c]:=fun a b c=>by rw[hc a [b,c],hc b [c]];omega
   show f ([(x5,_)]++_)=_
   simp only[hf,e3];omega)
 obtain⟨XL,hX⟩:∃XL,[(x3,Obj.st [.int .i64 q.params,.int .i64 q.regs,.vsl zb 5 0 n]),(x2,.st [.int .i64 0,.int .i64 0,.sl true 5 []]),(x5,.st [.sl false 1 (Qug zi),.sl false 1 (Qug zo)])]=XL:=⟨_,rfl⟩
 rw[hX]at kn
 have gX:∀{H1:Heap} {A:List (Nat×Obj)},Kn H H1 [] (XL++A)→H1 x3=.st [.int .i64 q.params,.int .i64 q.regs,.vsl zb 5 0 n]∧H1 x5=.st [.sl false 1 (Qug zi),.sl false 1 (Qug zo)]:=fun {H1 A} k=>by
  rw[←hX]at k
  exact⟨k.l 0 rfl,k.l 2 rfl⟩
 clear hx3 hx5 h8 h4 h1 hx2
 refine Qa ?_
 simp only[go_sem]
 refine Qa95 ho fun H9 hu=>?_
 have kn:=kn.call0 hu
 simp only[go_sem,Q29]
 refine Q4 ?_
 refine Qa ?_
 simp only[go_sem]
 refine⟨Qo (by omega) (by omega),?_⟩
 have hS0:PhS q (fun _=>0) os0:=hP
 refine Qg (Qc (Qs (fun m e1 H1=>∃(r:Nat) (os:List OBlk),m=r∧r≤R∧PhS q (fun _=>R-r) os∧Kn H H1 [] ((XL++[(zb,.vec 5 (os.map OBlk.row))])++os.flatMap OBlk.lg)∧
  lk 1 e1=.c (.pp [.int .i64 q.params,.int .i64 q.regs,.sl false 5 (Qm q.blocks)])∧lk 2 e1=.c (.ptr x2 0)∧lk 3 e1=.c (.ptr x3 0)∧lk 4 e1=.c (.sl false 1 (Q6x q.blocks.length (nxN (gnx q)) q.blocks.length))∧lk 5 e1=.c (.ptr x5 0)∧lk 6 e1=.c (.sl false 1 (Qig q))∧lk 7 e1=.c (.int .i64 ((r:Int)-1))) R ?_ ?_))
 ·exact⟨R,os0,rfl,by omega,hS0.up fun j=>by simp,kn,rfl,rfl,rfl,rfl,rfl,rfl,by simp only[lk,hRq];rfl⟩
 ·clear kn hS0 hP
  rintro m e1 H10 ⟨r,os,rfl,hrR,hS,kn,l1,l2,l3,l4,l5,l6,l7⟩
  refine Q4 ?_
  refine Qa ?_
  simp only[go_sem,l1,l2,l3,l4,l5,l6,l7]
  refine Qg (Qe rfl ?_ ?_)
  ·intro hc
   have hge:(0:Int)≤(m:Int)-1:=by simpa using hc
   obtain⟨r,rfl⟩:∃r,m=r+1:=⟨m-1,by omega⟩
   have er:((r+1:Nat):Int)-1=(r:Int):=by omega
   rw[er]
   have hrlt:r<R:=by omega
   have hrR2:r<q.regs.toNat:=by omega
   refine Qh ?_
   try simp only[go_sem]
   refine Qg (Qc ?_)
   refine Qa ?_
   simp only[go_sem]
   refine Q4 ?_
   refine Qa ?_
   simp only[go_sem]
   refine Qdm (fun e2 H2=>∃(fo:Bool) (ns:List Int),H2=H10∧ns.Pairwise (· < ·)∧(∀x∈ns,0≤x∧x<n)∧
    lk 1 e2=.c (.pp [.int .i64 q.params,.int .i64 q.regs,.sl false 5 (Qm q.blocks)])∧lk 2 e2=.c (.ptr x2 0)∧lk 3 e2=.c (.ptr x3 0)∧lk 4 e2=.c (.sl false 1 (Q6x q.blocks.length (nxN (gnx q)) q.blocks.length))∧lk 5 e2=.c (.ptr x5 0)∧lk 6 e2=.c (.sl false 1 (Qig q))∧lk 7 e2=.c (.int .i64 r)∧lk 8 e2=.c (.sl fo 1 (Qf ns))) ?_ ?_
   ·intro Q hnr _ _
    refine Qe rfl ?_ ?_
    ·intro _
     refine Qq ?_
     simp only[go_sem]
     refine hnr _ _ ⟨true,[0],rfl,by simp,?_,rfl,rfl,rfl,rfl,rfl,rfl,rfl,rfl⟩
     intro x hx;simp only[List.mem_singleton]at hx;subst hx;omega
    ·intro _
     refine Qh ?_
     try simp only[go_sem]
     exact hnr _ _ ⟨true,[],rfl,by simp,by simp,rfl,rfl,rfl,rfl,rfl,rfl,rfl,rfl⟩
   rintro e2 H2 ⟨fo,ns,rfl,ha,hns,l1,l2,l3,l4,l5,l6,l7,l8⟩
   refine Q4 ?_
   refine Qa ?_
   simp only[go_sem,l1,l2,l3,l4,l5,l6,l7,l8]
   have hsm:∀i (h:i<(Qa3m q r).length),∃b:Nat,(Qa3m q r)[i].1=(b:Int)∧b<n:=fun i h=>by rw[←hn];exact Qbdo (List.getElem_mem h)
   obtain⟨sl,hsl⟩:∃sl,Qa3m q r=sl:=⟨_,rfl⟩
   have hsg:=Qa3n hrR2
   rw[hsl]at hsg hsm
   refine Qg (Qc (Qs (fun m2 e1 H1=>∃(i:Nat) (fo:Bool) (ns:List Int),m2=sl.length-i∧i≤sl.length∧ns.Pairwise (· < ·)∧(∀x∈ns,0≤x∧x<n)∧Kn H H1 [] ((XL++[(zb,.vec 5 (os.map OBlk.row))])++os.flatMap OBlk.lg)∧
    lk 1 e1=.c (.pp [.int .i64 q.params,.int .i64 q.regs,.sl false 5 (Qm q.blocks)])∧lk 2 e1=.c (.ptr x2 0)∧lk 3 e1=.c (.ptr x3 0)∧lk 4 e1=.c (.sl false 1 (Q6x q.blocks.length (nxN (gnx q)) q.blocks.length))∧lk 5 e1=.c (.ptr x5 0)∧lk 6 e1=.c (.sl false 1 (Qig q))∧lk 7 e1=.c (.int .i64 r)∧lk 8 e1=.c (.sl fo 1 (Qf ns))∧lk 9 e1=.c (.int .i64 i)) sl.length ?_ ?_))
   ·exact⟨0,fo,ns,by omega,by omega,ha,hns,kn,rfl,rfl,rfl,rfl,rfl,rfl,rfl,rfl,rfl⟩
   ·clear kn ha hns l1 l2 l3 l4 l5 l6 l7 l8
    rintro m2 e3 H11 ⟨i,fo,ns,hm2,hi,ha,hns,kn,l1,l2,l3,l4,l5,l6,l7,l8,l9⟩
    have hns0:∀x∈ns,0≤x:=fun x hx=>(hns x hx).1
    have hnsl:ns.length≤n:=by
     have:=Q66 (n:=n) (Qny hns0 ha) fun x hx=>by
      obtain⟨v,hv,rfl⟩:=List.mem_map.1 hx
      have:=hns v hv
      omega
     simpa using this
    refine Q4 ?_
    refine Qa ?_
    simp only[go_sem,l1,l2,l3,l4,l5,l6,l7,l8,l9,hrR2,Qai3,hsg,Qca]
    intro hlim
    simp only[LIM]at hlim
    refine Qg (Qe rfl ?_ ?_)
    ·intro hc2
     have hlt:i<sl.length:=by simpa using hc2
     obtain⟨b,hb,hbn⟩:=hsm i hlt
     refine Qh ?_
     try simp only[go_sem]
     refine Qg (Qc ?_)
     refine Qq ?_
     simp only[go_sem,hrR2,Qai3,hsg,Qca,hlt,Qrn _ _ hlt,pRow,hb,List.getD_cons_zero,Nat.zero_lt_succ]
     try simp only[go_sem,List.getD_cons_zero,Nat.zero_lt_succ,List.length_cons,List.length_nil]
     refine⟨Int.le_refl 0,?_⟩
     refine Qrk ha (by omega) fun fl2 ns2 H12 hu ha2 hm2' hl2=>?_
     have kn:=kn.call0 hu
     simp only[go_sem,Q3a]
     refine Qq ?_
     simp only[go_sem]
     refine⟨Qo (by omega) (by omega),?_⟩
     show ∃m,_
     refine⟨sl.length-(i+1),by omega,i+1,fl2,ns2,rfl,by omega,ha2,fun x hx=>?_,kn,rfl,rfl,rfl,rfl,rfl,rfl,rfl,rfl,by simp[lk]⟩
     rcases (hm2' x).1 hx with rfl|hx
     ·omega
     ·exact hns x hx
    ·intro _
     refine Qr ?_
     simp only[go_sem,X.next]
     refine Qa ?_
     simp only[go_sem,l1,l2,l3,l4,l5,l6,l7,l8]
     rw[Q8e hns0]
     refine Qael ho (by rw[List.length_map];omega) fun fs H12 hu hfa hfn=>?_
     have kn:=kn.call0 hu
     have hfl:=Q66 hfa hfn
     rw[hn]at hfl hfn
     simp only[go_sem,Qxz]
     refine Qa ?_
     simp only[go_sem]
     refine Qc (Qs (fun m2 e1 H1=>∃(i:Nat) (os:List OBlk),m2=fs.length-i∧i≤fs.length∧PhS q (fun j=>R-(r+1)+if j∈fs.take i then 1 else 0) os∧Kn H H1 [] ((XL++[(zb,.vec 5 (os.map OBlk.row))])++os.flatMap OBlk.lg)∧
      lk 1 e1=.c (.pp [.int .i64 q.params,.int .i64 q.regs,.sl false 5 (Qm q.blocks)])∧lk 2 e1=.c (.ptr x2 0)∧lk 3 e1=.c (.ptr x3 0)∧lk 4 e1=.c (.sl false 1 (Q6x q.blocks.length (nxN (gnx q)) q.blocks.length))∧lk 5 e1=.c (.ptr x5 0)∧lk 6 e1=.c (.sl false 1 (Qig q))∧lk 7 e1=.c (.int .i64 r)∧
      lk 10 e1=.c (.sl false 1 (Q5 fs))∧lk 11 e1=.c (.int .i64 i)) fs.length ?_ ?_)
     ·exact⟨0,os,by omega,by omega,hS.up fun j=>by simp,kn,rfl,rfl,rfl,rfl,rfl,rfl,rfl,rfl,rfl⟩
     ·have hfnd:fs.Nodup:=hfa.imp fun h=>by omega
      clear kn hS hfa ha hns hns0 hnsl l1 l2 l3 l4 l5 l6 l7 l8 l9
      rintro m3 e4 H13 ⟨i,os,hm3,hi,hS,kn,l1,l2,l3,l4,l5,l6,l7,l10,l11⟩
      refine Q4 ?_
      refine Qa ?_
      simp only[go_sem,l1,l2,l3,l4,l5,l6,l7,l10,l11,Qw]
      try intro _
      refine Qg (Qe rfl ?_ ?_)
      ·intro hc2
       have hlt:i<fs.length:=by simpa using hc2
       obtain⟨b,hb⟩:∃b,fs[i]=b:=⟨_,rfl⟩
       have hfg:fs.getD i 0=b:=by simp[List.getD_eq_getElem?_getD,hlt,hb]
       have hbn:b<n:=by rw[←hb];exact hfn _ (List.getElem_mem hlt)
       have hnotin:b∉fs.take i:=by rw[←hb];exact Qa4j hfnd hlt
       have htk:∀j,j∈fs.take (i+1)↔j∈fs.take i∨j=b:=fun j=>by
        rw[List.take_succ_eq_append_getElem hlt,hb];simp
       have hbz:b<zi.length:=by rw[hlv.1.i,hn];exact hbn
       obtain⟨nd,hnd⟩:∃nd,zi[b].2=nd:=⟨_,rfl⟩
       have hndl:r<nd.length:=by rw[←hnd,hlv.1.li _ (List.getElem_mem hbz)];exact hrR2
       have hx5:=(gX (by rw[List.append_assoc]at kn;exact kn)).2
       refine Qh ?_
       try simp only[go_sem]
       refine Qdm (fun e2 H2=>∃(os:List OBlk),PhS q (fun j=>R-(r+1)+if j∈fs.take (i+1)then 1 else 0) os∧Kn H H2 [] ((XL++[(zb,.vec 5 (os.map OBlk.row))])++os.flatMap OBlk.lg)∧
        lk 1 e2=.c (.pp [.int .i64 q.params,.int .i64 q.regs,.sl false 5 (Qm q.blocks)])∧lk 2 e2=.c (.ptr x2 0)∧lk 3 e2=.c (.ptr x3 0)∧lk 4 e2=.c (.sl false 1 (Q6x q.blocks.length (nxN (gnx q)) q.blocks.length))∧lk 5 e2=.c (.ptr x5 0)∧lk 6 e2=.c (.sl false 1 (Qig q))∧lk 7 e2=.c (.int .i64 r)∧
        lk 10 e2=.c (.sl false 1 (Q5 fs))∧lk 11 e2=.c (.int .i64 i)) ?_ ?_
       ·intro Q hnr _ _
        refine Qc ?_
        refine Q4 ?_
        refine Qal ?_
        simp only[go_sem,l1,l2,l3,l4,l5,l6,l7,l10,l11,hx5,hlt,Qw,Qad _ _ hlt,hfg,hbz,Qape,Qaio _ _ hbz,hnd,hndl,Qt,Q0 _ _ hndl]
        refine Qg (Qe rfl ?_ ?_)
        ·intro _
         refine Qr ?_
         simp only[go_sem]
         refine hnr _ _ ⟨os,hS.up fun j=>?_,kn,rfl,rfl,rfl,rfl,rfl,rfl,rfl,rfl,rfl⟩
         show _+_≤_+_
         by_cases hj:j∈fs.take i
         ·rw[if_pos hj,if_pos ((htk j).2 (.inl hj))];exact Nat.le_refl _
         ·rw[if_neg hj];omega
        ·intro _
         refine Qh ?_
         try simp only[go_sem]
         refine Qa ?_
         simp only[go_sem]
         intro x12 hx12 H14 h14
         have kn:=kn.al hx12 h14
         have hx12:H14 x12=.st [.int .i64 0,.sl true 1 []]:=(kn.get (x12,.st [.int .i64 0,.sl true 1 []]) (by simp)).1
         simp only[go_sem,Qx0,hx12]
         intro H15 h15
         have kn:Kn H H15 [] (([(x12,.st [.int .i64 r,.sl true 1 []])]++((XL++[(zb,.vec 5 (os.map OBlk.row))])++os.flatMap OBlk.lg))++[]):=by
          rw[List.append_nil]
          exact (kn.perm List.perm_append_comm).stL 0 rfl h15
         refine Q4 ?_
         refine Qal ?_
         simp only[go_sem,hlt,Qw,Qad _ _ hlt,hfg]
         refine Qe1 (nx:=gnx q) (.mk' _ _ _ _) rfl (Qht H15 q false).x fun H16 hu=>?_
         have kn:=kn.call0 hu
         rw[Qk]
         have hpl:=Qcm (gnx q) (b:Int) q.blocks.length
         obtain⟨np,hnp⟩:∃np,(Q8 (gnx q) (b:Int) q.blocks.length).length=np:=⟨_,rfl⟩
         rw[hnp]at hpl
         simp only[go_sem,Qx1,Qd,hnp]
         try intro _
         refine Qg (Qc (Qs (fun m4 e1 H1=>∃(j:Nat) (t:C) (Lg:List (Nat×Obj)),m4=np-j∧j≤np∧Gr Lg 1 (Qf (List.replicate j (r:Int))) t∧Kn H H1 [] (([(x12,.st [.int .i64 r,t])]++((XL++[(zb,.vec 5 (os.map OBlk.row))])++os.flatMap OBlk.lg))++Lg)∧
          lk 1 e1=.c (.pp [.int .i64 q.params,.int .i64 q.regs,.sl false 5 (Qm q.blocks)])∧lk 2 e1=.c (.ptr x2 0)∧lk 3 e1=.c (.ptr x3 0)∧lk 4 e1=.c (.sl false 1 (Q6x q.blocks.length (nxN (gnx q)) q.blocks.length))∧lk 5 e1=.c (.ptr x5 0)∧lk 6 e1=.c (.sl false 1 (Qig q))∧lk 7 e1=.c (.int .i64 r)∧
          lk 10 e1=.c (.sl false 1 (Q5 fs))∧lk 11 e1=.c (.int .i64 i)∧lk 12 e1=.c (.ptr x12 0)∧lk 85 e1=.c (.int .i64 np)∧lk 86 e1=.c (.int .i64 j)) np ?_ ?_))
         ·exact⟨0,_,[],by omega,by omega,.nil 1,kn,rfl,rfl,rfl,rfl,rfl,rfl,rfl,rfl,rfl,rfl,rfl,rfl⟩
         ·clear kn hx12 hx5 l1 l2 l3 l4 l5 l6 l7 l10 l11
          rintro m4 e5 H17 ⟨j,t,Lg,hm4,hj,hgt,kn,l1,l2,l3,l4,l5,l6,l7,l10,l11,l12,l85,l86⟩
          have htw:=hgt.isOw
          have hx12:=kn.l 0 rfl
          refine Qa ?_
          simp only[go_sem,l1,l2,l3,l4,l5,l6,l7,l10,l11,l12,l85,l86]
          refine Qg (Qe rfl ?_ ?_)
          ·intro hc3
           have hlt3:j<np:=by simpa using hc3
           refine Qh ?_
           try simp only[go_sem]
           refine Qg (Qc ?_)
           refine Qq ?_
           simp only[go_sem,hx12,htw]
           refine kn.growR (new:=Qf [(r:Int)]) hgt (.mk' _ _ _ _) (Qu _) (by simp only[Qd,LIM,List.length_cons,List.length_nil,List.length_replicate];omega) fun t2 Lg2 H18 hgt2 ht2 kn=>?_
           have hx12:=kn.l 0 rfl
           simp only[go_sem,Qx2,hx12,ht2]
           intro H19 h19
           have kn:=kn.stL 0 rfl h19
           refine Qq ?_
           simp only[go_sem]
           refine⟨Qo (by omega) (by omega),?_⟩
           show ∃m,_
           refine⟨np-(j+1),by omega,j+1,t2,Lg2,rfl,by omega,?_,kn,rfl,rfl,rfl,rfl,rfl,rfl,rfl,rfl,rfl,rfl,rfl,by simp[lk]⟩
           rw[List.replicate_succ',Qcf];exact hgt2
          ·intro hc3
           have hje:j=np:=by have:np≤j:=(by simpa using hc3);omega
           subst hje
           refine Qr ?_
           simp only[go_sem,X.next]
           have hbo:b<os.length:=by rw[hS.n,hn];exact hbn
           obtain⟨o,hob⟩:∃o,os[b]=o:=⟨_,rfl⟩
           have hoo:o.ok:=by rw[←hob];exact hS.ok _ (List.getElem_mem hbo)
           obtain⟨Z,hZ⟩:∃Z,(os.eraseIdx b).flatMap OBlk.lg=Z:=⟨_,rfl⟩
           have hflat:(os.flatMap OBlk.lg).Perm (o.lg++Z):=by rw[←hZ,←hob];exact Qdh hbo
           obtain⟨RW,hRW⟩:∃RW,os.map OBlk.row=RW:=⟨_,rfl⟩
           have hRWl:RW.length=n:=by rw[←hRW,List.length_map,hS.n,hn]
           have hRWg:RW.getD b []=[o.pc,o.ic,.int .i64 o.jump,.int .i64 o.on,.vsl o.nx.y 1 0 o.nx.ns.length]:=by
            rw[←hRW,List.getD_eq_getElem?_getD]
            simp only[List.getElem?_map,List.getElem?_eq_getElem hbo,hob,Option.map_some,Option.getD_some]
            exact o.row_eq
           have hRWt:RW.take n=RW:=List.take_of_length_le (by omega)
           have hpw:=hoo.p.isOw
           have hiw:=hoo.i.isOw
           rw[hRW]at kn
           obtain⟨p,hp⟩:∃p:OPhi,p=⟨r,List.replicate j (r:Int),t,Lg⟩:=⟨_,rfl⟩
           have hpok:p.ok:=by
            rw[hp]
            rcases hgt with ⟨h1,h2,h3⟩|⟨y,h1,h2⟩
            ·right
             refine⟨true,?_,h3⟩
             show t=_
             rw[h1,h2]
            ·left
             refine⟨y,?_,h2⟩
             show t=_
             rw[h1,Qd]
           have hpr:p.row=[.int .i64 r,t]:=by rw[hp];rfl
           have kn:Kn H H17 [] (([(zb,.vec 5 RW)]++([(x12,.st p.row)]++(XL++(Z++(o.rst++Lg)))))++o.pl):=kn.perm (Qy fun f hf h0 hc hp'=>by
            have h1:=hp' _ _ hflat
            have h2:=hp' _ _ o.lg_perm
            rw[hpr]
            simp only[hf]at h1 h2⊢;omega)
           have hx3:H17 x3=.st [.int .i64 q.params,.int .i64 q.regs,.vsl zb 5 0 n]:=(kn.get (x3,.st [.int .i64 q.params,.int .i64 q.regs,.vsl zb 5 0 n]) (by rw[←hX];simp)).1
           have hx12:=kn.l 1 rfl
           rw[hpr]at hx12
           have hzb:=kn.l 0 rfl
           refine Qbc ?_
           simp only[go_sem,l1,l2,l3,l4,l5,l6,l7,l10,l11,l12,hx3,hx12,hzb,hRWl,hRWt,hRWg,hlt,Qw,Qad _ _ hlt,hfg,hbn,hpw,hiw,htw,Nat.zero_add,Nat.le_refl]
           intro y hy H18 h18
           have kn:=kn.al hy h18
           have kp:=kn.perm (L':=(([(zb,.vec 5 RW)]++([(x12,.st p.row)]++(XL++(Z++(o.rst++Lg)))))++[(y,.vec 2 [[.int .i64 r,t]])])++o.pl) Qaif
           have hget:=hoo.p.get kp
           have hsl:Slc H18 2 (o.phis.map OPhi.row) o.pc:=⟨hget.1,hoo.p.elemSz,hget.2,hoo.p.lenC⟩
           have hpno:∀w∈o.phis.map OPhi.row,Go.AE.noOw w=true:=fun w hw=>by
            obtain⟨x,hx,rfl⟩:=List.mem_map.1 hw
            exact x.noOw (hoo.a x hx)
           have hpg:Gr [(y,.vec 2 [[.int .i64 r,t]])] 2 [[.int .i64 r,t]] (.vsl y 2 0 1):=.mk _ _ _ rfl
           generalize hyc:C.vsl y 2 0 1=yc at hpg⊢
           have hycw:=hpg.isOw
           have hbq:b<q.blocks.length:=by rw[hn];exact hbn
           have hplen:o.phis.length≤3000:=by
            have h1:=hS.l b hbo hbq
            have h2:=ho.il b hbq
            rw[hob]at h1
            have h3:(R-(r+1)+if b∈fs.take i then 1 else 0)≤R+1:=by split <;> omega
            have h1:o.phis.length≤q.blocks[b].phis.length+(R-(r+1)+if b∈fs.take i then 1 else 0):=h1
            omega
           have hx3:H18 x3=.st [.int .i64 q.params,.int .i64 q.regs,.vsl zb 5 0 n]:=(kn.get (x3,.st [.int .i64 q.params,.int .i64 q.regs,.vsl zb 5 0 n]) (by rw[←hX];simp)).1
           have hzb:H18 zb=.vec 5 RW:=(kn.get (zb,.vec 5 RW) (by simp)).1
           simp only[go_sem,Qx4,hycw,hx3,hzb,hRWl,hRWt,hRWg,hlt,Qw,Qad _ _ hlt,hfg,hbn,hpw,hiw,htw,Nat.zero_add,Nat.le_refl]
           refine kn.growR (new:=o.phis.map OPhi.row) hpg hsl hpno (by simp only[List.length_map,List.length_cons,List.length_nil,LIM];omega) fun t2 Lg2 H19 hg2 ht2 kn=>?_
           have hx3:H19 x3=.st [.int .i64 q.params,.int .i64 q.regs,.vsl zb 5 0 n]:=(kn.get (x3,.st [.int .i64 q.params,.int .i64 q.regs,.vsl zb 5 0 n]) (by rw[←hX];simp)).1
           have hzb:H19 zb=.vec 5 RW:=(kn.get (zb,.vec 5 RW) (by simp)).1
           simp only[go_sem,Qx3,hx3,hzb,hRWl,hRWt,hRWg,hlt,Qw,Qad _ _ hlt,hfg,hbn,hpw,hiw,htw,ht2,Nat.zero_add,Nat.le_refl]
           intro H20 h20
           obtain⟨o',ho'⟩:∃o':OBlk,o'=⟨p::o.phis,t2,Lg2,o.ins,o.ic,o.il,o.jump,o.on,o.nx⟩:=⟨_,rfl⟩
           have hset:RW.set b [t2,o.ic,.int .i64 o.jump,.int .i64 o.on,.vsl o.nx.y 1 0 o.nx.ns.length]=(os.set b o').map OBlk.row:=by rw[←hRW,List.map_set,ho'];rfl
           rw[hset]at h20
           have kn:=kn.stL 0 rfl h20
           have hst:=hS.step hbo hob (k':=fun j=>R-(r+1)+if j∈fs.take (i+1)then 1 else 0) hpok (pc:=t2) (pl:=Lg2) (by rw[List.map_cons,hpr];exact hg2) (by rw[hp];exact (⟨by omega,by omega⟩:(0:Int)≤(r:Int)∧(r:Int)<q.regs)) (fun v hv=>by
            rw[hp]at hv
            rw[List.eq_of_mem_replicate hv]
            exact⟨by omega,by omega⟩) (by rw[hp,hnp];simp) (fun j'=>by
            by_cases hj':j'=b
            ·subst hj';rw[if_pos rfl,if_pos ((htk j').2 (.inr rfl)),if_neg hnotin]
            ·rw[if_neg hj']
             by_cases hj2:j'∈fs.take i
             ·rw[if_pos hj2,if_pos ((htk j').2 (.inl hj2))]
             ·rw[if_neg hj2,if_neg (fun h=>by rcases (htk j').1 h with h|h;exact hj2 h;exact hj' h)])
           rw[←ho']at hst
           refine hnr _ _ ⟨os.set b o',hst,?_,rfl,rfl,rfl,rfl,rfl,rfl,rfl,rfl,rfl⟩
           have hs2:=Qdh (f:=OBlk.lg) (l:=os.set b o') (i:=b) (by rw[List.length_set];exact hbo)
           rw[List.getElem_set_self,List.eraseIdx_set_eq,hZ]at hs2
           have hrst:∀f:List (Nat×Obj)→Nat,(∀a b,f (a++b)=f a+f b)→f o'.rst=f o.rst+f Lg:=fun f hf=>by
            rw[ho']
            simp only[OBlk.rst,List.flatMap_cons,hf]
            have:p.lg=Lg:=by rw[hp]
            rw[this];omega
           have hpl':o'.pl=Lg2:=by rw[ho']
           refine Kn.drop (B:=[(x12,.st p.row)]++o.pl) (kn.perm (Qy fun f hf h0 hc hp'=>?_))
           have h1:=hp' _ _ hs2
           have h2:=hp' _ _ o'.lg_perm
           have h3:=hrst f hf
           rw[hpl']at h2
           show f (([(zb,_)]++([(x12,_)]++(XL++(Z++(o.rst++Lg)))))++o.pl++Lg2)=_
           simp only[hf]at h1 h2 h3⊢;omega
       ·rintro e5 H14 ⟨os,hS,kn,l1,l2,l3,l4,l5,l6,l7,l10,l11⟩
        refine Qq ?_
        simp only[go_sem,l1,l2,l3,l4,l5,l6,l7,l10,l11]
        refine⟨Qo (by omega) (by omega),?_⟩
        show ∃m,_
        exact⟨fs.length-(i+1),by omega,i+1,os,rfl,by omega,hS,kn,rfl,rfl,rfl,rfl,rfl,rfl,rfl,rfl,by simp[lk]⟩
      ·intro hc2
       refine Qr ?_
       simp only[go_sem,X.next]
       refine Qq ?_
       simp only[go_sem,l1,l2,l3,l4,l5,l6,l7]
       refine⟨Qo (by omega) (by omega),?_⟩
       show ∃m,_
       refine⟨r,by omega,r,os,rfl,by omega,hS.up fun j=>?_,kn,rfl,rfl,rfl,rfl,rfl,rfl,rfl⟩
       show _+_≤_
       split <;> omega
  ·intro hc
   have hre:m=0:=by have:¬(0:Int)≤(m:Int)-1:=(by simpa using hc);omega
   subst hre
   refine Qr ?_
   simp only[go_sem,X.next]
   have hx3:H10 x3=.st [.int .i64 q.params,.int .i64 q.regs,.vsl zb 5 0 n]:=(kn.get (x3,.st [.int .i64 q.params,.int .i64 q.regs,.vsl zb 5 0 n]) (by rw[←hX];simp)).1
   rw[←hX]at kn
   have hx2:=kn.l 1 rfl
   refine Qa ?_
   simp only[go_sem,l2,l3,hx3,hx2]
   intro H11 h11
   have kn:=kn.stL 1 rfl h11
   have hx2:=kn.l 1 rfl
   refine Qj ?_
   simp only[go_sem,Q6,Qab,Qao7,List.mem_singleton,forall_eq,RS.op,hx2]
   have hheld:Held H11 (un H) (os.flatMap OBlk.lg):=fun p hp=>⟨(kn.get p (by simp only[List.set,List.cons_append,List.nil_append,List.append_assoc,List.mem_cons];exact .inr (.inr (.inr (.inr hp))))).1,Qep (kn.loc p (by simp only[List.set,List.cons_append,List.nil_append,List.append_assoc,List.mem_cons];exact .inr (.inr (.inr (.inr hp)))))⟩
   have hz:=kn.l 3 rfl
   have hrows:=OBlks.frzD (H:=H11) (S:=un H) hS.ok hheld
   exact⟨_,FrzL.ag (.cons (Qi rfl) (.cons (Qi rfl) (.cons (hrows.vsl (kn.un 3 rfl) hz (by rw[List.length_map,hS.n,hn])) .nil))),hK ⟨q.params,q.regs,os.map OBlk.d⟩ _ (hS.fin ho fun j hj=>by
    have:=hph _ (List.getElem_mem hj)
    have:=ho.il j hj
    show _+(R-0)≤_
    omega) rfl rfl kn.fin⟩
end Go.AE.Y

namespace Go.AE
def SimC (c c':C):Prop:=c'=c∨∃a b:Int,c=.int .i64 a∧c'=.int .i64 b
inductive SimR:List C→List C→Prop
 |nil:SimR [] []
 |cons {c c':C} {l l':List C} (h:SimC c c') (t:SimR l l'):SimR (c::l) (c'::l')
theorem SimR.same:∀l,SimR l l
 |[]=>.nil
 |c::l=>.cons (.inl rfl) (SimR.same l)
theorem SimC.trans {a b c:C}(h:SimC a b)(k:SimC b c):SimC a c:=by
 rcases h with rfl|⟨x,y,rfl,rfl⟩
 ·exact k
 ·rcases k with rfl|⟨u,v,hu,rfl⟩
  ·exact .inr ⟨x,y,rfl,rfl⟩
  ·exact .inr ⟨x,v,rfl,rfl⟩
theorem SimR.trans {a b c:List C}(h:SimR a b):SimR b c→SimR a c:=by
 induction h generalizing c with
 |nil=>exact id
 |cons h t ih=>
  intro k
  cases k with
  |cons h2 t2=>exact .cons (h.trans h2) (ih t2)
theorem SimC.int {a:Int}{c:C}(h:SimC (.int .i64 a) c):∃b:Int,c=.int .i64 b:=by
 rcases h with rfl|⟨x,y,_,rfl⟩
 ·exact⟨a,rfl⟩
 ·exact⟨y,rfl⟩
theorem SimC.sl {fl:Bool}{sz:Nat}{rows:List (List C)}{c:C}(h:SimC (.sl fl sz rows) c):c=.sl fl sz rows:=by
 rcases h with rfl|⟨x,y,h,_⟩
 ·rfl
 ·simp at h
theorem SimC.vsl {l sz st n:Nat}{c:C}(h:SimC (.vsl l sz st n) c):c=.vsl l sz st n:=by
 rcases h with rfl|⟨x,y,h,_⟩
 ·rfl
 ·simp at h
def SimO (X:Nat→Prop)(o o':Obj):Prop:=∃sz rows rows',o=.vec sz rows∧o'=.vec sz rows'∧rows'.length=rows.length∧∀r,r<rows.length→SimR (rows.getD r []) (rows'.getD r [])∧(X r→rows'.getD r []=rows.getD r [])
variable {X X':Nat→Prop}{o o':Obj}
theorem SimO.same (sz:Nat)(rows:List (List C)):SimO X (.vec sz rows) (.vec sz rows):=⟨sz,rows,rows,rfl,rfl,rfl,fun r _=>⟨.same _,fun _=>rfl⟩⟩
theorem SimO.mono (h:SimO X o o')(hX:∀r,X' r→X r):SimO X' o o':=by
 obtain⟨sz,rows,rows',h1,h2,h3,h4⟩:=h
 exact⟨sz,rows,rows',h1,h2,h3,fun r hr=>⟨(h4 r hr).1,fun hx=>(h4 r hr).2 (hX r hx)⟩⟩
theorem SimO.get {sz:Nat}{rows:List (List C)}(h:SimO X (.vec sz rows) o'):∃rows',o'=.vec sz rows'∧rows'.length=rows.length∧∀r,r<rows.length→SimR (rows.getD r []) (rows'.getD r [])∧(X r→rows'.getD r []=rows.getD r []):=by
 obtain⟨sz,rows,rows',h1,h2,h3,h4⟩:=h
 cases h1
 exact⟨rows',h2,h3,h4⟩
theorem SimO.set {sz:Nat}{rows rows':List (List C)}(h:SimO X (.vec sz rows) (.vec sz rows')){r:Nat}{new:List C}(hr:r<rows.length)(hs:SimR (rows.getD r []) new)(hX:∀r',r'≠r→X' r'→X r')(hn:¬X' r) :
  SimO X' (.vec sz rows) (.vec sz (rows'.set r new)):=by
 obtain⟨rows2,h2,h3,h4⟩:=h.get
 cases h2
 refine⟨sz,rows,_,rfl,rfl,by rw[List.length_set];exact h3,fun r' hr'=>?_⟩
 by_cases e:r'=r
 ·subst e
  have:(rows'.set r' new).getD r' []=new:=by rw[List.getD_eq_getElem?_getD,List.getElem?_set_self (by omega)];rfl
  rw[this];exact⟨hs,fun hx=>absurd hx hn⟩
 ·have:(rows'.set r new).getD r' []=rows'.getD r' []:=by rw[List.getD_eq_getElem?_getD,List.getElem?_set_ne (fun h=>e h.symm),←List.getD_eq_getElem?_getD]
  rw[this]
  exact⟨(h4 r' hr').1,fun hx=>(h4 r' hr').2 (hX r' e hx)⟩
def Ty (LG:List (Nat×Obj))(F:Heap)(E0:List (Nat×Obj))(X:Nat→Nat→Prop)(H:Heap)(L:List (Nat×Obj)):Prop:=
 ∃E1:List (Nat×Obj),E1.map Prod.fst=LG.map Prod.fst∧(∀p∈LG,∀ob,(p.1,ob)∈E1→SimO (X p.1) p.2 ob)∧Kn F H (E0++E1) L
namespace Ty
variable {LG E0 L A N:List (Nat×Obj)}{F H H':Heap}{X X':Nat→Nat→Prop}{m:Nat}{o ob:Obj}
theorem nodup (t:Ty LG F E0 X H L):(LG.map Prod.fst).Nodup:=by
 obtain⟨E1,h1,h2,kn⟩:=t
 have:=kn.dE
 rw[List.map_append]at this
 rw[←h1];exact (List.nodup_append.1 this).2.1
theorem get (t:Ty LG F E0 X H L)(hm:(m,o)∈LG):SimO (X m) o (H m):=by
 obtain⟨E1,h1,h2,kn⟩:=t
 have h3:m∈E1.map Prod.fst:=by rw[h1];exact Qam hm
 obtain⟨p,hp,he⟩:=List.mem_map.1 h3
 have h4:=(kn.get p (List.mem_append_left _ (List.mem_append_right _ hp))).1
 obtain⟨a,b⟩:=p
 simp only at he h4
 subst he
 rw[h4]
 exact h2 _ hm _ hp
theorem e (t:Ty LG F E0 X H L)(i:Nat){x:Nat}{oo:Obj}(h:E0[i]? = some (x,oo)):H x=oo:=by
 obtain⟨E1,h1,h2,kn⟩:=t
 exact (kn.get (x,oo) (List.mem_append_left _ (List.mem_append_left _ (List.mem_of_getElem? h)))).1
theorem weak (t:Ty LG F E0 X H L)(hX:∀m r,X' m r→X m r):Ty LG F E0 X' H L:=by
 obtain⟨E1,h1,h2,kn⟩:=t
 exact⟨E1,h1,fun p hp ob hob=>(h2 p hp ob hob).mono (hX p.1),kn⟩
theorem st (t:Ty LG F E0 X H L)(hm:(m,o)∈LG)(h:H'=H.set m ob)(hs:SimO (X' m) o ob)(hX:∀m',m'≠m→∀r,X' m' r→X m' r):Ty LG F E0 X' H' L:=by
 have hnd:=t.nodup
 obtain⟨E1,h1,h2,kn⟩:=t
 have h3:m∈E1.map Prod.fst:=by rw[h1];exact Qam hm
 obtain⟨p,hp,he⟩:=List.mem_map.1 h3
 obtain⟨i,hi⟩:=List.getElem?_of_mem hp
 obtain⟨a,b⟩:=p
 simp only at he
 subst he
 have hob:ob≠.none:=by
  obtain⟨_,_,_,_,h,_⟩:=hs
  rw[h];simp
 have hd1:(E1.map Prod.fst).Nodup:=by rw[h1];exact hnd
 have hi':(E0++E1)[E0.length+i]? = some (a,b):=by rw[List.getElem?_append_right (by omega),Nat.add_sub_cancel_left];exact hi
 have k2:=kn.stE (E0.length+i) hi' h hob
 rw[List.set_append_right _ _ (by omega),Nat.add_sub_cancel_left]at k2
 refine⟨E1.set i (a,ob),(Qbv hi).trans h1,fun p hp ob' hob'=>?_,k2⟩
 rcases Qbf hob' with e|⟨j,hj,hj2⟩
 ·have e1:p.1=a:=congrArg Prod.fst e
  have e2:ob'=ob:=congrArg Prod.snd e
  have e3:p.2=o:=by
   obtain⟨i1,g1⟩:=List.getElem?_of_mem hp
   obtain⟨i2,g2⟩:=List.getElem?_of_mem hm
   have:=Qch hnd g1 g2 e1
   subst this
   rw[g1]at g2
   rw[Option.some.inj g2]
  rw[e1,e2,e3];exact hs
 ·have hne:p.1≠a:=fun hh=>hj (Qch hd1 hj2 hi hh)
  exact (h2 p hp ob' (List.mem_of_getElem? hj2)).mono (hX p.1 hne)
theorem stE (t:Ty LG F E0 X H L)(i:Nat){x:Nat}{a b:Obj}(h:E0[i]? = some (x,a))(h1:H'=H.set x b)(hb:b≠.none:=by nofun):Ty LG F (E0.set i (x,b)) X H' L:=by
 obtain⟨E1,g1,g2,kn⟩:=t
 have hlt:=(List.getElem?_eq_some_iff.1 h).1
 have k2:=kn.stE (o:=a) i (by rw[List.getElem?_append_left hlt];exact h) h1 hb
 rw[List.set_append_left _ _ hlt]at k2
 exact⟨E1,g1,g2,k2⟩
theorem call0 (t:Ty LG F E0 X H L)(hu:Upd H H' []):Ty LG F E0 X H' L:=by
 obtain⟨E1,g1,g2,kn⟩:=t
 exact⟨E1,g1,g2,kn.call0 hu⟩
theorem al (t:Ty LG F E0 X H L){x:Nat}{b:Obj}(hx:H x=.none)(h1:H'=H.set x b)(hb:b≠.none:=by nofun):Ty LG F E0 X H' (L++[(x,b)]):=by
 obtain⟨E1,g1,g2,kn⟩:=t
 exact⟨E1,g1,g2,kn.al hx h1 hb⟩
theorem drop (t:Ty LG F E0 X H (A++N)):Ty LG F E0 X H A:=by
 obtain⟨E1,g1,g2,kn⟩:=t
 exact⟨E1,g1,g2,kn.drop⟩
theorem sub {wl cy c0:Nat}{a b c:Obj}(t:Ty LG F [(wl,a),(c0,b)] X H (L++[(cy,c)])):Ty LG H [(wl,a),(cy,c)] X H []:=by
 obtain⟨E1,g1,g2,kn⟩:=t
 refine⟨E1,g1,g2,Kn.startE (fun p hp=>kn.get p ?_) ?_⟩
 ·rcases List.mem_append.1 hp with hp|hp
  ·rcases List.mem_cons.1 hp with rfl|hp
   ·simp
   ·rcases List.mem_cons.1 hp with rfl|hp
    ·simp
    ·simp at hp
  ·simp[hp]
 ·have hd:=kn.dE
  simp only[List.cons_append,List.nil_append,List.map_cons,List.nodup_cons,List.mem_cons,not_or]at hd⊢
  have hcy:∀p∈[(wl,a),(c0,b)]++E1,p.1≠cy:=fun p hp hh=>kn.ext p hp (hh▸kn.loc (cy,c) (by simp))
  refine⟨⟨hcy (wl,a) (by simp),hd.1.2⟩,fun hh=>?_,hd.2.2⟩
  obtain⟨p,hp,he⟩:=List.mem_map.1 hh
  exact hcy p (List.mem_append_right _ hp) he
theorem ret {wl cy c0:Nat}{a b c a' c':Obj}(t:Ty LG F [(wl,a),(c0,b)] X H (L++[(cy,c)]))(t2:Ty LG H [(wl,a'),(cy,c')] X' H' []):Ty LG F [(wl,a'),(c0,b)] X' H' L:=by
 obtain⟨E1,g1,g2,kn⟩:=t
 obtain⟨E2,k1,k2,kn2⟩:=t2
 have hu:=kn2.upd
 have hne:∀p∈[(wl,a'),(cy,c')]++E2,p.2≠.none:=fun p hp=>(kn2.get p (List.mem_append_left _ hp)).2
 have hfst:E2.map Prod.fst=E1.map Prod.fst:=k1.trans g1.symm
 have hd:=kn.dE
 have hdL:=kn.dL
 rw[List.map_append]at hdL
 have hcy:∀p∈[(wl,a),(c0,b)]++E1,p.1≠cy:=fun p hp hh=>kn.ext p hp (hh▸kn.loc (cy,c) (by simp))
 have hk:Kn F H' ([(wl,a'),(c0,b)]++E2) (L++[(cy,c')]):=by
  refine kn.callg hu (by simp[hfst]) (by simp) (fun p hp=>?_) (fun u hu'=>?_)
  ·rcases List.mem_append.1 hp with hp|hp
   ·rcases List.mem_append.1 hp with hp|hp
    ·rcases List.mem_cons.1 hp with rfl|hp
     ·exact⟨hne _ (by simp),.inl (by simp)⟩
     ·simp only[List.mem_singleton]at hp
      subst hp
      have h0:(c0,b)∈([(wl,a),(c0,b)]++E1)++(L++[(cy,c)]):=by simp
      refine⟨(kn.get _ h0).2,.inr ⟨h0,?_⟩⟩
      simp only[List.cons_append,List.nil_append,List.map_cons,List.nodup_cons,List.mem_cons,not_or]at hd⊢
      refine⟨fun h=>hd.1.1 h.symm,hcy (c0,b) (by simp),?_⟩
      rw[hfst];exact hd.2.1
    ·exact⟨hne p (List.mem_append_right _ hp),.inl (List.mem_append_right _ hp)⟩
   ·rcases List.mem_append.1 hp with hp|hp
    ·have h0:p∈([(wl,a),(c0,b)]++E1)++(L++[(cy,c)]):=by simp[hp]
     refine⟨(kn.get _ h0).2,.inr ⟨h0,fun hh=>?_⟩⟩
     have hpf:F p.1=.none:=kn.loc p (List.mem_append_left _ hp)
     simp only[List.cons_append,List.nil_append,List.map_cons,List.mem_cons]at hh
     rcases hh with hh|hh|hh
     ·exact kn.ext (wl,a) (by simp) (hh▸hpf)
     ·exact (List.nodup_append.1 hdL).2.2 _ (Qam hp) cy (by simp) hh
     ·rw[hfst]at hh
      obtain⟨p',hp',he⟩:=List.mem_map.1 hh
      exact kn.ext p' (List.mem_append_right _ hp') (he▸hpf)
    ·simp only[List.mem_singleton]at hp
     subst hp
     exact⟨hne _ (by simp),.inl (by simp)⟩
  ·rcases List.mem_append.1 hu' with h|h
   ·rcases List.mem_cons.1 h with rfl|h
    ·left;simp
    ·simp only[List.mem_singleton]at h
     subst h
     right;simp
   ·left
    rw[List.map_append,List.mem_append,←hfst]
    exact .inr (Qam h)
 exact⟨E2,k1,k2,hk.drop⟩
end Ty
end Go.AE

namespace Go.AE.Y
variable {H H' F:Heap}{q:CodeD}{os:List OBlk}{zb wl cy R n:Nat}{ids:List Int}{U:Nat→Prop}{X X':Nat→Nat→Prop}{nx:Int}{cs:List Int}{o:OBlk}{b x:Nat}
def LGo (os:List OBlk)(zb:Nat):List (Nat×Obj):=os.flatMap OBlk.lg++[(zb,.vec 5 (os.map OBlk.row))]
def OBlk.inN (o:OBlk):List (Nat×Obj):=o.ins.flatMap OIns.lg++o.il
def OBlk.phN (o:OBlk):List (Nat×Obj):=o.phis.flatMap OPhi.lg++o.pl
def XU (os:List OBlk)(zb:Nat)(U:Nat→Prop)(m r:Nat):Prop:=(∃x,∃h:x<os.length,m=os[x].nx.y)∨∃x,∃h:x<os.length,U x∧((m=zb∧r=x)∨∃p∈os[x].inN,m=p.1)
def XP (o:OBlk)(zb b:Nat)(j:Bool)(i k m r:Nat):Prop:=(j=true∧m=zb∧r=b)∨(∃p∈o.il,m=p.1∧i≤r)∨∃i',∃h:i'<o.ins.length,m=o.ins[i'].a.y∧(i<i'∨(i=i'∧k≤r))
theorem Q7i {α:Type}{f:α→List (Nat×Obj)}:∀{l:List α},((l.flatMap f).map Prod.fst).Nodup→∀{i j:Nat} (hi:i<l.length) (hj:j<l.length),i≠j→∀p∈f l[i],∀p'∈f l[j],p.1≠p'.1
 |[],_,i,j,hi,_,_=>by simp at hi
 |x::l,hd,i,j,hi,hj,hij=>by
  rw[List.flatMap_cons,List.map_append]at hd
  obtain⟨d1,d2,d3⟩:=List.nodup_append.1 hd
  intro p hp p' hp'
  cases i with
  |zero=>
   cases j with
   |zero=>exact absurd rfl hij
   |succ j=>
    simp only[List.getElem_cons_zero,List.getElem_cons_succ]at hp hp'
    exact d3 _ (Qam hp) _ (Qam (List.mem_flatMap.2 ⟨_,List.getElem_mem _,hp'⟩))
  |succ i=>
   cases j with
   |zero=>
    simp only[List.getElem_cons_zero,List.getElem_cons_succ]at hp hp'
    exact fun h=>d3 _ (Qam hp') _ (Qam (List.mem_flatMap.2 ⟨_,List.getElem_mem _,hp⟩)) h.symm
   |succ j=>
    simp only[List.getElem_cons_succ]at hp hp'
    exact Q7i d2 (by simpa using hi) (by simpa using hj) (by omega) p hp p' hp'
theorem Qa37 {α:Type}{f:α→List (Nat×Obj)}:∀{l:List α},((l.flatMap f).map Prod.fst).Nodup→∀x∈l,((f x).map Prod.fst).Nodup
 |[],_,x,h=>by simp at h
 |y::l,hd,x,h=>by
  rw[List.flatMap_cons,List.map_append]at hd
  obtain⟨d1,d2,d3⟩:=List.nodup_append.1 hd
  rcases List.mem_cons.1 h with rfl|h
  ·exact d1
  ·exact Qa37 d2 x h
structure BlkN (o:OBlk):Prop where
 pn:∀p∈o.phN,p.1≠o.nx.y
 inn:∀p∈o.inN,p.1≠o.nx.y
 pi:∀p∈o.phN,∀p'∈o.inN,p.1≠p'.1
 ii:∀p∈o.ins.flatMap OIns.lg,∀p'∈o.il,p.1≠p'.1
 ij:∀i j (hi:i<o.ins.length) (hj:j<o.ins.length),i≠j→o.ins[i].a.y≠o.ins[j].a.y
theorem Qbia (h:(o.lg.map Prod.fst).Nodup):BlkN o:=by
 have e:o.lg=o.nx.lg++(o.phN++o.inN):=by simp only[OBlk.lg,OBlk.phN,OBlk.inN,List.append_assoc]
 rw[e,List.map_append,List.map_append]at h
 obtain⟨_,d2,d3⟩:=List.nodup_append.1 h
 obtain⟨_,e2,e3⟩:=List.nodup_append.1 d2
 rw[OBlk.inN,List.map_append]at e2
 obtain⟨g1,_,g3⟩:=List.nodup_append.1 e2
 have hy:o.nx.y∈o.nx.lg.map Prod.fst:=by simp[OInts.lg]
 refine⟨fun p hp hh=>d3 _ hy _ (List.mem_append_left _ (Qam hp)) hh.symm,fun p hp hh=>d3 _ hy _ (List.mem_append_right _ (Qam hp)) hh.symm,fun p hp p' hp'=>e3 _ (Qam hp) _ (Qam hp'),
  fun p hp p' hp'=>g3 _ (Qam hp) _ (Qam hp'),fun i j hi hj hij=>?_⟩
 exact Q7i g1 hi hj hij (o.ins[i].a.y,.vec 1 (Qf o.ins[i].a.ns)) (by simp[OIns.lg,OInts.lg]) (o.ins[j].a.y,.vec 1 (Qf o.ins[j].a.ns)) (by simp[OIns.lg,OInts.lg])
def Apart (os:List OBlk)(zb:Nat):Prop:=((LGo os zb).map Prod.fst).Nodup
theorem Apart.zbn (h:Apart os zb)(hx:x<os.length){p:Nat×Obj}(hp:p∈os[x].lg):p.1≠zb:=by
 rw[Apart,LGo,List.map_append]at h
 exact (List.nodup_append.1 h).2.2 _ (Qam (List.mem_flatMap.2 ⟨_,List.getElem_mem hx,hp⟩)) zb (by simp)
theorem Apart.same (h:Apart os zb){x y:Nat}(hx:x<os.length)(hy:y<os.length){p p':Nat×Obj}(hp:p∈os[x].lg)(hp':p'∈os[y].lg)(he:p.1=p'.1):x=y:=by
 rw[Apart,LGo,List.map_append]at h
 by_cases hxy:x=y
 ·exact hxy
 ·exact absurd he (Q7i (List.nodup_append.1 h).1 hx hy hxy p hp p' hp')
theorem Apart.blk (h:Apart os zb)(hx:x<os.length):BlkN os[x]:=by
 rw[Apart,LGo,List.map_append]at h
 exact Qbia (Qa37 (List.nodup_append.1 h).1 _ (List.getElem_mem hx))
theorem OBlk.nxM (o:OBlk):(o.nx.y,Obj.vec 1 (Qf o.nx.ns))∈o.lg:=by simp[OBlk.lg,OInts.lg]
theorem OBlk.phM {p:Nat×Obj}(h:p∈o.phN):p∈o.lg:=by
 simp only[OBlk.phN,OBlk.lg,List.mem_append]at h⊢
 rcases h with h|h
 ·exact .inr (.inl h)
 ·exact .inr (.inr (.inl h))
theorem OBlk.inM {p:Nat×Obj}(h:p∈o.inN):p∈o.lg:=by
 simp only[OBlk.inN,OBlk.lg,List.mem_append]at h⊢
 exact .inr (.inr (.inr h))
theorem OBlk.aM (o:OBlk){i:Nat}(h:i<o.ins.length):(o.ins[i].a.y,Obj.vec 1 (Qf o.ins[i].a.ns))∈o.ins.flatMap OIns.lg:=List.mem_flatMap.2 ⟨_,List.getElem_mem h,by simp[OIns.lg,OInts.lg]⟩
theorem LGo.of {p:Nat×Obj}(hx:x<os.length)(hp:p∈os[x].lg):p∈LGo os zb:=List.mem_append_left _ (List.mem_flatMap.2 ⟨_,List.getElem_mem hx,hp⟩)
theorem LGo.zbm:(zb,Obj.vec 5 (os.map OBlk.row))∈LGo os zb:=List.mem_append_right _ (by simp)
theorem Apart.ph (h:Apart os zb)(hx:x<os.length){p:Nat×Obj}(hp:p∈os[x].phN)(r:Nat):¬XU os zb U p.1 r:=by
 rintro (⟨y,hy,he⟩|⟨y,hy,_,he⟩)
 ·have:=h.same hx hy (OBlk.phM hp) os[y].nxM he
  subst this
  exact (h.blk hx).pn p hp he
 ·rcases he with ⟨he,_⟩|⟨p',hp',he⟩
  ·exact h.zbn hx (OBlk.phM hp) he
  ·have:=h.same hx hy (OBlk.phM hp) (OBlk.inM hp') he
   subst this
   exact (h.blk hx).pi p hp p' hp' he
theorem Apart.phP (h:Apart os zb)(hx:x<os.length)(hb:b<os.length){p:Nat×Obj}(hp:p∈os[x].phN)(j:Bool)(i k r:Nat):¬XP os[b] zb b j i k p.1 r:=by
 rintro (⟨_,he,_⟩|⟨p',hp',he,_⟩|⟨i',hi',he,_⟩)
 ·exact h.zbn hx (OBlk.phM hp) he
 ·have hp2:p'∈os[b].inN:=List.mem_append_right _ hp'
  have:=h.same hx hb (OBlk.phM hp) (OBlk.inM hp2) he
  subst this
  exact (h.blk hx).pi p hp p' hp2 he
 ·have hp2:(os[b].ins[i'].a.y,Obj.vec 1 (Qf os[b].ins[i'].a.ns))∈os[b].inN:=List.mem_append_left _ (os[b].aM hi')
  have:=h.same hx hb (OBlk.phM hp) (OBlk.inM hp2) he
  subst this
  exact (h.blk hx).pi p hp _ hp2 he
theorem Apart.inU (h:Apart os zb)(hb:b<os.length){p:Nat×Obj}(hp:p∈os[b].inN)(hU:¬U b)(r:Nat):¬XU os zb U p.1 r:=by
 rintro (⟨y,hy,he⟩|⟨y,hy,hUy,he⟩)
 ·have:=h.same hb hy (OBlk.inM hp) os[y].nxM he
  subst this
  exact (h.blk hb).inn p hp he
 ·rcases he with ⟨he,_⟩|⟨p',hp',he⟩
  ·exact h.zbn hb (OBlk.inM hp) he
  ·have:=h.same hb hy (OBlk.inM hp) (OBlk.inM hp') he
   subst this
   exact hU hUy
theorem Apart.zbU (h:Apart os zb)(hU:¬U b):¬XU os zb U zb b:=by
 rintro (⟨y,hy,he⟩|⟨y,hy,hUy,he⟩)
 ·exact h.zbn hy os[y].nxM he.symm
 ·rcases he with ⟨_,he⟩|⟨p',hp',he⟩
  ·subst he;exact hU hUy
  ·exact h.zbn hy (OBlk.inM hp') he.symm
theorem Apart.zbP (h:Apart os zb)(hb:b<os.length)(i k r:Nat):¬XP os[b] zb b false i k zb r:=by
 rintro (⟨h0,_⟩|⟨p',hp',he,_⟩|⟨i',hi',he,_⟩)
 ·simp at h0
 ·exact h.zbn hb (OBlk.inM (List.mem_append_right _ hp')) he.symm
 ·exact h.zbn hb (OBlk.inM (List.mem_append_left _ (os[b].aM hi'))) he.symm
theorem XP.init {U':Nat→Prop}{m r:Nat}{j:Bool}(h:XU os zb U m r)(hb:b<os.length)(hj:j=true)(hU:∀x,U x→x≠b→U' x):XU os zb U' m r∨XP os[b] zb b j 0 0 m r:=by
 rcases h with h|⟨x,hx,hUx,he⟩
 ·exact .inl (.inl h)
 ·by_cases hxb:x=b
  ·subst hxb
   right
   rcases he with ⟨e1,e2⟩|⟨p,hp,e⟩
   ·exact .inl ⟨hj,e1,e2⟩
   ·rcases List.mem_append.1 hp with hp|hp
    ·obtain⟨y,hy,hp2⟩:=List.mem_flatMap.1 hp
     obtain⟨i,hi,rfl⟩:=List.mem_iff_getElem.1 hy
     simp only[OIns.lg,OInts.lg,List.mem_singleton]at hp2
     refine .inr (.inr ⟨i,hi,by rw[e,hp2],?_⟩)
     by_cases h0:i=0
     ·exact .inr ⟨h0.symm,Nat.zero_le _⟩
     ·exact .inl (by omega)
    ·exact .inr (.inl ⟨p,hp,e,Nat.zero_le _⟩)
  ·exact .inl (.inr ⟨x,hx,hU x hUx hxb,he⟩)
structure NC (q:CodeD)(os:List OBlk)(zb R n:Nat)(ids:List Int):Prop where
 ok:q.ok
 hn:q.blocks.length=n
 hR:q.regs.toNat=R
 l:os.length=n
 d:∀x (h:x<os.length) (h':x<q.blocks.length),os[x].d=q.blocks[x]
 bo:∀b∈os,b.ok
 ow:∀b∈os,∀p∈b.phis,p.own
 t:Tree n ids (depL n (nxN (gnx q)))
def wO (q:CodeD)(ids:List Int)(zb n:Nat)(nx:Int):Obj:=.st [.int .i64 q.params,.int .i64 q.regs,.sl false 5 (Qm q.blocks),.int .i64 q.params,.int .i64 q.regs,.vsl zb 5 0 n,.sl false 1 (Qf ids),.int .i64 nx]
abbrev TT (q:CodeD)(os:List OBlk)(zb n wl cy:Nat)(ids:List Int)(F:Heap)(nx:Int)(cs:List Int)(X:Nat→Nat→Prop)(H:Heap):Prop:=Ty (LGo os zb) F [(wl,wO q ids zb n nx),(cy,.vec 1 (Qf cs))] X H []
theorem Qbbs (hs:SimO (X zb) (.vec 5 (os.map OBlk.row)) (H zb))(c:NC q os zb R n ids)(hx:x<n)(hxl:x<os.length)(ho:os[x]=o) :
  ∃RW j on,H zb=.vec 5 RW∧RW.length=n∧RW.take n=RW∧RW.getD x []=[o.pc,o.ic,.int .i64 j,.int .i64 on,.vsl o.nx.y 1 0 o.nx.ns.length]∧(X zb x→j=o.jump∧on=o.on)∧SimO (X zb) (.vec 5 (os.map OBlk.row)) (.vec 5 RW):=by
 subst ho
 obtain⟨RW,h1,h2,h3⟩:=hs.get
 rw[h1]at hs
 rw[List.length_map,c.l]at h2
 have hg:(os.map OBlk.row).getD x []=os[x].row:=by simp[List.getD_eq_getElem?_getD,hxl]
 obtain⟨h4,h5⟩:=h3 x (by rw[List.length_map];exact hxl)
 rw[hg]at h4 h5
 have hok:=c.bo _ (List.getElem_mem hxl)
 have hpc:∀c',SimC os[x].pc c'→c'=os[x].pc:=fun c' h=>by
  rcases hok.p with ⟨e,_⟩|⟨y,e,_⟩
  ·rw[e]at h⊢;exact h.sl
  ·rw[e]at h⊢;exact h.vsl
 have hic:∀c',SimC os[x].ic c'→c'=os[x].ic:=fun c' h=>by
  rcases hok.i with ⟨e,_⟩|⟨y,e,_⟩
  ·rw[e]at h⊢;exact h.sl
  ·rw[e]at h⊢;exact h.vsl
 generalize hR:RW.getD x []=row at h4 h5
 rw[OBlk.row_eq]at h4 h5
 cases h4 with
 |cons a1 t1=>cases t1 with
  |cons a2 t2=>cases t2 with
   |cons a3 t3=>cases t3 with
    |cons a4 t4=>cases t4 with
     |cons a5 t5=>cases t5 with
      |nil=>
       have e1:=hpc _ a1
       have e2:=hic _ a2
       obtain⟨j,e3⟩:=a3.int
       obtain⟨on,e4⟩:=a4.int
       have e5:=a5.vsl
       subst e1;subst e2;subst e3;subst e4;subst e5
       refine⟨RW,j,on,h1,h2,List.take_of_length_le (by omega),hR,fun hX=>?_,hs⟩
       have:=h5 hX
       simp only[List.cons.injEq,C.int.injEq,true_and]at this
       exact⟨this.1,this.2.1⟩
theorem Q9a (t:TT q os zb n wl cy ids F nx cs X H)(c:NC q os zb R n ids)(hx:x<n)(hxl:x<os.length)(ho:os[x]=o) :
  ∃RW j on,H zb=.vec 5 RW∧RW.length=n∧RW.take n=RW∧RW.getD x []=[o.pc,o.ic,.int .i64 j,.int .i64 on,.vsl o.nx.y 1 0 o.nx.ns.length]∧(X zb x→j=o.jump∧on=o.on)∧SimO (X zb) (.vec 5 (os.map OBlk.row)) (.vec 5 RW):=Qbbs (t.get LGo.zbm) c hx hxl ho
theorem Qa4t {m:Nat}{ns:List Int}(hs:SimO (X m) (.vec 1 (Qf ns)) (H m)):∃ns':List Int,H m=.vec 1 (Qf ns')∧ns'.length=ns.length∧(∀r,r<ns.length→X m r→ns'.getD r 0=ns.getD r 0)∧SimO (X m) (.vec 1 (Qf ns)) (.vec 1 (Qf ns')):=by
 obtain⟨rows',h1,h2,h3⟩:=hs.get
 rw[Qd]at h2 h3
 have hg:∀r,r<ns.length→∃v:Int,rows'.getD r []=[.int .i64 v]∧(X m r→v=ns.getD r 0):=fun r hr=>by
  obtain⟨h4,h5⟩:=h3 r hr
  rw[Qx _ _ hr]at h4 h5
  generalize hR:rows'.getD r []=row at h4 h5
  cases h4 with
  |cons a1 t1=>cases t1 with
   |nil=>
    obtain⟨v,e⟩:=a1.int
    subst e
    refine⟨v,rfl,fun hX=>?_⟩
    have:=h5 hX
    simpa using this
 obtain⟨f,hf⟩:∃f:Nat→Int,∀r,r<ns.length→rows'.getD r []=[.int .i64 (f r)]∧(X m r→f r=ns.getD r 0):=by
  classical
  exact⟨fun r=>if h:r<ns.length then (hg r h).choose else 0,fun r hr=>by simp only[hr,dite_true];exact (hg r hr).choose_spec⟩
 have hrows:rows'=Qf ((List.range ns.length).map f):=by
  refine List.ext_getElem (by simp[Qf,h2]) fun i h4 h5=>?_
  have hi:i<ns.length:=by omega
  have:=(hf i hi).1
  rw[List.getD_eq_getElem?_getD,List.getElem?_eq_getElem h4]at this
  simp only[Option.getD_some]at this
  rw[this];simp[Qf]
 subst hrows
 rw[h1]at hs
 refine⟨_,h1,by simp,fun r hr hX=>?_,hs⟩
 rw[List.getD_eq_getElem?_getD]
 simp only[List.getElem?_map,List.getElem?_range hr,Option.map_some,Option.getD_some]
 exact (hf r hr).2 hX
theorem Qbhw (t:TT q os zb n wl cy ids F nx cs X H){m:Nat}{ns ns':List Int}(hm:(m,Obj.vec 1 (Qf ns))∈LGo os zb)(hs:SimO (X m) (.vec 1 (Qf ns)) (.vec 1 (Qf ns'))){r:Nat}(hr:r<ns.length)(v:Int)
  (h:H'=H.set m (.vec 1 (Qf (ns'.set r v)))) (hX:∀m' r',¬(m'=m∧r'=r)→X' m' r'→X m' r') (hn:¬X' m r):TT q os zb n wl cy ids F nx cs X' H':=by
 refine Ty.st t hm h ?_ fun m' hm' r'=>hX m' r' fun e=>hm' e.1
 rw[←Qcu]
 refine hs.set (by rw[Qd];exact hr) ?_ (fun r' hr'=>hX m r' fun e=>hr' e.2) hn
 rw[Qx _ _ hr]
 exact .cons (.inr ⟨_,_,rfl,rfl⟩) .nil
theorem Qa6d (t:TT q os zb n wl cy ids F nx cs X H)(c:NC q os zb R n ids)(hxl:x<os.length)(ho:os[x]=o):okSl H o.pc=True∧lenC o.pc=o.phis.length∧o.pc.isOw=false∧o.ic.isOw=false:=by
 subst ho
 have hok:=c.bo _ (List.getElem_mem hxl)
 refine⟨?_,by rw[hok.p.lenC,List.length_map],hok.p.isOw,hok.i.isOw⟩
 rcases hok.p with ⟨e,_⟩|⟨z,e,e2⟩
 ·rw[e];rfl
 ·have hm:(z,Obj.vec 2 (os[x].phis.map OPhi.row))∈LGo os zb:=LGo.of hxl (OBlk.phM (List.mem_append_right _ (by rw[e2];simp)))
  obtain⟨rows',h1,h2,_⟩:=(t.get hm).get
  rw[e]
  simp only[okSl,h1,h2,Nat.zero_add,Nat.le_refl,and_self]
theorem OBlk.phZ (hok:o.ok){k:Nat}(hk:k<o.phis.length):∃z,o.pc=.vsl z 2 0 o.phis.length∧o.pl=[(z,.vec 2 (o.phis.map OPhi.row))]:=by
 rcases hok.p with ⟨_,h,_⟩|⟨y,h1,h2⟩
 ·have:=congrArg List.length h;simp only[List.length_map,List.length_nil]at this;omega
 ·exact⟨y,by rw[h1,List.length_map],h2⟩
theorem OBlk.inZ (hok:o.ok){k:Nat}(hk:k<o.ins.length):∃z,o.ic=.vsl z 4 0 o.ins.length∧o.il=[(z,.vec 4 (o.ins.map OIns.row))]:=by
 rcases hok.i with ⟨_,h,_⟩|⟨y,h1,h2⟩
 ·have:=congrArg List.length h;simp only[List.length_map,List.length_nil]at this;omega
 ·exact⟨y,by rw[h1,List.length_map],h2⟩
theorem rdPh (t:TT q os zb n wl cy ids F nx cs X H)(c:NC q os zb R n ids)(hxl:x<os.length)(ho:os[x]=o){z k:Nat}(hz:o.pl=[(z,.vec 2 (o.phis.map OPhi.row))])(hk:k<o.phis.length) :
  ∃PR to ya,H z=.vec 2 PR∧PR.length=o.phis.length∧PR.take o.phis.length=PR∧PR.getD k []=[.int .i64 to,.vsl ya 1 0 o.phis[k].ns.length]∧(ya,Obj.vec 1 (Qf o.phis[k].ns))∈o.phN∧o.phis[k].ac=.vsl ya 1 0 o.phis[k].ns.length∧SimO (X z) (.vec 2 (o.phis.map OPhi.row)) (.vec 2 PR):=by
 subst ho
 have hm:(z,Obj.vec 2 (os[x].phis.map OPhi.row))∈LGo os zb:=LGo.of hxl (OBlk.phM (List.mem_append_right _ (by rw[hz];simp)))
 have hs:=t.get hm
 obtain⟨PR,h1,h2,h3⟩:=hs.get
 rw[h1]at hs
 rw[List.length_map]at h2 h3
 obtain⟨h4,_⟩:=h3 k hk
 obtain⟨ya,e1,e2⟩:=c.ow _ (List.getElem_mem hxl) _ (List.getElem_mem hk)
 have hg:(os[x].phis.map OPhi.row).getD k []=[.int .i64 os[x].phis[k].to,.vsl ya 1 0 os[x].phis[k].ns.length]:=by
  simp only[List.getD_eq_getElem?_getD,List.getElem?_map,List.getElem?_eq_getElem hk,Option.map_some,Option.getD_some,OPhi.row,e1]
 rw[hg]at h4
 generalize hR:PR.getD k []=row at h4
 cases h4 with
 |cons a1 t1=>cases t1 with
  |cons a2 t2=>cases t2 with
   |nil=>
    obtain⟨v,e⟩:=a1.int
    have e3:=a2.vsl
    subst e;subst e3
    refine⟨PR,v,ya,h1,h2,List.take_of_length_le (by omega),hR,?_,e1,hs⟩
    exact List.mem_append_left _ (List.mem_flatMap.2 ⟨_,List.getElem_mem hk,by rw[e2];simp⟩)
theorem rdIn (t:TT q os zb n wl cy ids F nx cs X H)(hxl:x<os.length)(ho:os[x]=o){z k:Nat}(hz:o.il=[(z,.vec 4 (o.ins.map OIns.row))])(hk:k<o.ins.length)(hX:X z k) :
  ∃IR,H z=.vec 4 IR∧IR.length=o.ins.length∧IR.take o.ins.length=IR∧IR.getD k []=[.int .i64 o.ins[k].op,.int .i64 o.ins[k].to,.vsl o.ins[k].a.y 1 0 o.ins[k].a.ns.length,.int .i64 o.ins[k].n]∧SimO (X z) (.vec 4 (o.ins.map OIns.row)) (.vec 4 IR):=by
 subst ho
 have hm:(z,Obj.vec 4 (os[x].ins.map OIns.row))∈LGo os zb:=LGo.of hxl (OBlk.inM (List.mem_append_right _ (by rw[hz];simp)))
 have hs:=t.get hm
 obtain⟨IR,h1,h2,h3⟩:=hs.get
 rw[h1]at hs
 rw[List.length_map]at h2 h3
 have h4:=(h3 k hk).2 hX
 refine⟨IR,h1,h2,List.take_of_length_le (by omega),?_,hs⟩
 rw[h4]
 simp only[List.getD_eq_getElem?_getD,List.getElem?_map,List.getElem?_eq_getElem hk,Option.map_some,Option.getD_some]
 rfl
theorem Qbmk (t:TT q os zb n wl cy ids F nx cs X H)(c:NC q os zb R n ids)(hxl:x<os.length)(ho:os[x]=o):okSl H o.ic=True∧lenC o.ic=o.ins.length:=by
 subst ho
 have hok:=c.bo _ (List.getElem_mem hxl)
 refine⟨?_,by rw[hok.i.lenC,List.length_map]⟩
 rcases hok.i with ⟨e,_⟩|⟨z,e,e2⟩
 ·rw[e];rfl
 ·have hm:(z,Obj.vec 4 (os[x].ins.map OIns.row))∈LGo os zb:=LGo.of hxl (OBlk.inM (List.mem_append_right _ (by rw[e2];simp)))
  obtain⟨rows',h1,h2,_⟩:=(t.get hm).get
  rw[e]
  simp only[okSl,h1,h2,Nat.zero_add,Nat.le_refl,and_self]
theorem NC.get (c:NC q os zb R n ids)(hb:b<n):∃hl:b<os.length,∃hq:b<q.blocks.length,os[b].d=q.blocks[b]∧os[b].ok∧q.blocks[b].ok q b∧os[b].phis.length≤1200∧os[b].ins.length≤1200:=by
 have hl:b<os.length:=by rw[c.l];exact hb
 have hq:b<q.blocks.length:=by rw[c.hn];exact hb
 have hd:=c.d b hl hq
 have hil:=c.ok.il b hq
 rw[←hd]at hil
 simp only[OBlk.d,List.length_map]at hil
 exact⟨hl,hq,hd,c.bo _ (List.getElem_mem hl),c.ok.bs b hq,hil.2,hil.1⟩
end Go.AE.Y

namespace Go.AE.Y
attribute [local go_sem] cond_true cond_false Bool.not_true Bool.not_false
open Go.Proofs.Tryz
variable {H H' F:Heap}{K:V→Heap→Prop}{q:CodeD}{os:List OBlk}{zb wl cy R n b:Nat}{ids:List Int}{U:Nat→Prop}{Z Z':Nat→Nat→Prop}{nx:Int}{cs:List Int}{o:OBlk}{y:BlkD}{e:Env}{Q:X→Env→Heap→Prop}
theorem Qa4i (hw:H wl=wO q ids zb n nx)(h1:0≤nx)(h2:nx≤2 ^ 40)(hK:∀H',H'=H.set wl (wO q ids zb n (nx+1))→K (.c (.int .i64 nx)) H'):Qv prog Qcr [.c (.ptr wl 0)] H K:=by
 refine Qb Qar Q4w ?_
 rw[wO]at hw
 refine Qa ?_
 simp only[go_sem]
 refine Qa ?_
 simp only[go_sem,hw]
 refine⟨Qo (by omega) (by omega),fun H' h'=>?_⟩
 have hw2:H' wl=wO q ids zb n (nx+1):=by rw[h',Heap.set_same];rfl
 have hK:=hK H' h'
 rw[wO]at hw2
 refine Qa ?_
 simp only[go_sem,hw2]
 try refine⟨Qo (by omega) (by omega),?_⟩
 refine Qj ?_
 simp only[go_sem,Q6,Qab,Qlk,List.mem_singleton,forall_eq,RS.op]
 first|exact hK|(have e:nx+1-1=nx:=(by omega);rw[e];exact hK)
def LK (wl b cy R n zb:Nat)(e:Env):Prop:=lk 0 e=.c (.ptr wl 0)∧lk 1 e=.c (.int .i64 b)∧lk 2 e=.c (.vsl cy 1 0 R)∧lk 6 e=.c (.ep (.vsl zb 5 0 n) 5 b 0)
structure NSt (q:CodeD)(os:List OBlk)(zb n R wl cy:Nat)(ids:List Int)(F:Heap)(nx:Int)(cs:List Int)(Z:Nat→Nat→Prop)(H:Heap):Prop where
 t:TT q os zb n wl cy ids F nx cs Z H
 c:cs.length=R
theorem NSt.w (s:NSt q os zb n R wl cy ids F nx cs Z H):H wl=wO q ids zb n nx:=s.t.e 0 rfl
theorem NSt.cu (s:NSt q os zb n R wl cy ids F nx cs Z H):H cy=.vec 1 (Qf cs):=s.t.e 1 rfl
theorem NSt.ct (s:NSt q os zb n R wl cy ids F nx cs Z H):(Qf cs).take R=Qf cs:=List.take_of_length_le (by rw[Qd];exact Nat.le_of_eq s.c)
theorem NSt.cl (s:NSt q os zb n R wl cy ids F nx cs Z H):(Qf cs).length=R:=by rw[Qd];exact s.c
theorem NSt.setW (s:NSt q os zb n R wl cy ids F nx cs Z H){nx':Int}(h:H'=H.set wl (wO q ids zb n nx')):NSt q os zb n R wl cy ids F nx' cs Z H':=⟨s.t.stE 0 rfl h (by simp[wO]),s.c⟩
theorem NSt.setC (s:NSt q os zb n R wl cy ids F nx cs Z H){i:Nat}{v:Int}(h:H'=H.set cy (.vec 1 (Qf (cs.set i v)))):NSt q os zb n R wl cy ids F nx (cs.set i v) Z H':=⟨s.t.stE 1 rfl h,by rw[List.length_set];exact s.c⟩
theorem NSt.weak (s:NSt q os zb n R wl cy ids F nx cs Z H)(hX:∀m r,Z' m r→Z m r):NSt q os zb n R wl cy ids F nx cs Z' H:=⟨s.t.weak hX,s.c⟩
set_option maxHeartbeats 4000000 in
theorem phA (c:NC q os zb R n ids)(hb:b<n)(hl:b<os.length)(ho:os[b]=o)(hX:∀p∈o.phN,∀r,¬Z p.1 r)(s:NSt q os zb n R wl cy ids F nx cs Z H)(hk:LK wl b cy R n zb e)(h0:0≤nx)(h1:nx+o.phis.length≤2 ^ 40)(hN:o.phis.length≤100000)
  (h:∀e' H',NSt q os zb n R wl cy ids F (nx+o.phis.length) cs Z H'→LK wl b cy R n zb e'→Qae prog Qdf Q e' H'):Qae prog Qg5 Q e H:=by
 obtain⟨l0,l1,l2,l6⟩:=hk
 have hok:=c.bo _ (List.getElem_mem hl)
 rw[ho]at hok
 refine Q4 ?_
 refine Qa ?_
 simp only[go_sem,l0,l1,l2,l6]
 refine Qg (Qc (Qs (fun m e1 H1=>∃i:Nat,m=o.phis.length-i∧i≤o.phis.length∧NSt q os zb n R wl cy ids F (nx+i) cs Z H1∧lk 0 e1=.c (.ptr wl 0)∧lk 1 e1=.c (.int .i64 b)∧lk 2 e1=.c (.vsl cy 1 0 R)∧lk 6 e1=.c (.ep (.vsl zb 5 0 n) 5 b 0)∧lk 7 e1=.c (.int .i64 i)) o.phis.length ?_ ?_))
 ·exact⟨0,by omega,by omega,by simpa using s,rfl,rfl,rfl,rfl,rfl⟩
 ·clear s l0 l1 l2 l6
  rintro m e1 H1 ⟨i,hm,hi,s,l0,l1,l2,l6,l7⟩
  obtain⟨RW,j,on,hzb,hRWl,hRWt,hRWg,_,_⟩:=Q9a s.t c hb hl ho
  obtain⟨hpok,hplen,hpw,hiw⟩:=Qa6d s.t c hl ho
  refine Q4 ?_
  refine Qa ?_
  simp only[go_sem,l0,l1,l2,l6,l7,hzb,hRWl,hRWt,hRWg,hb,hpok,hplen,hpw,hiw,Nat.zero_add,Nat.le_refl]
  try intro _
  refine Qg (Qe rfl ?_ ?_)
  ·intro hc
   have hlt:i<o.phis.length:=by simpa using hc
   obtain⟨z,hpc,hpl⟩:=OBlk.phZ hok hlt
   rw[hpc]at hRWg
   refine Qh ?_
   try simp only[go_sem]
   refine Qg (Qc ?_)
   refine Qbc ?_
   simp only[go_sem,l0,l1,l2,l6,l7,hzb,hRWl,hRWt,hRWg,hb,hiw,Nat.zero_add,Nat.le_refl]
   refine Qa4i s.w (by omega) (by omega) fun H2 h2=>?_
   have s:=s.setW h2
   obtain⟨RW,j,on,hzb,hRWl,hRWt,hRWg,_,_⟩:=Q9a s.t c hb hl ho
   rw[hpc]at hRWg
   obtain⟨PR,to,ya,hz,hPl,hPt,hPg,hya,hac,hsim⟩:=rdPh s.t c hl ho hpl hlt
   simp only[go_sem,Qg6,hzb,hRWl,hRWt,hRWg,hb,hiw,hz,hPl,hPt,hPg,hlt,Nat.zero_add,Nat.le_refl]
   intro H3 h3
   have hzm:(z,Obj.vec 2 (o.phis.map OPhi.row))∈o.phN:=List.mem_append_right _ (by rw[hpl];simp)
   have s:NSt q os zb n R wl cy ids F (nx+i+1) cs Z H3:=⟨Ty.st s.t (LGo.of hl (by rw[ho];exact OBlk.phM hzm)) h3 (hsim.set (by rw[List.length_map];exact hlt) (by
    have hg:(o.phis.map OPhi.row).getD i []=[.int .i64 o.phis[i].to,.vsl ya 1 0 o.phis[i].ns.length]:=by
     simp only[List.getD_eq_getElem?_getD,List.getElem?_map,List.getElem?_eq_getElem hlt,Option.map_some,Option.getD_some,OPhi.row,hac]
    rw[hg]
    exact .cons (.inr ⟨_,_,rfl,rfl⟩) (.cons (.inl rfl) .nil)) (fun r' _ h=>h) (hX _ hzm _)) (fun m' _ r h=>h),s.c⟩
   refine Qq ?_
   simp only[go_sem,l0,l1,l2,l6,l7]
   refine⟨Qo (by omega) (by omega),?_⟩
   show ∃m,_
   exact⟨o.phis.length-(i+1),by omega,i+1,rfl,by omega,by have e:nx+((i+1:Nat):Int)=nx+i+1:=(by omega);rw[e];exact s,rfl,rfl,rfl,rfl,rfl⟩
  ·intro hc
   have hie:i=o.phis.length:=by have:o.phis.length≤i:=(by simpa using hc);omega
   subst hie
   refine Qr ?_
   simp only[go_sem,X.next]
   exact h _ _ s ⟨rfl,rfl,rfl,rfl⟩
set_option maxHeartbeats 4000000 in
theorem phB (c:NC q os zb R n ids)(hb:b<n)(hl:b<os.length)(ho:os[b]=o)(hy:o.d=y)(hq:b<q.blocks.length)(hyq:q.blocks[b]=y)(s:NSt q os zb n R wl cy ids F nx cs Z H)(hk:LK wl b cy R n zb e)(hN:o.phis.length≤100000)
  (h:∀e' H' cs',NSt q os zb n R wl cy ids F nx cs' Z H'→LK wl b cy R n zb e'→Qae prog Qde Q e' H'):Qae prog Qdf Q e H:=by
 obtain⟨l0,l1,l2,l6⟩:=hk
 have hok:=c.bo _ (List.getElem_mem hl)
 rw[ho]at hok
 have hyo:=c.ok.bs b hq
 rw[hyq]at hyo
 have hyl:y.phis.length=o.phis.length:=by rw[←hy];simp[OBlk.d]
 refine Q4 ?_
 refine Qa ?_
 simp only[go_sem,l0,l1,l2,l6]
 refine Qg (Qc (Qs (fun m e1 H1=>∃(i:Nat) (cs:List Int),m=o.phis.length-i∧i≤o.phis.length∧NSt q os zb n R wl cy ids F nx cs Z H1∧lk 0 e1=.c (.ptr wl 0)∧lk 1 e1=.c (.int .i64 b)∧lk 2 e1=.c (.vsl cy 1 0 R)∧lk 6 e1=.c (.ep (.vsl zb 5 0 n) 5 b 0)∧lk 8 e1=.c (.int .i64 i)) o.phis.length ?_ ?_))
 ·exact⟨0,cs,by omega,by omega,s,rfl,rfl,rfl,rfl,rfl⟩
 ·clear s l0 l1 l2 l6
  rintro m e1 H1 ⟨i,cs,hm,hi,s,l0,l1,l2,l6,l8⟩
  obtain⟨RW,j,on,hzb,hRWl,hRWt,hRWg,_,_⟩:=Q9a s.t c hb hl ho
  obtain⟨hpok,hplen,hpw,hiw⟩:=Qa6d s.t c hl ho
  refine Q4 ?_
  refine Qa ?_
  simp only[go_sem,l0,l1,l2,l6,l8,hzb,hRWl,hRWt,hRWg,hb,hpok,hplen,hpw,hiw,Nat.zero_add,Nat.le_refl]
  try intro _
  refine Qg (Qe rfl ?_ ?_)
  ·intro hc
   have hlt:i<o.phis.length:=by simpa using hc
   have hlt2:i<y.phis.length:=by omega
   obtain⟨z,hpc,hpl⟩:=OBlk.phZ hok hlt
   rw[hpc]at hRWg
   obtain⟨PR,to,ya,hz,hPl,hPt,hPg,hya,hac,hsim⟩:=rdPh s.t c hl ho hpl hlt
   have hw:=s.w
   rw[wO]at hw
   have hcu:=s.cu
   have hct:=s.ct
   have hcl:=s.cl
   obtain⟨hv,hvl⟩:=(hyo.pto _ (List.getElem_mem hlt2)).nat
   rw[c.hR]at hvl
   refine Qh ?_
   try simp only[go_sem]
   refine Qg (Qc ?_)
   refine Qbc ?_
   generalize hr:y.phis[i].to.toNat=r at *
   have hrc:r<cs.length:=by rw[s.c];exact hvl
   simp only[go_sem,l0,l1,l2,l6,l8,hw,hzb,hRWl,hRWt,hRWg,hb,hiw,hz,hPl,hPt,hPg,hlt,hq,Qk,Q7 _ _ hq,BlkD.cells,hyq,Q9,hlt2,Qbg _ _ hlt2,PhiD.cells,hv,hvl,hcu,hct,hcl,Qx _ _ hrc,Qcu,Nat.zero_add,Nat.le_refl]
   intro H2 h2
   have s:=s.setC h2
   refine Qq ?_
   simp only[go_sem,l0,l1,l2,l6,l8]
   refine⟨Qo (by omega) (by omega),?_⟩
   show ∃m,_
   exact⟨o.phis.length-(i+1),by omega,i+1,_,rfl,by omega,s,rfl,rfl,rfl,rfl,rfl⟩
  ·intro hc
   refine Qr ?_
   simp only[go_sem,X.next]
   exact h _ _ _ s ⟨rfl,rfl,rfl,rfl⟩
end Go.AE.Y

namespace Go.AE.Y
attribute [local go_sem] cond_true cond_false Bool.not_true Bool.not_false
open Go.Proofs.Tryz
variable {H H' F:Heap}{K:V→Heap→Prop}{q:CodeD}{os:List OBlk}{zb wl cy R n b:Nat}{ids:List Int}{U:Nat→Prop}{Z Z':Nat→Nat→Prop}{nx:Int}{cs:List Int}{o:OBlk}{y:BlkD}{e:Env}{Q:X→Env→Heap→Prop}
def XC (os:List OBlk)(zb:Nat)(U:Nat→Prop)(o:OBlk)(b:Nat)(j:Bool)(i k m r:Nat):Prop:=XU os zb U m r∨XP o zb b j i k m r
theorem XC.stepA {i k m r:Nat}(h:XC os zb U o b true i (k+1) m r):XC os zb U o b true i k m r:=by
 rcases h with h|h|h|⟨i',hi',h1,h2⟩
 ·exact .inl h
 ·exact .inr (.inl h)
 ·exact .inr (.inr (.inl h))
 ·exact .inr (.inr (.inr ⟨i',hi',h1,by omega⟩))
theorem XC.stepI {i k m r:Nat}(h:XC os zb U o b true (i+1) 0 m r):XC os zb U o b true i k m r:=by
 rcases h with h|h|⟨p,hp,h1,h2⟩|⟨i',hi',h1,h2⟩
 ·exact .inl h
 ·exact .inr (.inl h)
 ·exact .inr (.inr (.inl ⟨p,hp,h1,by omega⟩))
 ·exact .inr (.inr (.inr ⟨i',hi',h1,by omega⟩))
theorem XC.notA (ap:Apart os zb)(hl:b<os.length)(ho:os[b]=o)(hU:¬U b){i k:Nat}(hi:i<o.ins.length):¬XC os zb U o b true i (k+1) o.ins[i].a.y k:=by
 subst ho
 have hm:(os[b].ins[i].a.y,Obj.vec 1 (Qf os[b].ins[i].a.ns))∈os[b].inN:=List.mem_append_left _ (os[b].aM hi)
 rintro (h|⟨_,h,_⟩|⟨p,hp,h1,h2⟩|⟨i',hi',h1,h2⟩)
 ·exact ap.inU hl hm hU _ h
 ·exact ap.zbn hl (OBlk.inM hm) h
 ·exact (ap.blk hl).ii _ (os[b].aM hi) p hp h1
 ·by_cases hii:i=i'
  ·subst hii;omega
  ·exact (ap.blk hl).ij i i' hi hi' hii h1
theorem XC.notI (ap:Apart os zb)(hl:b<os.length)(ho:os[b]=o)(hU:¬U b){i z:Nat}{ob:Obj}(hz:(z,ob)∈o.il):¬XC os zb U o b true (i+1) 0 z i:=by
 subst ho
 have hm:(z,ob)∈os[b].inN:=List.mem_append_right _ hz
 rintro (h|⟨_,h,_⟩|⟨p,hp,h1,h2⟩|⟨i',hi',h1,h2⟩)
 ·exact ap.inU hl hm hU _ h
 ·exact ap.zbn hl (OBlk.inM hm) h
 ·omega
 ·exact (ap.blk hl).ii _ (os[b].aM hi') (z,ob) hz h1.symm
set_option maxHeartbeats 8000000 in
theorem phC (c:NC q os zb R n ids)(hb:b<n)(hl:b<os.length)(ho:os[b]=o)(hy:o.d=y)(hq:b<q.blocks.length)(hyq:q.blocks[b]=y)(hU:¬U b)(s:NSt q os zb n R wl cy ids F nx cs (XC os zb U o b true 0 0) H)(hk:LK wl b cy R n zb e)
  (h0:0≤nx) (h1:nx+o.ins.length≤2 ^ 40) (hN:o.ins.length≤100000)
  (h:∀e' H' nx' cs',nx≤nx'→nx'≤nx+o.ins.length→NSt q os zb n R wl cy ids F nx' cs' (XC os zb U o b true o.ins.length 0) H'→LK wl b cy R n zb e'→Qae prog Qdd Q e' H'):Qae prog Qde Q e H:=by
 obtain⟨l0,l1,l2,l6⟩:=hk
 have hok:=c.bo _ (List.getElem_mem hl)
 rw[ho]at hok
 have hyo:=c.ok.bs b hq
 rw[hyq]at hyo
 have ap:Apart os zb:=s.t.nodup
 refine Q4 ?_
 refine Qa ?_
 simp only[go_sem,l0,l1,l2,l6]
 refine Qg (Qc (Qs (fun m e1 H1=>∃(i:Nat) (nx':Int) (cs:List Int),m=o.ins.length-i∧i≤o.ins.length∧nx≤nx'∧nx'≤nx+i∧NSt q os zb n R wl cy ids F nx' cs (XC os zb U o b true i 0) H1∧lk 0 e1=.c (.ptr wl 0)∧lk 1 e1=.c (.int .i64 b)∧lk 2 e1=.c (.vsl cy 1 0 R)∧lk 6 e1=.c (.ep (.vsl zb 5 0 n) 5 b 0)∧lk 9 e1=.c (.int .i64 i)) o.ins.length ?_ ?_))
 ·exact⟨0,nx,cs,by omega,by omega,by omega,by omega,s,rfl,rfl,rfl,rfl,rfl⟩
 ·clear s l0 l1 l2 l6
  rintro m e1 H1 ⟨i,nx',cs,hm,hi,hnx,hnx2,s,l0,l1,l2,l6,l9⟩
  obtain⟨RW,j,on,hzb,hRWl,hRWt,hRWg,_,_⟩:=Q9a s.t c hb hl ho
  obtain⟨_,_,hpw,hiw⟩:=Qa6d s.t c hl ho
  obtain⟨hiok,hilen⟩:=Qbmk s.t c hl ho
  refine Q4 ?_
  refine Qa ?_
  simp only[go_sem,l0,l1,l2,l6,l9,hzb,hRWl,hRWt,hRWg,hb,hiok,hilen,hpw,hiw,Nat.zero_add,Nat.le_refl]
  try intro _
  refine Qg (Qe rfl ?_ ?_)
  ·intro hc
   have hlt:i<o.ins.length:=by simpa using hc
   clear hzb hRWl hRWt hRWg hiok hilen
   obtain⟨z,hic,hil⟩:=OBlk.inZ hok hlt
   have hzm:(z,Obj.vec 4 (o.ins.map OIns.row))∈o.il:=by rw[hil];simp
   obtain⟨x,hx⟩:∃x,o.ins[i]=x:=⟨_,rfl⟩
   have hxm:x.d∈y.ins:=by rw[←hy,←hx];exact List.mem_map.2 ⟨_,List.getElem_mem hlt,rfl⟩
   have hal3:x.a.ns.length≤3:=hyo.al _ hxm
   have hXz:∀k,XC os zb U o b true i k z i:=fun k=>.inr (.inr (.inl ⟨_,hzm,rfl,Nat.le_refl _⟩))
   refine Qh ?_
   try simp only[go_sem]
   refine Qdm (fun e2 H2=>∃(nx2:Int) (cs:List Int),nx'≤nx2∧nx2≤nx'+1∧NSt q os zb n R wl cy ids F nx2 cs (XC os zb U o b true (i+1) 0) H2∧lk 0 e2=.c (.ptr wl 0)∧lk 1 e2=.c (.int .i64 b)∧lk 2 e2=.c (.vsl cy 1 0 R)∧lk 6 e2=.c (.ep (.vsl zb 5 0 n) 5 b 0)∧lk 9 e2=.c (.int .i64 i)) ?_ ?_
   ·intro Q2 hnr _ _
    refine Qc ?_
    refine Q4 ?_
    refine Qa ?_
    simp only[go_sem,l0,l1,l2,l6,l9]
    refine Qg (Qc (Qs (fun m e1 H1=>∃(k:Nat),m=x.a.ns.length-k∧k≤x.a.ns.length∧NSt q os zb n R wl cy ids F nx' cs (XC os zb U o b true i k) H1∧lk 0 e1=.c (.ptr wl 0)∧lk 1 e1=.c (.int .i64 b)∧lk 2 e1=.c (.vsl cy 1 0 R)∧lk 6 e1=.c (.ep (.vsl zb 5 0 n) 5 b 0)∧lk 9 e1=.c (.int .i64 i)∧lk 10 e1=.c (.int .i64 k)) x.a.ns.length ?_ ?_))
    ·exact⟨0,by omega,by omega,s,rfl,rfl,rfl,rfl,rfl,rfl⟩
    ·clear s l0 l1 l2 l6 l9
     rintro m2 e3 H3 ⟨k,hm2,hk2,s,l0,l1,l2,l6,l9,l10⟩
     obtain⟨RW,j,on,hzb,hRWl,hRWt,hRWg,_,_⟩:=Q9a s.t c hb hl ho
     rw[hic]at hRWg
     obtain⟨IR,hz,hIl,hIt,hIg,_⟩:=rdIn s.t hl ho hil hlt (hXz k)
     have hsa:SimO (XC os zb U o b true i k o.ins[i].a.y) (.vec 1 (Qf o.ins[i].a.ns)) (H3 o.ins[i].a.y):=s.t.get (LGo.of hl (by rw[ho];exact OBlk.inM (List.mem_append_left _ (o.aM hlt))))
     obtain⟨ns',hay,hnl,hex,hsim⟩:=Qa4t hsa
     have hnot:=fun k=>XC.notA (k:=k) ap hl ho hU hlt
     have hmem:(o.ins[i].a.y,Obj.vec 1 (Qf o.ins[i].a.ns))∈LGo os zb:=LGo.of hl (by rw[ho];exact OBlk.inM (List.mem_append_left _ (o.aM hlt)))
     rw[hx]at hIg hay hnl hex hsim hnot hmem
     refine Q4 ?_
     refine Qa ?_
     simp only[go_sem,l0,l1,l2,l6,l9,l10,hzb,hRWl,hRWt,hRWg,hb,hpw,hz,hIl,hIt,hIg,hlt,hay,Qd,hnl,Nat.zero_add,Nat.le_refl]
     try intro _
     refine Qg (Qe rfl ?_ ?_)
     ·intro hc2
      have hlt2:k<x.a.ns.length:=by simpa using hc2
      have hlt3:k<ns'.length:=by omega
      have hXk:XC os zb U o b true i k x.a.y k:=.inr (.inr (.inr ⟨i,hlt,by rw[hx],.inr ⟨rfl,Nat.le_refl _⟩⟩))
      have hv0:=hex k hlt2 hXk
      have hvm:x.a.ns.getD k 0∈x.d.args:=Qjb hlt2
      obtain⟨hv,hvl⟩:=(hyo.args _ hxm _ hvm).nat
      rw[c.hR]at hvl
      rw[←hv0]at hv hvl
      have hat:(Qf ns').take x.a.ns.length=Qf ns':=List.take_of_length_le (by rw[Qd];omega)
      have hcu:=s.cu
      have hct:=s.ct
      have hcl:=s.cl
      refine Qh ?_
      try simp only[go_sem]
      refine Qg (Qc ?_)
      refine Qbc ?_
      generalize hr:(ns'.getD k 0).toNat=r at *
      have hrc:r<cs.length:=by rw[s.c];exact hvl
      simp only[go_sem,l0,l1,l2,l6,l9,l10,hzb,hRWl,hRWt,hRWg,hb,hpw,hz,hIl,hIt,hIg,hlt,hay,hat,Qd,hnl,hlt2,Qx _ _ hlt3,hv,hvl,hcu,hct,s.c,Qx _ _ hrc,Qcu,Nat.zero_add,Nat.le_refl]
      intro H4 h4
      have s:NSt q os zb n R wl cy ids F nx' cs (XC os zb U o b true i (k+1)) H4:=⟨Qbhw s.t hmem hsim hlt2 _ h4 (fun m' r' _ hh=>hh.stepA) (hnot k),s.c⟩
      refine Qq ?_
      simp only[go_sem,l0,l1,l2,l6,l9,l10]
      refine⟨Qo (by omega) (by omega),?_⟩
      show ∃m,_
      exact⟨x.a.ns.length-(k+1),by omega,k+1,rfl,by omega,s,rfl,rfl,rfl,rfl,rfl,rfl⟩
     ·intro hc2
      refine Qr ?_
      simp only[go_sem,X.next]
      refine Qa ?_
      simp only[go_sem,l0,l1,l2,l6,l9,l10,hzb,hRWl,hRWt,hRWg,hb,hpw,hz,hIl,hIt,hIg,hlt,Nat.zero_add,Nat.le_refl]
      refine Qoe ?_
      try simp only[go_sem]
      refine Qe rfl ?_ ?_
      ·intro hc3
       obtain⟨hv,hvl⟩:=(hyo.to _ hxm hc3).nat
       rw[c.hR]at hvl
       have hxto:x.d.to=x.to:=rfl
       rw[hxto]at hv hvl
       refine Qa ?_
       simp only[go_sem]
       refine Qa4i s.w (by omega) (by omega) fun H4 h4=>?_
       have s:=s.setW h4
       obtain⟨RW,j,on,hzb,hRWl,hRWt,hRWg,_,_⟩:=Q9a s.t c hb hl ho
       rw[hic]at hRWg
       obtain⟨IR,hz,hIl,hIt,hIg,_⟩:=rdIn s.t hl ho hil hlt (hXz k)
       rw[hx]at hIg
       have hcu:=s.cu
       have hct:=s.ct
       have hcl:=s.cl
       simp only[go_sem,Qfm]
       generalize hr:x.to.toNat=r at *
       have hrc:r<cs.length:=by rw[s.c];exact hvl
       refine Qa ?_
       simp only[go_sem,hzb,hRWl,hRWt,hRWg,hb,hpw,hz,hIl,hIt,hIg,hlt,hv,hvl,hcu,hct,Qd,s.c,Qx _ _ hrc,Qcu,Nat.zero_add,Nat.le_refl]
       intro H5 h5
       have s:=s.setC h5
       obtain⟨RW,j,on,hzb,hRWl,hRWt,hRWg,_,_⟩:=Q9a s.t c hb hl ho
       rw[hic]at hRWg
       obtain⟨IR,hz,hIl,hIt,hIg,hsimI⟩:=rdIn s.t hl ho hil hlt (hXz k)
       rw[hx]at hIg
       refine Qq ?_
       simp only[go_sem,hzb,hRWl,hRWt,hRWg,hb,hpw,hz,hIl,hIt,hIg,hlt,Nat.zero_add,Nat.le_refl]
       intro H6 h6
       have s:NSt q os zb n R wl cy ids F (nx'+1) (cs.set r nx') (XC os zb U o b true (i+1) 0) H6:=⟨Ty.st s.t (LGo.of hl (by rw[ho];exact OBlk.inM (List.mem_append_right _ hzm))) h6 (hsimI.set (by rw[List.length_map];exact hlt) (by
        have hg:(o.ins.map OIns.row).getD i []=[.int .i64 x.op,.int .i64 x.to,.vsl x.a.y 1 0 x.a.ns.length,.int .i64 x.n]:=by
         simp only[List.getD_eq_getElem?_getD,List.getElem?_map,List.getElem?_eq_getElem hlt,Option.map_some,Option.getD_some,hx];rfl
        rw[hg]
        exact .cons (.inl rfl) (.cons (.inr ⟨_,_,rfl,rfl⟩) (.cons (.inl rfl) (.cons (.inl rfl) .nil)))) (fun r' _ hh=>hh.stepI) (XC.notI ap hl ho hU hzm)) (fun m' _ r' hh=>hh.stepI),s.c⟩
       exact hnr _ _ ⟨nx'+1,_,by omega,by omega,s,rfl,rfl,rfl,rfl,rfl⟩
      ·intro hc3
       refine Qh ?_
       try simp only[go_sem]
       exact hnr _ _ ⟨nx',cs,by omega,by omega,s.weak fun m r hh=>hh.stepI,rfl,rfl,rfl,rfl,rfl⟩
   ·rintro e2 H2 ⟨nx2,cs,hn1,hn2,s,l0,l1,l2,l6,l9⟩
    refine Qq ?_
    simp only[go_sem,l0,l1,l2,l6,l9]
    refine⟨Qo (by omega) (by omega),?_⟩
    show ∃m,_
    exact⟨o.ins.length-(i+1),by omega,i+1,nx2,cs,rfl,by omega,by omega,by omega,s,rfl,rfl,rfl,rfl,rfl⟩
  ·intro hc
   have hie:i=o.ins.length:=by have:o.ins.length≤i:=(by simpa using hc);omega
   subst hie
   refine Qr ?_
   simp only[go_sem,X.next]
   exact h _ _ _ _ hnx hnx2 s ⟨rfl,rfl,rfl,rfl⟩
set_option maxHeartbeats 4000000 in
theorem phD (c:NC q os zb R n ids)(hb:b<n)(hl:b<os.length)(ho:os[b]=o)(hy:o.d=y)(hq:b<q.blocks.length)(hyq:q.blocks[b]=y)(hU:¬U b){i0:Nat}(s:NSt q os zb n R wl cy ids F nx cs (XC os zb U o b true i0 0) H)(hk:LK wl b cy R n zb e)
  (h:∀e' H',NSt q os zb n R wl cy ids F nx cs (XU os zb U) H'→LK wl b cy R n zb e'→Qae prog Qdc Q e' H'):Qae prog Qdd Q e H:=by
 obtain⟨l0,l1,l2,l6⟩:=hk
 have hyo:=c.ok.bs b hq
 rw[hyq]at hyo
 have ap:Apart os zb:=s.t.nodup
 obtain⟨RW,j,on,hzb,hRWl,hRWt,hRWg,hex,hsim⟩:=Q9a s.t c hb hl ho
 obtain⟨_,_,hpw,hiw⟩:=Qa6d s.t c hl ho
 obtain⟨rfl,rfl⟩:=hex (.inr (.inl ⟨rfl,rfl,rfl⟩))
 have hyj:y.jump=o.jump∧y.on=o.on:=by rw[←hy];exact⟨rfl,rfl⟩
 refine Q4 ?_
 refine Qa ?_
 simp only[go_sem,l0,l1,l2,l6,hzb,hRWl,hRWt,hRWg,hb,hpw,hiw,Nat.zero_add,Nat.le_refl]
 refine Qdm (fun e2 H2=>NSt q os zb n R wl cy ids F nx cs (XU os zb U) H2∧LK wl b cy R n zb e2) ?_ ?_
 ·intro Q2 hnr _ _
  refine Qe rfl ?_ ?_
  ·intro hc
   have hj:¬y.jump=1:=by rw[hyj.1];simpa using hc
   obtain⟨hv,hvl⟩:=(hyo.on hj).nat
   rw[c.hR]at hvl
   rw[hyj.2]at hv hvl
   have hcu:=s.cu
   have hct:=s.ct
   generalize hr:o.on.toNat=r at *
   have hrc:r<cs.length:=by rw[s.c];exact hvl
   refine Qq ?_
   simp only[go_sem,l0,l1,l2,l6,hzb,hRWl,hRWt,hRWg,hb,hpw,hiw,hv,hvl,hcu,hct,Qd,s.c,Qx _ _ hrc,Nat.zero_add,Nat.le_refl]
   intro H2 h2
   have hne:=fun r'=>ap.zbP hl i0 0 r'
   have hX:∀m' r',XU os zb U m' r'→XC os zb U o b true i0 0 m' r':=fun m' r' hh=>.inl hh
   refine hnr _ _ ⟨⟨Ty.st s.t LGo.zbm h2 (hsim.set (by rw[List.length_map];exact hl) (by
    have hg:(os.map OBlk.row).getD b []=o.row:=by
     simp only[List.getD_eq_getElem?_getD,List.getElem?_map,List.getElem?_eq_getElem hl,Option.map_some,Option.getD_some,ho]
    rw[hg,OBlk.row_eq]
    exact .cons (.inl rfl) (.cons (.inl rfl) (.cons (.inl rfl) (.cons (.inr ⟨_,_,rfl,rfl⟩) (.cons (.inl rfl) .nil))))) (fun r' _ hh=>hX _ _ hh) (ap.zbU hU)) (fun m' _ r' hh=>hX _ _ hh),s.c⟩,rfl,rfl,rfl,rfl⟩
  ·intro _
   refine Qh ?_
   try simp only[go_sem]
   exact hnr _ _ ⟨s.weak fun m r hh=>.inl hh,rfl,rfl,rfl,rfl⟩
 ·rintro e2 H2 ⟨s,hk⟩
  exact h _ _ s hk
set_option maxHeartbeats 8000000 in
theorem phE (c:NC q os zb R n ids)(hb:b<n)(hl:b<os.length)(ho:os[b]=o)(hy:o.d=y)(hq:b<q.blocks.length)(hyq:q.blocks[b]=y)(s:NSt q os zb n R wl cy ids F nx cs (XU os zb U) H)(hk:LK wl b cy R n zb e)
  (h:∀e' H',NSt q os zb n R wl cy ids F nx cs (XU os zb U) H'→LK wl b cy R n zb e'→Qae prog Qg4 Q e' H'):Qae prog Qdc Q e H:=by
 obtain⟨l0,l1,l2,l6⟩:=hk
 have hyo:=c.ok.bs b hq
 rw[hyq]at hyo
 have ap:Apart os zb:=s.t.nodup
 have hnl0:o.nx.ns.length≤2:=by have:=hyo.nxl;rw[←hy]at this;exact this
 have hny:y.next=o.nx.ns:=by rw[←hy];rfl
 refine Q4 ?_
 refine Qa ?_
 simp only[go_sem,l0,l1,l2,l6]
 refine Qg (Qc (Qs (fun m e1 H1=>∃(i:Nat),m=o.nx.ns.length-i∧i≤o.nx.ns.length∧NSt q os zb n R wl cy ids F nx cs (XU os zb U) H1∧lk 0 e1=.c (.ptr wl 0)∧lk 1 e1=.c (.int .i64 b)∧lk 2 e1=.c (.vsl cy 1 0 R)∧lk 6 e1=.c (.ep (.vsl zb 5 0 n) 5 b 0)∧lk 12 e1=.c (.int .i64 i)) o.nx.ns.length ?_ ?_))
 ·exact⟨0,by omega,by omega,s,rfl,rfl,rfl,rfl,rfl⟩
 ·clear s l0 l1 l2 l6
  rintro m e1 H1 ⟨i,hm,hi,s,l0,l1,l2,l6,l12⟩
  obtain⟨RW,j,on,hzb,hRWl,hRWt,hRWg,_,_⟩:=Q9a s.t c hb hl ho
  obtain⟨_,_,hpw,hiw⟩:=Qa6d s.t c hl ho
  have hsn:SimO (XU os zb U o.nx.y) (.vec 1 (Qf o.nx.ns)) (H1 o.nx.y):=s.t.get (LGo.of hl (by rw[ho];exact o.nxM))
  obtain⟨ns',hay,hnl,hex,_⟩:=Qa4t hsn
  refine Q4 ?_
  refine Qa ?_
  simp only[go_sem,l0,l1,l2,l6,l12,hzb,hRWl,hRWt,hRWg,hb,hpw,hiw,hay,Qd,hnl,Nat.zero_add,Nat.le_refl]
  try intro _
  refine Qg (Qe rfl ?_ ?_)
  ·intro hc
   have hlt:i<o.nx.ns.length:=by simpa using hc
   have hlt2:i<ns'.length:=by omega
   have hat:(Qf ns').take o.nx.ns.length=Qf ns':=List.take_of_length_le (by rw[Qd];omega)
   have hv0:=hex i hlt (.inl ⟨b,hl,by rw[ho]⟩)
   have hvm:o.nx.ns.getD i 0∈y.next:=by rw[hny];exact Qjb hlt
   have hvr:=hyo.nx _ hvm
   obtain⟨v,hv⟩:∃v:Nat,o.nx.ns.getD i 0=(v:Int):=⟨(o.nx.ns.getD i 0).toNat,by omega⟩
   rw[hv]at hv0 hvr
   have hvq:v<q.blocks.length:=by omega
   have hvn:v<n:=by rw[←c.hn];exact hvq
   refine Qh ?_
   try simp only[go_sem]
   refine Qg (Qc ?_)
   refine Qa ?_
   simp only[go_sem,l0,l1,l2,l6,l12,hzb,hRWl,hRWt,hRWg,hb,hpw,hiw,hay,hat,Qd,hnl,hlt,Qx _ _ hlt2,hv0,Nat.zero_add,Nat.le_refl]
   have hw:=s.w
   rw[wO]at hw
   refine Qa ?_
   simp only[go_sem,hw]
   refine Qe1 (nx:=gnx q) (.mk' _ _ _ _) rfl (Qht H1 q false).x fun H2 hu=>?_
   have s:NSt q os zb n R wl cy ids F nx cs (XU os zb U) H2:=⟨s.t.call0 hu,s.c⟩
   rw[Qk]
   simp only[go_sem,Qfo]
   refine Qajo (ns:=Q8 (gnx q) (v:Int) q.blocks.length) (.mk' _ _ _ _) rfl fun r hr=>?_
   have hbm:(b:Int)∈Q8 (gnx q) (v:Int) q.blocks.length:=by
    simp only[Q8,List.mem_map,List.mem_filter,List.mem_range]
    refine⟨b,⟨hq,List.contains_iff_mem.2 ?_⟩,rfl⟩
    rw[Qv0 hq,hyq,←hv];exact hvm
   obtain⟨a,ra,hal⟩:∃a:Nat,r=(a:Int)∧a<(Q8 (gnx q) (v:Int) q.blocks.length).length:=by
    rcases hr with ⟨_,hn⟩|⟨a,h1,h2,_⟩
    ·exact absurd hbm hn
    ·exact⟨a,h1,h2⟩
   subst ra
   clear hr
   simp only[go_sem,Qfn]
   obtain⟨hvl,_,hvd,hvok,hvyo,hvp,_⟩:=c.get hvn
   obtain⟨o',ho'⟩:∃o',os[v]=o':=⟨_,rfl⟩
   obtain⟨y',hy'⟩:∃y',q.blocks[v]=y':=⟨_,rfl⟩
   rw[ho',hy']at hvd
   rw[ho']at hvok hvp
   rw[hy']at hvyo
   have hyl':y'.phis.length=o'.phis.length:=by rw[←hvd];simp[OBlk.d]
   refine Qa ?_
   simp only[go_sem]
   refine Qc (Qs (fun m e1 H1=>∃(k:Nat),m=o'.phis.length-k∧k≤o'.phis.length∧NSt q os zb n R wl cy ids F nx cs (XU os zb U) H1∧lk 0 e1=.c (.ptr wl 0)∧lk 1 e1=.c (.int .i64 b)∧lk 2 e1=.c (.vsl cy 1 0 R)∧lk 6 e1=.c (.ep (.vsl zb 5 0 n) 5 b 0)∧lk 12 e1=.c (.int .i64 i)∧
    lk 13 e1=.c (.int .i64 v)∧lk 14 e1=.c (.int .i64 a)∧lk 15 e1=.c (.int .i64 k)) o'.phis.length ?_ ?_)
   ·exact⟨0,by omega,by omega,s,rfl,rfl,rfl,rfl,rfl,rfl,rfl,rfl⟩
   ·clear s hw hzb hRWl hRWt hRWg hay hat hnl hex hlt2 hsn l0 l1 l2 l6 l12
    rintro m2 e2 H3 ⟨k,hm2,hk2,s,l0,l1,l2,l6,l12,l13,l14,l15⟩
    have hw:=s.w
    rw[wO]at hw
    refine Q4 ?_
    refine Qa ?_
    simp only[go_sem,l0,l1,l2,l6,l12,l13,l14,l15,hw,hvq,Qk,Q7 _ _ hvq,BlkD.cells,hy',Q9]
    try intro _
    refine Qg (Qe rfl ?_ ?_)
    ·intro hc2
     have hlt2:k<y'.phis.length:=by simpa using hc2
     have hlt3:k<o'.phis.length:=by omega
     obtain⟨z,hpc,hpl⟩:=OBlk.phZ hvok hlt3
     obtain⟨RW,j,on,hzb,hRWl,hRWt,hRWg,_,_⟩:=Q9a s.t c hvn hvl ho'
     obtain⟨_,_,hpw',hiw'⟩:=Qa6d s.t c hvl ho'
     rw[hpc]at hRWg
     obtain⟨PR,to,ya,hz,hPl,hPt,hPg,hya,hac,_⟩:=rdPh s.t c hvl ho' hpl hlt3
     obtain⟨p,hp⟩:∃p,y'.phis[k]=p:=⟨_,rfl⟩
     have hpm:p∈y'.phis:=by rw[←hp];exact List.getElem_mem hlt2
     have hpns:p.args=o'.phis[k].ns:=by
      have h1:(o'.phis.map OPhi.d)[k]? = some o'.phis[k].d:=by simp[hlt3]
      have h2:o'.phis.map OPhi.d=y'.phis:=by rw[←hvd];rfl
      rw[h2,List.getElem?_eq_getElem hlt2,hp]at h1
      rw[Option.some.inj h1];rfl
     have hpal:=hvyo.pal p hpm
     have hap:a<p.args.length:=by omega
     have hnsl:o'.phis[k].ns.length=p.args.length:=by rw[hpns]
     have hyam:(ya,Obj.vec 1 (Qf o'.phis[k].ns))∈LGo os zb:=LGo.of hvl (by rw[ho'];exact OBlk.phM hya)
     obtain⟨ns',hay,hnl,_,hsim⟩:=Qa4t (s.t.get hyam)
     rw[hnsl]at hPg hnl
     have hnotX:∀r,¬XU os zb U ya r:=fun r=>ap.ph hvl (p:=(ya,Obj.vec 1 (Qf o'.phis[k].ns))) (by rw[ho'];exact hya) r
     have hat:(Qf ns').take p.args.length=Qf ns':=List.take_of_length_le (by rw[Qd];omega)
     have han:a<ns'.length:=by omega
     obtain⟨hu,hul⟩:=(hvyo.pargs p hpm _ (Qjb hap)).nat
     rw[c.hR]at hul
     have hcu:=s.cu
     have hct:=s.ct
     generalize hr:(p.args.getD a 0).toNat=r at *
     have hrc:r<cs.length:=by rw[s.c];exact hul
     refine Qh ?_
     try simp only[go_sem]
     refine Qg (Qc ?_)
     refine Qbc ?_
     simp only[go_sem,l0,l1,l2,l6,l12,l13,l14,l15,hw,hvq,hvn,Qk,Q7 _ _ hvq,BlkD.cells,hy',Q9,hlt2,Qbg _ _ hlt2,PhiD.cells,hp,hzb,hRWl,hRWt,hRWg,hpw',hiw',hz,hPl,hPt,hPg,hlt3,hay,hat,Qd,hnl,hap,Qx _ _ hap,Qx _ _ han,hu,hul,hcu,hct,s.c,Qx _ _ hrc,Qcu,Nat.zero_add,Nat.le_refl]
     intro H4 h4
     have s:NSt q os zb n R wl cy ids F nx cs (XU os zb U) H4:=⟨Qbhw s.t hyam hsim (by rw[hnsl];exact hap) _ h4 (fun m' r' _ hh=>hh) (hnotX a),s.c⟩
     refine Qq ?_
     simp only[go_sem,l0,l1,l2,l6,l12,l13,l14,l15]
     refine⟨Qo (by omega) (by omega),?_⟩
     show ∃m,_
     exact⟨o'.phis.length-(k+1),by omega,k+1,rfl,by omega,s,rfl,rfl,rfl,rfl,rfl,rfl,rfl,rfl⟩
    ·intro _
     refine Qr ?_
     simp only[go_sem,X.next]
     refine Qq ?_
     simp only[go_sem,l0,l1,l2,l6,l12]
     refine⟨Qo (by omega) (by omega),?_⟩
     show ∃m,_
     exact⟨o.nx.ns.length-(i+1),by omega,i+1,rfl,by omega,s,rfl,rfl,rfl,rfl,rfl⟩
  ·intro _
   refine Qr ?_
   simp only[go_sem,X.next]
   exact h _ _ s ⟨rfl,rfl,rfl,rfl⟩
end Go.AE.Y

