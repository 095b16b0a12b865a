/- Part 4 of the proof: the engine, codes, walks and plain laws, each named where it stands. -/
import Derived.Test.YthnafimjdcihlaaGreatDoorZC
import Derived.Laws.Runes
import Derived.ProofKit
import Derived.Shelf.Sort.Plain
import Derived.Shelf.Sort.So_math_bits_LenIn
import Derived.WalkLawsBesides
import Derived.WalkSmall
open Nat (reduceEqDiff reduceAdd reduceLeDiff reduceLT)
set_option linter.unusedVariables false
set_option linter.unusedSimpArgs false
set_option maxRecDepth 4000
set_option maxHeartbeats 8000000
open Bool renaming and_eq_true->Jk
open Int renaming eq_ofNat_of_zero_le->Jw,le_refl->Jay
open List renaming mem_append_right->Ja,mem_singleton->Jb,mem_append_left->Jc,mem_append->Jd,length_map->Je,length_cons->Jf,length_nil->Jg,append_assoc->Jh,map_append->Ji,getElem_mem->Jj,mem_cons->Jm,mem_flatMap->Jn,perm_append_comm->Jo,take_succ_eq_append_getElem->Jp,take_of_length_le->Jq,mem_cons_of_mem->Js,cons_append->Jt,nil_append->Ju,getD_eq_getElem?_getD->Jv,mem_cons_self->Jy,all_cons->Jz,map_cons->J0,mem_map->J1,length_take->J2,all_nil->J3,append_nil->J4,nodup_append->J5,all_eq_true->J6,mem_or_eq_of_mem_set->J7,mem_map_of_mem->J8,contains_iff_mem->Jaa,flatMap_append->Jab,getElem?_append_right->Jae,length_append->Jaf,getElem?_cons_zero->Jag,length_eq_zero_iff->Jah,getElem_map->Jai,not_mem_nil->Jaj,map_set->Jal,take_append_drop->Jam,getElem?_of_mem->Jan,mem_of_mem_take->Jao,map_take->Jaq,set_cons_succ->Jar,set_cons_zero->Jas,flatMap_cons->Jat,getElem?_set->Jau,any_eq_true->Jav,flatMap_nil->Jaw,count_cons->Jaz,nodup_cons->Ja0
open List.Perm renaming append_left->Jak
open Nat renaming le_refl->Jl,zero_add->Jr,one_le_two_pow->J9,lt_pow_self->Jac,mul_le_mul_left->Jad,lt_two_pow_self->Jap,le_succ->Ja1,pow_succ'->Ja2,mul_succ->Ja3
open Option renaming getD_some->Jax
open Option.some renaming injEq->Jx,inj->Ja4
namespace Go.AE.Y
structure OInts where
 ns:List Int
 y:Nat
def OInts.c (x:OInts):C:=.aw x.y 1 0 x.ns.length
def OInts.lg (x:OInts):List (Nat×Obj):=[(x.y,.vec 1 (Ar x.ns))]
structure OPhi where
 to:Int
 ns:List Int
 ac:C
 lg:List (Nat×Obj)
def OPhi.row (x:OPhi):List C:=[.int .i64 x.to,x.ac]
def OPhi.ok (x:OPhi):Prop:=(∃y,x.ac=.aw y 1 0 x.ns.length∧x.lg=[(y,.vec 1 (Ar x.ns))])∨(∃fl,x.ac=.sl fl 1 (Ar x.ns)∧x.lg=[])
def OPhi.own (x:OPhi):Prop:=∃y,x.ac=.aw y 1 0 x.ns.length∧x.lg=[(y,.vec 1 (Ar x.ns))]
structure OIns where
 op:Int
 to:Int
 a:OInts
 n:Int
def OIns.row (x:OIns):List C:=[.int .i64 x.op,.int .i64 x.to,x.a.c,.int .i64 x.n]
def OIns.lg (x:OIns):List (Nat×Obj):=x.a.lg
structure OBlk where
 bV:List OPhi
 pc:C
 pl:List (Nat×Obj)
 ins:List OIns
 ic:C
 il:List (Nat×Obj)
 jump:Int
 on:Int
 nx:OInts
def OBlk.row (x:OBlk):List C:=[x.pc,x.ic,.int .i64 x.jump,.int .i64 x.on,x.nx.c]
def OBlk.lg (x:OBlk):List (Nat×Obj):=x.nx.lg++(x.bV.flatMap OPhi.lg++(x.pl++(x.ins.flatMap OIns.lg++x.il)))
structure OBlk.ok (x:OBlk):Prop where
 p:Gr x.pl 2 (x.bV.map OPhi.row) x.pc
 i:Gr x.il 4 (x.ins.map OIns.row) x.ic
 a:∀p∈x.bV,p.ok
structure OCode where
 params:Int
 cu:Int
 blocks:List OBlk
 bc:C
 bl:List (Nat×Obj)
def OCode.row (x:OCode):List C:=[.int .i64 x.params,.int .i64 x.cu,x.bc]
def OCode.lg (x:OCode):List (Nat×Obj):=x.blocks.flatMap OBlk.lg++x.bl
structure OCode.ok (x:OCode):Prop where
 b:Gr x.bl 5 (x.blocks.map OBlk.row) x.bc
 bs:∀b∈x.blocks,b.ok
def OPhi.d (x:OPhi):PhiD:=⟨x.to,x.ns⟩
def OIns.d (x:OIns):InsD:=⟨x.op,x.to,x.a.ns,x.n⟩
def OBlk.d (x:OBlk):BlkD:=⟨x.bV.map OPhi.d,x.ins.map OIns.d,x.jump,x.on,x.nx.ns⟩
def OCode.d (x:OCode):CodeD:=⟨x.params,x.cu,x.blocks.map OBlk.d⟩
theorem OPhi.ai (x:OPhi)(h:x.ok):Go.AE.ai x.row=true:=by
 rcases h with ⟨y,h,_⟩|⟨fl,h,_⟩ <;> simp only[Go.AE.ai,OPhi.row,h] <;> rfl
theorem OIns.ai (x:OIns):Go.AE.ai x.row=true:=rfl
theorem OBlk.ai (x:OBlk)(h:x.ok):Go.AE.ai x.row=true:=by
 simp only[Go.AE.ai,OBlk.row,OInts.c,Jz,J3,h.p.ah,h.i.ah];rfl
theorem OCode.ai (x:OCode)(h:x.ok):Go.AE.ai x.row=true:=by
 simp only[Go.AE.ai,OCode.row,Jz,J3,h.b.ah];rfl
variable {H:Heap}{S:Nat→Bool}
def Held (H:Heap)(S:Nat→Bool)(l:List (Nat×Obj)):Prop:=∀p∈l,H p.1=p.2∧S p.1=true
theorem Held.l {a b:List (Nat×Obj)}(h:Held H S (a++b)):Held H S a:=fun p hp=>h p (Jc _ hp)
theorem Held.r {a b:List (Nat×Obj)}(h:Held H S (a++b)):Held H S b:=fun p hp=>h p (Ja _ hp)
theorem Held.m {α:Type}{f:α→List (Nat×Obj)}{l:List α}(h:Held H S (l.flatMap f)){x:α}(hx:x∈l):Held H S (f x):=fun p hp=>h p (Jn.2 ⟨x,hx,hp⟩)
theorem OInts.frz (x:OInts)(h:Held H S x.lg):FrzC H S x.c (.sl false 1 (Ar x.ns)):=by
 obtain⟨h1,h2⟩:=h (x.y,.vec 1 (Ar x.ns)) (by simp[OInts.lg]);exact (FrzR.same (D2 _)).aw h2 h1 (by simp[Ar])
theorem OPhi.frz (x:OPhi)(bf:x.ok)(h:Held H S x.lg):FrzL H S x.row (PhiD.mk x.to x.ns).cells:=by
 refine .cons (Qe rfl) (.cons ?_ .nil);rcases bf with ⟨y,h1,h2⟩|⟨fl,h1,h2⟩
 ·obtain⟨h3,h4⟩:=h (y,.vec 1 (Ar x.ns)) ZaI;rw[h1];exact (FrzR.same (D2 _)).aw h4 h3 (by simp[Ar])
 ·rw[h1];exact (FrzR.same (D2 _)).sl
theorem OIns.frz (x:OIns)(h:Held H S x.lg):FrzL H S x.row (InsD.mk x.op x.to x.a.ns x.n).cells:=.cons (Qe rfl) (.cons (Qe rfl) (.cons (x.a.frz h) (.cons (Qe rfl) .nil)))
theorem Gx {α β:Type}{f:α→List C}{g:β→List C}:∀(l:List α),(∀x∈l,∃y,FrzL H S (f x) (g y))→∃l':List β,FrzR H S (l.map f) (l'.map g)∧l'.length=l.length
 |[],_=>⟨[],.nil,rfl⟩
 |x::l,h=>by
  obtain⟨y,hy⟩:=h x Jy;obtain⟨l',dd,hn⟩:=Gx l fun z hz=>h z (Js _ hz);exact⟨y::l',.cons hy dd,Zce⟩
theorem RK {α β:Type}{P:β→Prop}{f:α→List C}{g:β→List C}:∀(l:List α),(∀x∈l,∃y,FrzL H S (f x) (g y)∧P y)→∃l':List β,FrzR H S (l.map f) (l'.map g)∧l'.length=l.length∧∀y∈l',P y
 |[],_=>⟨[],.nil,rfl,ZV⟩
 |x::l,h=>by
  obtain⟨y,hy,hp⟩:=h x Jy;obtain⟨l',dd,hn,hT⟩:=RK l fun z hz=>h z (Js _ hz);refine⟨y::l',.cons hy dd,Zce,fun z hz=>?_⟩;rcases Jm.1 hz with rfl|hz
  ·exact hp
  ·exact hT z hz
theorem OBlk.frz (x:OBlk)(bf:x.ok)(h:Held H S x.lg):∃d:BlkD,FrzL H S x.row d.cells∧d.next=x.nx.ns∧d.ins.length=x.ins.length∧d.bV.length=x.bV.length:=by
 obtain⟨ps,hT,sU⟩:=Gx (H:=H) (S:=S) (f:=OPhi.row) (g:=PhiD.cells) x.bV fun p hp=>⟨_,p.frz (bf.a p hp) (h.r.l.m hp)⟩;obtain⟨is,rM,gM⟩:=Gx (H:=H) (S:=S) (f:=OIns.row) (g:=InsD.cells) x.ins fun p hp=>⟨_,p.frz (h.r.r.r.l.m hp)⟩;exact⟨⟨ps,is,x.jump,x.on,x.nx.ns⟩,.cons (Gr.frzM bf.p h.r.r.l hT) (.cons (Gr.frzM bf.i h.r.r.r.r rM) (.cons (Qe rfl) (.cons (Qe rfl) (.cons (x.nx.frz h.l) .nil)))),rfl,gM,sU⟩
end Go.AE.Y
namespace Go.AE.Y
structure BlkD.sm (b:BlkD):Prop where
 n:b.next.length≤2
 i:b.ins.length≤1000
 p:b.bV.length≤1000
 ia:∀x∈b.ins,x.args.length≤1000
 pa:∀x∈b.bV,x.args.length≤1000
structure CodeD.sm (c:CodeD):Prop where
 b0:0<c.blocks.length
 b:c.blocks.length≤160
 bs:∀b∈c.blocks,b.sm
 p0:0≤c.params
 p1:c.params≤1000
structure OBlk.sm (b:OBlk)(N:Nat):Prop where
 n:b.nx.ns.length≤2
 i:b.ins.length≤1000
 p:b.bV.length≤N
 ia:∀x∈b.ins,x.a.ns.length≤N
 pa:∀x∈b.bV,x.ns.length≤N
structure OCode.sm (c:OCode)(N:Nat):Prop where
 b0:0<c.blocks.length
 b:c.blocks.length≤160
 bs:∀b∈c.blocks,b.sm N
 p0:0≤c.params
 p1:c.params≤1000
theorem OBlk.sm.mono {b:OBlk}{N M:Nat}(h:b.sm N)(hm:N≤M):b.sm M:=⟨h.n,h.i,by have:=h.p;omega,fun x hx=>by have:=h.ia x hx;omega,fun x hx=>by have:=h.pa x hx;omega⟩
theorem OCode.sm.mono {c:OCode}{N M:Nat}(h:c.sm N)(hm:N≤M):c.sm M:=⟨h.b0,h.b,fun b hb=>(h.bs b hb).mono hm,h.p0,h.p1⟩
structure BlkD.sg (b:BlkD):Prop where
 n:b.next.length≤1000000
 i:b.ins.length≤1000000
 p:b.bV.length≤1000000
 ia:∀x∈b.ins,x.args.length≤1000000
 pa:∀x∈b.bV,x.args.length≤1000000
structure CodeD.sg (c:CodeD):Prop where
 b:c.blocks.length≤1000000
 bs:∀b∈c.blocks,b.sg
theorem BlkD.sm.sg {b:BlkD}(h:b.sm):b.sg:=⟨by have:=h.n;omega,by have:=h.i;omega,by have:=h.p;omega,fun x hx=>by have:=h.ia x hx;omega,fun x hx=>by have:=h.pa x hx;omega⟩
theorem CodeD.sm.sg {c:CodeD}(h:c.sm):c.sg:=⟨by have:=h.b;omega,fun b hb=>(h.bs b hb).sg⟩
structure CodeD.gd (c:CodeD):Prop where
 b0:0<c.blocks.length
 b1:c.blocks.length≤160
 n:∀b∈c.blocks,b.next.length≤2
 f:c.fits
 s:c.sg
theorem CodeD.sm.fits {c:CodeD}(h:c.sm):c.fits:=fun b hb=>⟨by have:=(h.bs b hb).i;omega,by have:=(h.bs b hb).p;omega⟩
theorem CodeD.sm.gd {c:CodeD}(h:c.sm):c.gd:=⟨h.b0,h.b,fun b hb=>(h.bs b hb).n,h.fits,h.sg⟩
variable {H:Heap}{S:Nat→Bool}
theorem Ee {α β:Type}{f:α→List C}{g:β→List C}{d:α→β}:∀(l:List α),(∀x∈l,FrzL H S (f x) (g (d x)))→FrzR H S (l.map f) ((l.map d).map g)
 |[],_=>.nil
 |x::l,h=>.cons (h x Jy) (Ee l fun z hz=>h z (Js _ hz))
theorem OBlk.frzD (x:OBlk)(bf:x.ok)(h:Held H S x.lg):FrzL H S x.row x.d.cells:=by
 have hT:=Ee (H:=H) (S:=S) (f:=OPhi.row) (g:=PhiD.cells) (d:=OPhi.d) x.bV fun p hp=>p.frz (bf.a p hp) (h.r.l.m hp);have rM:=Ee (H:=H) (S:=S) (f:=OIns.row) (g:=InsD.cells) (d:=OIns.d) x.ins fun p hp=>p.frz (h.r.r.r.l.m hp);exact .cons (Gr.frzM bf.p h.r.r.l hT) (.cons (Gr.frzM bf.i h.r.r.r.r rM) (.cons (Qe rfl) (.cons (Qe rfl) (.cons (x.nx.frz h.l) .nil))))
theorem OCode.frz (x:OCode){N:Nat}(hN:N≤100000)(bf:x.ok)(hs:x.sm N)(h:Held H S x.lg):∃d:CodeD,FrzL H S x.row d.cells∧d.gd:=by
 have lI:=Ee (H:=H) (S:=S) (f:=OBlk.row) (g:=BlkD.cells) (d:=OBlk.d) x.blocks fun b hb=>b.frzD (bf.bs b hb) (h.l.m hb);have fG:=hs.b0;have bh:=hs.b;have hd:∀d∈x.blocks.map OBlk.d,d.next.length≤2∧d.ins.length≤1000∧d.bV.length≤N∧(∀i∈d.ins,i.args.length≤N)∧∀i∈d.bV,i.args.length≤N:=fun d hd=>by
  obtain⟨b,hb,rfl⟩:=J1.1 hd;have eG:=hs.bs b hb;refine⟨eG.n,by simpa[OBlk.d]using eG.i,by simpa[OBlk.d]using eG.p,fun i hi=>?_,fun i hi=>?_⟩
  ·obtain⟨y,hy,rfl⟩:=J1.1 hi;exact eG.ia y hy
  ·obtain⟨y,hy,rfl⟩:=J1.1 hi;exact eG.pa y hy
 refine⟨⟨x.params,x.cu,x.blocks.map OBlk.d⟩,.cons (Qe rfl) (.cons (Qe rfl) (.cons (Gr.frzM bf.b h.r lI) .nil)),by simpa using fG,by simpa using bh,fun b hb=>(hd b hb).1,fun b hb=>?_,by simp only[Je];omega,fun b hb=>?_⟩
 ·obtain⟨h1,h2,h3,h4,h5⟩:=hd b hb;omega
 ·obtain⟨h1,h2,h3,h4,h5⟩:=hd b hb;exact⟨ZT,ZT,ZT,fun i hi=>by have:=h4 i hi;omega,fun i hi=>by have:=h5 i hi;omega⟩
theorem OCodes.frz {N:Nat}(hN:N≤100000){us:List OCode}{cc:C}{cl:List (Nat×Obj)}(hg:Gr cl 3 (us.map OCode.row) cc)(hu:∀u∈us,u.ok∧u.sm N)(h:Held H S (us.flatMap OCode.lg++cl)) :
  ∃cs:List CodeD,FrzC H S cc (.sl false 3 (Km cs))∧cs.length=us.length∧∀c∈cs,c.gd:=by
 obtain⟨cs,h1,h2,h3⟩:=RK (H:=H) (S:=S) (P:=CodeD.gd) (f:=OCode.row) (g:=CodeD.cells) us fun u cg=>u.frz hN (hu u cg).1 (hu u cg).2 (h.l.m cg);exact⟨cs,Gr.frzM hg h.r h1,h2,h3⟩
end Go.AE.Y
namespace Go.AE
variable {P:Program}
theorem XV {a b:SC}{Q:X→Env→Heap→Prop}{e:Env}{H:Heap}(T:Env→Heap→Prop)(h1:∀Q':X→Env→Heap→Prop,(∀e H,T e H→Q' .nrm e H)→(∀e H,Q .ret e H→Q' .ret e H)→(∀i e H,Q (.exit i) e H→Q' (.exit i) e H)→Q6 P a Q' e H)
  (h2:∀e H,T e H→Q6 P b Q e H):Q6 P (.seq a b) Q e H:=h1 (X.sq P b Q) h2 (fun _ _ h=>h) (fun _ _ _ h=>h)
end Go.AE
namespace Go.AE.Y
structure UPhi where
 to:Int
 ns:List Int
 ac:C
 al:List (Nat×Obj)
def UPhi.row (x:UPhi):List C:=[.int .i64 x.to,x.ac]
structure UBlk where
 bV:List UPhi
 pc:C
 pl:List (Nat×Obj)
 ins:List InsD
 ic:C
 il:List (Nat×Obj)
 jump:Int
 on:Int
 nfl:Bool
 next:List Int
def UBlk.row (x:UBlk):List C:=[x.pc,x.ic,.int .i64 x.jump,.int .i64 x.on,.sl x.nfl 1 (Ar x.next)]
def UBlk.lg (x:UBlk):List (Nat×Obj):=x.il++(x.bV.flatMap UPhi.al++x.pl)
structure UBlk.ok (x:UBlk):Prop where
 p:Gr x.pl 2 (x.bV.map UPhi.row) x.pc
 i:Gr x.il 4 (EX x.ins) x.ic
 a:∀p∈x.bV,Gr p.al 1 (Ar p.ns) p.ac
structure UBlk.sm (b:UBlk)(N:Nat):Prop where
 n:b.next.length≤2
 i:b.ins.length≤1000
 p:b.bV.length≤N
 ia:∀x∈b.ins,x.args.length≤1000
 pa:∀x∈b.bV,x.ns.length≤1000
structure UCode where
 params:Int
 cu:Int
 blocks:List UBlk
 bc:C
 bl:List (Nat×Obj)
def UCode.row (x:UCode):List C:=[.int .i64 x.params,.int .i64 x.cu,x.bc]
def UCode.lg (x:UCode):List (Nat×Obj):=x.blocks.flatMap UBlk.lg++x.bl
structure UCode.ok (x:UCode):Prop where
 b:Gr x.bl 5 (x.blocks.map UBlk.row) x.bc
 bs:∀b∈x.blocks,b.ok
 p0:0≤x.params
 p1:x.params≤3
structure UCode.sm (c:UCode)(N:Nat):Prop where
 b0:0<c.blocks.length
 b:c.blocks.length≤160
 bs:∀b∈c.blocks,b.sm N
theorem UPhi.ai (x:UPhi)(h:Gr x.al 1 (Ar x.ns) x.ac):Go.AE.ai x.row=true:=by
 simp only[Go.AE.ai,UPhi.row,Jz,J3,h.ah];rfl
theorem UBlk.ai (x:UBlk)(h:x.ok):Go.AE.ai x.row=true:=by
 simp only[Go.AE.ai,UBlk.row,Jz,J3,h.p.ah,h.i.ah];rfl
theorem UCode.ai (x:UCode)(h:x.ok):Go.AE.ai x.row=true:=by
 simp only[Go.AE.ai,UCode.row,Jz,J3,h.b.ah];rfl
theorem UBlk.sm.mono {b:UBlk}{N M:Nat}(h:b.sm N)(hm:N≤M):b.sm M:=⟨h.n,h.i,by have:=h.p;omega,h.ia,h.pa⟩
theorem UCode.sm.mono {c:UCode}{N M:Nat}(h:c.sm N)(hm:N≤M):c.sm M:=⟨h.b0,h.b,fun b hb=>(h.bs b hb).mono hm⟩
variable {H:Heap}{S:Nat→Bool}
theorem UBlk.frz (x:UBlk){N:Nat}(hN:N≤1000)(bf:x.ok)(hs:x.sm N)(h:Held H S x.lg):∃d:BlkD,FrzL H S x.row d.cells∧d.sm:=by
 obtain⟨ps,hT,sU,fo⟩:=RK (H:=H) (S:=S) (P:=fun p:PhiD=>p.args.length≤1000) (f:=UPhi.row) (g:=PhiD.cells) x.bV fun p hp=>
  ⟨⟨p.to,p.ns⟩,.cons (Qe rfl) (.cons (Gr.frzM (bf.a p hp) (h.r.l.m hp) (FrzR.same (D2 _))) .nil),hs.pa p hp⟩
 have h1:=hs.n;have h2:=hs.i;have h3:=hs.p;exact⟨⟨ps,x.ins,x.jump,x.on,x.next⟩,.cons (Gr.frzM bf.p h.r.r hT) (.cons (Gr.frzM bf.i h.l (FrzR.same (Qbap _))) (.cons (Qe rfl) (.cons (Qe rfl) (.cons (FrzR.same (D2 _)).sl .nil)))),
  h1,h2,by show ps.length≤_;omega,hs.ia,fo⟩
theorem UCode.frz (x:UCode){N:Nat}(hN:N≤1000)(bf:x.ok)(hs:x.sm N)(h:Held H S x.lg):∃d:CodeD,FrzL H S x.row d.cells∧d.sm:=by
 obtain⟨bs,lI,ju,hbp⟩:=RK (H:=H) (S:=S) (P:=BlkD.sm) (f:=UBlk.row) (g:=BlkD.cells) x.blocks fun b hb=>b.frz hN (bf.bs b hb) (hs.bs b hb) (h.l.m hb);have fG:=hs.b0;have bh:=hs.b;exact⟨⟨x.params,x.cu,bs⟩,.cons (Qe rfl) (.cons (Qe rfl) (.cons (Gr.frzM bf.b h.r lI) .nil)),by show 0<bs.length;omega,by show bs.length≤_;omega,hbp,bf.p0,by have:=bf.p1;show x.params≤_;omega⟩
theorem UCodes.frz {us:List UCode}{N:Nat}(hN:N≤1000){cc:C}{cl:List (Nat×Obj)}(hg:Gr cl 3 (us.map UCode.row) cc)(hu:∀u∈us,u.ok∧u.sm N)(h:Held H S (us.flatMap UCode.lg++cl)) :
  ∃cs:List CodeD,FrzC H S cc (.sl false 3 (Km cs))∧cs.length=us.length∧∀c∈cs,c.sm:=by
 obtain⟨cs,h1,h2,h3⟩:=RK (H:=H) (S:=S) (P:=CodeD.sm) (f:=UCode.row) (g:=CodeD.cells) us fun u cg=>u.frz hN (hu u cg).1 (hu u cg).2 (h.l.m cg);exact⟨cs,Gr.frzM hg h.r h1,h2,h3⟩
end Go.AE.Y
namespace Go.AE.Y
theorem C8 {α:Type}{l1 l2:List α}(h:∀f:List α→Nat,(∀a b,f (a++b)=f a+f b)→f []=0→(∀x l,f (x::l)=f [x]+f l)→(∀a b:List α,a.Perm b→f a=f b)→f l1=f l2):l1.Perm l2:=by
 classical
 exact List.perm_iff_count.2 fun a=>h (List.count a) (fun _ _=>List.count_append) rfl (fun x l=>by rw[Jaz,Jaz];simp;omega) (fun _ _ hp=>hp.count_eq a)
def UCode.put (u:UCode)(bi:Nat)(b:UBlk)(bl:List (Nat×Obj)):UCode:={ u with blocks:=u.blocks.set bi b,bl:=bl }
end Go.AE.Y
namespace Go.AE
open Go.AE.Y
open Go.Proofs.Tryz
variable {H:Heap}{K:V→Heap→Prop}
theorem Slc.keep {H':Heap}{sz:Nat}{rows:List (List C)}{b:C}{E L:List (Nat×Obj)}(h:Slc H sz rows b)(kn:Kn H H' E L)(hE:∀l a c d,b=.aw l a c d→l∉E.map Prod.fst):Slc H' sz rows b:=by
 obtain⟨h1,h2,h3,h4⟩:=h
 cases b with
 |sl fl z rs=>exact⟨trivial,h2,h3,h4⟩
 |aw l z st n=>
  simp only[Go.AE.aT]at h1
  cases ho:H l with
  |vec y rs=>
   have:=kn.chg l (by rw[ho];simp) (hE l z st n rfl);refine⟨?_,h2,?_,h4⟩
   ·simp only[Go.AE.aT,this];exact h1
   ·simp only[Go.AE.rowsOf,this];exact h3
  |_=>rw[ho]at h1;exact h1.elim
 |_=>exact h1.elim
end Go.AE
namespace Go.AE.Y
open Go.Proofs.Tryz
variable {H:Heap}{K:V→Heap→Prop}
theorem InsD.bA (x:InsD):x.cells.take 4=x.cells:=rfl
theorem InsD.aU (x:InsD):(x.cells.all fun c=>!c.ah)=true:=rfl
theorem BlkD.aU (x:BlkD):(x.cells.all fun c=>!c.ah)=true:=rfl
theorem CodeD.aU (x:CodeD):(x.cells.all fun c=>!c.ah)=true:=rfl
end Go.AE.Y
namespace Go.AE
open Go.AE.Y
open Go.Proofs.Tryz
variable {H:Heap}{K:V→Heap→Prop}
theorem Gr.slc {H0 H:Heap}{E B Lg:List (Nat×Obj)}{sz:Nat}{rows:List (List C)}{c:C}(h:Gr Lg sz rows c)(kn:Kn H0 H E (B++Lg)):Slc H sz rows c:=by
 obtain⟨h1,h2⟩:=h.get kn;exact⟨h1,h.aN,h2,h.a9⟩
theorem Gr.ne {H0 H:Heap}{E B Lg:List (Nat×Obj)}{sz:Nat}{rows:List (List C)}{c:C}{r:Nat}{o:Obj}(h:Gr Lg sz rows c)(kn:Kn H0 H E (B++Lg))(hr:(r,o)∈E):∀l a d n,c=.aw l a d n→l≠r:=by
 intro l a d n hc hh;rcases h with ⟨h1,_⟩|⟨y,h1,h2⟩
 ·rw[h1]at hc;simp at hc
 ·rw[h1]at hc;have hy:y=l:=by injection hc
  have:=kn.loc (y,.vec sz rows) ZaI;exact kn.ext (r,o) hr (by rw[←hh,←hy];exact this)
theorem Gr.slcM {H0 H:Heap}{E L Lg:List (Nat×Obj)}{sz:Nat}{rows:List (List C)}{c:C}(h:Gr Lg sz rows c)(kn:Kn H0 H E L)(hm:∀p∈Lg,p∈L):Slc H sz rows c:=by
 rcases h with ⟨h1,h2,h3⟩|⟨y,h1,h2⟩
 ·rw[h1,h2];exact .mk' _ _ _ _
 ·have hy:H y=.vec sz rows:=(kn.get (y,.vec sz rows) (Ja _ (hm _ ZaI))).1;rw[h1];exact⟨by simp[Go.AE.aT,hy],rfl,by simp[Go.AE.rowsOf,hy],rfl⟩
end Go.AE
namespace Go.AE.Y
open Go.Proofs.Tryz
def Ao (l:List Nat):List (List C):=Ar (l.map Int.ofNat)
theorem Q96 (l:List Nat):(Ao l).length=l.length:=by simp[Ao,CA]
theorem HM (l:List Nat):∀r∈Ao l,ai r=true:=D2 _
variable {H:Heap}{K:V→Heap→Prop}
theorem Pr {n lo hi:Int}(hK:K (.c (.bool (decide (lo≤n)&&decide (n≤hi)))) H):Qm prog T8 [.c (.int .i64 n),.c (.int .i64 lo),.c (.int .i64 hi)] H K:=by
 refine Qc Aa NO ?_;refine Za ?_;refine Za ?_;refine Zs ?_;have:(bif decide (lo≤n)then decide (n≤hi)else false)=(decide (lo≤n)&&decide (n≤hi)):=by cases decide (lo≤n) <;> rfl
 first|exact hK|(rw[this];exact hK)|(simpa[this]using hK)
theorem Qa1y {c:C}{ns:List Int}{f:Nat}{caps:List C}{p:Int→Bool}(hs:Slc H 1 (Ar ns) c)(an:c.ah=false)
  (hf:∀(x:Int) (K':V→Heap→Prop),x∈ns→K' (.c (.bool (p x))) H→Qm prog f ([.c (.int .i64 x)]++caps.map .c) H K')
  (hK:∀r:Int,decide (0≤r)=ns.any p→K (.c (.int .i64 r)) H) :
  Qm prog Qvn [.c c,.c (.fn f caps)] H K:=by
 refine Qc Aa Qapt ?_;have bf:=eq_true hs.ok;have aM:=hs.len;have aO:=hs.sz;have di:=hs.rows;refine Za ?_;refine Qz (Qa ?_);simp only[go_sem,bf,aM,CA];intro hl;simp only[LIM]at hl;refine Qf (Qg (Q3 (fun m e1 H1=>∃(i:Nat),m=ns.length-i∧i≤ns.length∧H1=H∧(∀x∈ns.take i,p x=false)∧e1=[(0,.c c),(1,.c (.fn f caps)),(7,.c (.int .i64 ns.length)),(8,.c (.int .i64 i))]) ns.length ?_ ?_))
 ·exact⟨0,ZT,ZT,rfl,ZV,rfl⟩
 ·rintro m e1 H1 ⟨i,hm,hi,rfl,bO,rfl⟩;refine Za ?_;refine Qf (Qb rfl ?_ ?_)
  ·intro hc;have af:i<ns.length:=ZU
   have kE:ns.getD i 0=ns[i]:=by simp[Jv,af]
   refine Ze ?_;refine Qf (Qg ?_);refine Za ?_;refine Qa ?_;simp only[go_sem,bf,aM,aO,di,af,CA,Q25 _ _ af];refine hf _ _ (by rw[kE];exact Jj af) ?_;refine Qb rfl ?_ ?_
   ·intro au;refine Za ?_;refine Qi ?_;simp only[go_sem,X.next,Qq,Q0,Jb,forall_eq,RS.op];refine hK _ ?_;have:ns.any p=true:=Jav.2 ⟨ns[i],Jj af,by rw[←kE];exact au⟩;rw[this];simp
   ·intro au;refine Ze ?_;refine Zo ?_;refine⟨Qv,ns.length-(i+1),ZT,i+1,rfl,ZT,?_,rfl⟩;rw[Jp af];intro x hx;rcases Jd.1 hx with hx|hx
    ·exact bO x hx
    ·simp only[Jb]at hx;subst hx;rw[←kE];exact au
  ·intro hc;have aV:ns.length≤i:=ZU
   rw[Jq aV]at bO;refine Zm ?_;refine Za ?_;refine Zs ?_;refine hK _ ?_;have:ns.any p=false:=by
    cases hc:ns.any p with
    |false=>rfl
    |true=>obtain⟨x,hx,hp⟩:=Jav.1 hc;rw[bO x hx]at hp;exact absurd hp ZV
   rw[this];rfl
theorem Qaph {c:C}{ns:List Int}{f:Nat}{caps:List C}{p:Int→Bool}(hs:Slc H 1 (Ar ns) c)(an:c.ah=false)
  (hf:∀(x:Int) (K':V→Heap→Prop),x∈ns→K' (.c (.bool (p x))) H→Qm prog f ([.c (.int .i64 x)]++caps.map .c) H K')
  (hK:K (.c (.bool (ns.any p))) H):Qm prog VE [.c c,.c (.fn f caps)] H K:=by
 refine Qc Aa Q9z ?_;refine Za ?_;refine Za ?_;refine Qa1y hs an hf fun r hr=>?_;simp only[go_sem,E8];refine Zs ?_;rw[hr];exact hK
end Go.AE.Y
namespace Go.AE.Y
open Go.Proofs.Tryz
variable {H H0:Heap}{K:V→Heap→Prop}
theorem Qa2v (l:List Nat)(i:Nat)(h:i<l.length):(Ao l).getD i []=[.int .i64 ((l.getD i 0:Nat):Int)]:=by
 simp[Ao,Ar,Jv,h]
end Go.AE.Y
namespace Go.AE.Y
open Go.Proofs.Tryz
variable {H H0:Heap}{K:V→Heap→Prop}{E B Lg:List (Nat×Obj)}
theorem Kl {fl:Bool}{ns:List Int}{L:List (Nat×Obj)}(kn:Kn H0 H E L)(hl:ns.length≤LIM)(hK:∀t Lg H',Gr Lg 1 (Ar ns) t→t.ah=false→Kn H0 H' E (L++Lg)→K (.c t) H') :
  Qm prog NT [.c (.sl fl 1 (Ar ns))] H K:=by
 refine Qc Aa Qba1 ?_;refine Za ?_;refine Qz (Qa ?_);simp only[go_sem];intro b hb;refine Qf (Qb rfl ?_ ?_)
 ·intro nk;have hn:=hb nk;refine Za ?_;refine Zs ?_;refine hK _ [] H ?_ rfl ZaW;rw[hn];exact .nil 1
 ·intro lK;refine Ze ?_;refine Qa ?_;simp only[go_sem,CA];refine⟨.inl trivial,D2 _,ZT,fun z hz H1 h1=>?_⟩;have kn:=kn.al hz h1;simp only[go_sem,Q8w];refine Zs ?_;exact hK _ _ H1 (.mk z 1 _ (by rw[CA];omega)) rfl kn
end Go.AE.Y
namespace Go.AE.Y
open Go.Proofs.Tryz
theorem Qba2:mFn prog NS 2 26 Pg Ab=true:=ZW
end Go.AE.Y
namespace Go.AE.Y
attribute [local go_sem] cond_true cond_false Bool.not_true Bool.not_false
open Go.Proofs.Tryz
variable {H H0 F:Heap}{K:V→Heap→Prop}{E B Lg:List (Nat×Obj)}{fns:List Fn}
theorem Pt {S:Nat→Bool}{rows:List (List C)}{fl:Bool}(hr:∀r∈rows,ai r=true)(b:Bool):FrzV H S (.tup [.ag [.sl fl 3 rows],.c (.bool b)]) (.tup [.ag [.sl false 3 rows],.c (.bool b)]):=by
 refine .tup _ _ rfl fun j x x' h1 h2=>?_;rcases j with _|_|j
 ·simp only[Jag,Jx]at h1 h2;subst h1 h2;exact (FrzL.cons (FrzR.same hr).sl .nil).ag
 ·simp only[List.getElem?_cons_succ,Jag,Jx]at h1 h2;subst h1 h2;exact .c _ _ (Qe rfl)
 ·simp at h1
theorem Qayn (h:AW fns=true):∀f∈fns,f.params.length≤3:=by
 intro f hf;simp only[AW,Jk,decide_eq_true_eq,J6]at h;have:=h.1.2 f hf;rw[Fn.form]at this;simp only[Jk,decide_eq_true_eq]at this;exact this.1.2
end Go.AE.Y
namespace Go.AE.Y
open Go.Proofs.Tryz
def Qkh:=dY 0x41e0101371d1f062
def Q3x:=dW 0x721108f011020331 [] [Qkh] [eI 5 (.call VA [.t 4,.k (.c (.fn TO []))])]
def Qaav:=dZ 0x9012037132f090121 Q3x
theorem Q9r:mFn prog Qna 1 7 Qaav Ak=true:=ZW
end Go.AE.Y
namespace Go.AE
variable {H0 H H':Heap}{E L M M1 M1' A B:List (Nat×Obj)}
theorem OwL.uncons {r a:List C}{td rest:List (List C)}(h:OwL L (r::td).flatten (a::rest).flatten)(hl:r.length=a.length):∃L1 L2,L=L1++L2∧OwL L1 r a∧OwL L2 td.flatten rest.flatten:=by
 rw[List.flatten_cons,List.flatten_cons]at h;obtain⟨L1,L2,a',b',rfl,h1,h2,h3⟩:=h.split;obtain⟨rfl,rfl⟩:=List.append_inj h1 (by rw[h2.len,hl]);exact⟨L1,L2,rfl,h2,h3⟩
theorem OwS.vecs {sz:Nat}{rows':List (List C)}{t:C}(h:OwS L sz rows' t):∀p∈L,p.2≠.none:=fun p hp=>by
 obtain⟨z,r,h1,_⟩:=h.one.vecs p hp;rw[h1];nofun
theorem Yr {dn td:List (List C)}{r:List C}{i:Nat}(h:dn.length=i):(dn++r::td).getD (0+i) []=r:=by
 rw[Jr,Jv,Jae ZT];simp[h]
theorem IU {dn td:List (List C)}{r:List C}{i:Nat}(h:dn.length=i):(dn++r::td).getD i []=r:=by
 rw[Jv,Jae ZT];simp[h]
theorem XI {dn td:List (List C)}{r r':List C}{i:Nat}(h:dn.length=i):(dn++r::td).set (0+i) r'=dn++r'::td:=by
 rw[Jr,List.set_append_right _ _ ZT];simp[h]
end Go.AE
namespace Go.AE.Y
attribute [local go_sem] cond_true cond_false Bool.not_true Bool.not_false
open Go.Proofs.Tryz
variable {H H0 F:Heap}{K:V→Heap→Prop}{fns:List Fn}
theorem OwL.ex {L:List (Nat×Obj)}{cs:List C}{x:Ex}(h:OwL L cs x.cells):∃t,cs=[.int .i64 x.op,.int .i64 x.n,.str x.name,t]∧OwS L 4 (Ql x.kids) t:=by
 rw[x.aa]at h;obtain⟨c1,e1,h1⟩:=h.inv_atom rfl;obtain⟨c2,e2,h2⟩:=h1.inv_atom rfl;obtain⟨c3,e3,h3⟩:=h2.inv_atom rfl;obtain⟨t,e4,h4⟩:=h3.inv_one;exact⟨t,by rw[e1,e2,e3,e4],h4⟩
theorem OwL.st {L:List (Nat×Obj)}{cs:List C}{x:St}(h:OwL L cs x.cells):∃La Lb Lc ta tb tc,cs=[.int .i64 x.op,.str x.name,ta,tb,tc]∧L=La++(Lb++Lc)∧OwS La 4 (Ql x.args) ta∧OwS Lb 5 (Qk x.body) tb∧OwS Lc 5 (Qk x.els) tc:=by
 rw[x.aa]at h;obtain⟨c1,e1,h1⟩:=h.inv_atom rfl;obtain⟨c2,e2,h2⟩:=h1.inv_atom rfl;obtain⟨ta,c3,La,L2,e3,f3,ha,h3⟩:=h2.inv_sl;obtain⟨tb,c4,Lb,L3,e4,f4,hb,h4⟩:=h3.inv_sl;obtain⟨tc,e5,hc⟩:=h4.inv_one;exact⟨La,Lb,L3,ta,tb,tc,by rw[e1,e2,e3,e4,e5],by rw[f3,f4],ha,hb,hc⟩
end Go.AE.Y
namespace Go.AE.Y
attribute [local go_sem] cond_true cond_false Bool.not_true Bool.not_false
attribute [local instance] Classical.propDecidable
open Go.Proofs.Tryz
variable {H H0 F:Heap}{K:V→Heap→Prop}{E B Lg:List (Nat×Obj)}{fns:List Fn}
theorem Gr.slc2 {sz:Nat}{rows:List (List C)}{c:C}(h:Gr Lg sz rows c)(kn:Kn H0 H E (B++Lg)):Slc H sz rows c:=⟨h.aT kn,h.aN,h.rowsOf kn,h.a9⟩
end Go.AE.Y
namespace Go.AE
variable {H0 H H1:Heap}{E L N Lg B:List (Nat×Obj)}{sz:Nat}{rows rows':List (List C)}{c:C}{S:Nat→Bool}
theorem Slc.kn (h:Slc H sz rows c)(kn:Kn H H1 [] L):Slc H1 sz rows c:=by
 match c,h with
 |.sl f z r,h=>exact⟨trivial,h.sz,h.rows,h.len⟩
 |.aw l a st n,h=>
  have hl:H l≠.none:=fun e=>by
   have:=h.ok;simp only[aT,e]at this
  have he:=kn.chg l hl ZV;have h1:=h.ok;have h2:=h.rows;simp only[aT,rowsOf]at h1 h2;refine⟨?_,h.sz,?_,h.len⟩
  ·simp only[aT,he];exact h1
  ·simp only[rowsOf,he];exact h2
theorem Kn.addNew (kn:Kn H0 H E L)(k2:Kn H H1 [] N):Kn H0 H1 E (L++N):=by
 refine⟨fun p hp=>?_,kn.ext,fun p hp=>?_,kn.dE,?_,fun m hm hn=>?_⟩
 ·rcases Jd.1 hp with hp|hp
  ·obtain⟨h1,h2⟩:=kn.get p (Jc _ hp);rw[k2.chg p.1 Zbb ZV];exact⟨h1,h2⟩
  ·rcases Jd.1 hp with hp|hp
   ·obtain⟨h1,h2⟩:=kn.get p (Ja _ hp);rw[k2.chg p.1 Zbb ZV];exact⟨h1,h2⟩
   ·exact k2.get p Zat
 ·rcases Jd.1 hp with hp|hp
  ·exact kn.loc p hp
  ·exact (kn.newFree (k2.loc p hp)).1
 ·rw[Ji];refine J5.2 ⟨kn.dL,k2.dL,fun a ha b hb cK=>?_⟩;obtain⟨p,hp,rfl⟩:=J1.1 hb;exact (kn.newFree (k2.loc p hp)).2.2 (cK▸ha)
 ·rw[k2.chg m (by rw[kn.chg m hm hn];exact hm) ZV,kn.chg m hm hn]
theorem Gr.frzm (h:Gr Lg sz rows c)(hm:∀p∈Lg,H p.1=p.2∧S p.1=true)(hr:Y.FrzR H S rows rows'):FrzC H S c (.sl false sz rows'):=by
 rcases h with ⟨rfl,rfl,rfl⟩|⟨y,rfl,rfl⟩
 ·cases hr;exact Y.FrzR.nil.sl
 ·obtain⟨h1,h2⟩:=hm (y,.vec sz rows) ZV;exact hr.aw h2 h1 rfl
theorem Kn.frzN (kn:Kn H0 H E (B++Lg)):Kn H0 (H.frz fun m=>(Lg.map Prod.fst).contains m) E B:=by
 have hd:=kn.dL;rw[Ji]at hd;obtain⟨d1,d2,d3⟩:=J5.1 hd;have key:∀m,m∉Lg.map Prod.fst→(H.frz fun m=>(Lg.map Prod.fst).contains m) m=H m:=fun m hm=>by
  have:(Lg.map Prod.fst).contains m=false:=by
   cases hc:(Lg.map Prod.fst).contains m with
   |false=>rfl
   |true=>exact absurd (Jaa.1 hc) hm
  simp only[Heap.frz,this];rfl
 refine⟨fun p hp=>?_,kn.ext,fun p hp=>kn.loc p (Jc _ hp),kn.dE,d1,fun m hm hx=>?_⟩
 ·have hg:H p.1=p.2∧p.2≠.none:=kn.get p (by
   rcases Jd.1 hp with h|h
   ·exact Jc _ h
   ·exact Ja _ (Jc _ h))
  refine⟨?_,hg.2⟩;rw[key p.1 (fun hh=>?_)];exact hg.1;rcases Jd.1 hp with h|h
  ·obtain⟨r,hr,he⟩:=J1.1 hh;exact kn.ext p h (he▸kn.loc r (Ja _ hr))
  ·exact d3 _ (AR h) _ hh rfl
 ·rw[key m (fun hh=>?_)];exact kn.chg m hm hx;obtain⟨r,hr,he⟩:=J1.1 hh;exact hm (he▸kn.loc r (Ja _ hr))
theorem DR {p:Nat×Obj}(h:p∈Lg):(fun m=>(Lg.map Prod.fst).contains m) p.1=true:=Jaa.2 (AR h)
theorem Kn.frzS_out (kn:Kn H0 H E (B++Lg)){p:Nat×Obj}(h:p∈B):(fun m=>(Lg.map Prod.fst).contains m) p.1=false:=by
 have hd:=kn.dL;rw[Ji]at hd
 cases hc:(Lg.map Prod.fst).contains p.1 with
 |false=>exact hc
 |true=>exact absurd rfl ((J5.1 hd).2.2 _ (AR h) _ (Jaa.1 hc))
end Go.AE
namespace Go.AE.Y
attribute [local go_sem] cond_true cond_false Bool.not_true Bool.not_false
open Go.Proofs.Tryz
variable {H H0 F:Heap}{K:V→Heap→Prop}{E B Lg:List (Nat×Obj)}{fns:List Fn}{S:Nat→Bool}
theorem Hc {α β:Type}{f:α→List C}{g:β→List C}{d:α→β}:∀(l:List α),(∀x∈l,FrzL H S (f x) (g (d x)))→FrzR H S (l.map f) ((l.map d).map g)
 |[],_=>.nil
 |x::l,h=>.cons (h x Jy) (Hc l fun z hz=>h z (Js _ hz))
structure OSt where
 x:St
 ac:C
 al:List (Nat×Obj)
def OSt.row (o:OSt):List C:=[.int .i64 o.x.op,.str o.x.name,o.ac,.sl false 5 (Qk o.x.body),.sl false 5 (Qk o.x.els)]
def OSt.ok (o:OSt):Prop:=Gr o.al 4 (Ql o.x.args) o.ac
theorem OSt.ai {o:OSt}(h:o.ok):Go.AE.ai o.row=true:=by
 have:=h.ah;simp only[OSt.row,Go.AE.ai,Jz,J3,Dg,CH,Df,this];rfl
theorem OSt.frz {o:OSt}(h:o.ok)(hm:∀p∈o.al,H p.1=p.2∧S p.1=true):FrzL H S o.row o.x.cells:=by
 rw[o.x.aa];exact .cons (Qe rfl) (.cons (Qe rfl) (.cons (Gr.frzm h hm (FrzR.same (Bb _))) (.cons (FrzR.same (AQ _)).sl (.cons (FrzR.same (AQ _)).sl .nil))))
theorem F3 {os:List OSt}{Lz:List (Nat×Obj)}{t:C}(ho:∀o∈os,o.ok)(hz:Gr Lz 5 (os.map OSt.row) t)(hm:∀p∈os.flatMap OSt.al++Lz,H p.1=p.2∧S p.1=true):FrzC H S t (.sl false 5 (Qk (os.map OSt.x))):=by
 rw[Dj];refine Gr.frzm hz (fun p hp=>hm p (Ja _ hp)) (Hc os fun o cn=>OSt.frz (ho o cn) fun p hp=>hm p (Jc _ (Jn.2 ⟨o,cn,hp⟩)))
theorem Qblv:∀(n:Nat) (x:Ex) {H:Heap} {K:V→Heap→Prop},x.size≤n→(∀H',Upd H H' []→K (.ag x.cells) H')→Qm prog KN [.ag x.cells] H K:=by
 intro n
 induction n with
 |zero=>intro x H K h;have:=x.size_pos;omega
 |succ n ih=>
 intro x H K hn hK;have aO:=x.size_kids;refine Q1 ?_;refine Qc Aa Qbma ?_;refine Zu ?_;intro x1 dD H1 h1;have kn:=(Kn.ao H).al dD h1;simp only[go_sem,E5];intro x2 bB H2 h2;have kn:Kn H H2 [] ([(x1,exO x.op x.n x.name (.sl false 4 (Ql x.kids))),(x2,exO 0 0 [] (.sl true 4 []))]):=kn.al bB h2;refine Za ?_;refine Qz (Qa ?_);simp only[go_sem];refine Qf (Qg (Q3 (fun m e2 H2=>∃(j:Nat) (Lk:List (Nat×Obj)) (t:C),m=x.kids.length-j∧j≤x.kids.length∧Gr Lk 4 (Ql (x.kids.take j)) t∧
  Kn H H2 [] ([(x1,exO x.op x.n x.name (.sl false 4 (Ql x.kids))),(x2,exO 0 0 [] (.sl true 4 []))]++Lk)∧
  e2=[(1,.c (.ptr x1 0)),(2,.c (.ptr x2 0)),(3,.c t),(4,.c (.int .i64 j))]) x.kids.length ?_ ?_))
 ·exact⟨0,[],.sl true 4 [],ZT,ZT,.nil 4,kn,rfl⟩
 ·clear kn;rintro m e2 H3 ⟨j,Lk,t,hm,hj,jq,kn,rfl⟩;have aq:=jq.ah;have g1:=kn.l 0 rfl;refine Qz (Qa ?_);simp only[go_sem,g1,aq,Qh];intro hl;simp only[LIM]at hl;refine Qf (Qb rfl ?_ ?_)
  ·intro hc;have af:j<x.kids.length:=ZU
   have dc:=Bn (Jj af);obtain⟨y,hy⟩:∃y,x.kids[j]=y:=⟨_,rfl⟩;have aY:Ql (x.kids.take (j+1))=Ql (x.kids.take j)++[y.cells]:=by
    rw[Dm,Jp af,hy]
   rw[hy]at dc;refine Zc ?_
   refine Qf (Qg ?_);refine Qr ?_;simp only[go_sem,g1,aq,af,Qh,Qs _ _ af,hy,Ex.bA,Ex.aU,Ex.ae];refine ih y ZT fun H5 hu=>?_;have kn:=kn.ay hu;simp only[go_sem,DS,aq,y.ae];refine kn.aQ jq (new:=[y.cells]) (.mk' _ true 4 _) Zbv ZbF fun t' Lk' H6 eP aR kn=>?_;rw[←aY]at eP;simp only[go_sem,FH,aR];refine Zl aR ?_;exact⟨Qv,x.kids.length-(j+1),ZT,j+1,Lk',t',rfl,ZT,eP,kn,rfl⟩
  ·intro hc;have aV:x.kids.length≤j:=ZU
   rw[Jq aV]at jq;refine Zg ?_;refine Zi g1 aq ?_;intro H4 h4;have kn:=kn.ax 0 rfl h4;have g1:=kn.l 0 rfl;have g2:=kn.l 1 rfl;refine Zr g1 g2 aq ?_;intro H5 h5;have kn:=kn.ax 1 rfl h5;have g2:=kn.l 1 rfl;refine ZK g2 aq ?_;rw[x.aa]at hK;exact⟨_,(FrzL.cons (Qe rfl) (.cons (Qe rfl) (.cons (Qe rfl) (.cons (jq.frz (B:=[_,_]) kn (Bb _)) .nil)))).ag,hK _ kn.fin⟩
structure SRd (H:Heap)(rows:List (List C))(l:List St):Prop where
 len:rows.length=l.length
 get:∀i (h:i<l.length),∃ac:C,rows.getD i []=[.int .i64 l[i].op,.str l[i].name,ac,.sl false 5 (Qk l[i].body),.sl false 5 (Qk l[i].els)]∧ac.ah=false∧Slc H 4 (Ql l[i].args) ac
theorem SRd.fz (H:Heap)(l:List St):SRd H (Qk l) l:=⟨Qp l,fun i h=>⟨.sl false 4 (Ql l[i].args),by rw[Q9 _ _ h,St.aa],rfl,.mk' H false 4 _⟩⟩
theorem SRd.kn {H1:Heap}{L:List (Nat×Obj)}{rows:List (List C)}{l:List St}(h:SRd H rows l)(kn:Kn H H1 [] L):SRd H1 rows l:=⟨h.len,fun i hi=>by
 obtain⟨ac,h1,h2,h3⟩:=h.get i hi;exact⟨ac,h1,h2,h3.kn kn⟩⟩
theorem OSt.slc {o:OSt}(h:o.ok)(hm:∀p∈o.al,H p.1=p.2):Slc H 4 (Ql o.x.args) o.ac:=by
 have hk:Gr o.al 4 (Ql o.x.args) o.ac:=h;refine⟨?_,hk.aN,?_,hk.a9⟩
 ·rcases hk with ⟨h1,h2,h3⟩|⟨y,h1,h2⟩
  ·rw[h1];trivial
  ·have:H y=.vec 4 (Ql o.x.args):=hm (y,_) ZaI;rw[h1];simp[aT,this]
 ·rcases hk with ⟨h1,h2,h3⟩|⟨y,h1,h2⟩
  ·rw[h1,h2];rfl
  ·have:H y=.vec 4 (Ql o.x.args):=hm (y,_) ZaI;rw[h1];simp[rowsOf,this]
theorem SRd.os {os:List OSt}(ho:∀o∈os,o.ok)(hm:∀p∈os.flatMap OSt.al,H p.1=p.2):SRd H (os.map OSt.row) (os.map OSt.x):=by
 refine⟨ZV,fun i hi=>?_⟩;have lc:i<os.length:=by simpa using hi
 have aZ:=Jj lc;refine⟨os[i].ac,?_,(ho _ aZ).ah,?_⟩
 ·simp[Jv,lc,OSt.row]
 ·rw[Jai];exact OSt.slc (ho _ aZ) fun p hp=>hm p (Jn.2 ⟨_,aZ,hp⟩)
def StO (n:Nat):Prop:=∀(l:List St) (rows:List (List C)) (c:C) (H:Heap) (K:V→Heap→Prop),Qj l≤n→Qj l≤2^38→c.ah=false→Slc H 5 rows c→SRd H rows l→
 (∀(os:List OSt) t Lz H',os.map OSt.x=l→(∀o∈os,o.ok)→Gr Lz 5 (os.map OSt.row) t→Kn H H' [] (os.flatMap OSt.al++Lz)→K (.c t) H')→Qm prog Q9g [.c c] H K
theorem Is {n:Nat}(h:StO n){l:List St}{f:Bool}{H:Heap}{K:V→Heap→Prop}(hn:Qj l≤n)(hb:Qj l≤2^38)(hK:∀H',Upd H H' []→K (.c (.sl false 5 (Qk l))) H'):Qm prog Q9g [.c (.sl f 5 (Qk l))] H K:=by
 refine Q1 (h l (Qk l) (.sl f 5 (Qk l)) H _ hn hb rfl (.mk' H f 5 _) (.fz H l) fun os t Lz H' hx ho hz kn=>?_);refine⟨_,.c _ _ (F3 ho hz fun p hp=>⟨(kn.get p Zat).1,BP (kn.loc p hp)⟩),?_⟩;rw[hx];exact hK _ kn.fin
theorem Id:∀n,StO n:=by
 intro n
 induction n using Nat.strongRecOn with
 |_ n ih=>
 intro l rows c H K hn hb an iU bG hK;have od:=BM l;have co:=bG.len;refine Qc Aa Qbg6 ?_;refine Zd an ?_;refine Zd an ?_;refine Qz (Qa ?_);simp only[go_sem,an];refine Qf (Qg (Q3 (fun m e1 H1=>∃(i:Nat) (os:List OSt) (Lz:List (Nat×Obj)) (t:C),m=l.length-i∧i≤l.length∧os.map OSt.x=l.take i∧(∀o∈os,o.ok)∧Gr Lz 5 (os.map OSt.row) t∧Kn H H1 [] (os.flatMap OSt.al++Lz)∧
  e1=[(0,.c c),(3,.c t),(4,.c (.int .i64 i))]) l.length ?_ ?_))
 ·exact⟨0,[],[],.sl true 5 [],ZT,ZT,ZV,ZV,.nil 5,Kn.ao H,rfl⟩
 ·rintro m e1 H1 ⟨i,os,Lz,t,hm,hi,jK,ho,hz,kn,rfl⟩;have aq:=hz.ah;have cd:=iU.kn kn;have bf:=eq_true cd.ok;have di:=cd.rows;have cO:=cd.len;have aO:=cd.sz;rw[co]at cO;refine Qz (Qa ?_);simp only[go_sem,an,bf,cO,aq];intro hl;simp only[LIM]at hl;refine Qf (Qb rfl ?_ ?_)
  ·intro hc;have af:i<l.length:=ZU
   have dc:=Bw (Jj af);obtain⟨x,hx⟩:∃x,l[i]=x:=⟨_,rfl⟩;rw[hx]at dc;have gW:=x.size_eq;obtain⟨ac,aI,kd,_⟩:=bG.get i af;rw[hx]at aI;have pU:os.length=i:=by
    have:=congrArg List.length jK;rw[Je,J2]at this;omega
   refine Zc ?_
   refine Qf (Qg ?_);refine Qa ?_;simp only[go_sem,an,bf,cO,di,aO,aq,kd,af,aI];intro x5 cp H3 h3;have kn:Kn H H3 [] ((os.flatMap OSt.al++Lz)++(x5,.st [.int .i64 0,.str [],.sl true 4 [],.sl true 5 [],.sl true 5 []])::[]):=kn.al cp h3;have g5:=kn.getM;simp only[go_sem,Eh,g5,an,aq,kd];intro H4 h4;have kn:Kn H H4 [] ((os.flatMap OSt.al++Lz)++(x5,stX x.op x.name ac (.sl false 5 (Qk x.body)) (.sl false 5 (Qk x.els)))::[]):=kn.stM h4;refine Zi an aq ?_;refine Qz (Qa ?_);simp only[go_sem,an,aq];refine Qf (Qg (Q3 (fun m2 e2 H5=>∃(j:Nat) (La:List (Nat×Obj)) (ta:C),m2=x.args.length-j∧j≤x.args.length∧Gr La 4 (Ql (x.args.take j)) ta∧Kn H H5 [] ((os.flatMap OSt.al++Lz)++(x5,stX x.op x.name ac (.sl false 5 (Qk x.body)) (.sl false 5 (Qk x.els)))::La)∧
    e2=[(0,.c c),(3,.c t),(4,.c (.int .i64 i)),(5,.c (.ptr x5 0)),(6,.c ta),(7,.c (.int .i64 j))]) x.args.length ?_ ?_))
   ·exact⟨0,[],.sl true 4 [],ZT,ZT,.nil 4,kn,rfl⟩
   ·clear kn g5 h4 h3;rintro m2 e2 H5 ⟨j,La,ta,aZ,hj,jr,kn,rfl⟩;have dx:=jr.ah;have g5:=kn.getM;obtain⟨ac',dq,haw',jI⟩:=(bG.kn kn).get i af;rw[hx]at dq jI;have sn:ac=ac':=by
     rw[aI]at dq;simp only[List.cons.injEq]at dq;exact dq.2.2.1
    subst sn;have kW:=eq_true jI.ok;have qR:=jI.rows;have mT:=jI.len;have qM:=jI.sz;rw[Qh]at mT;refine Qz (Qa ?_);simp only[go_sem,an,kd,aq,dx,g5,kW,mT];intro eW;simp only[LIM]at eW;refine Qf (Qb rfl ?_ ?_)
    ·intro au;have aD:j<x.args.length:=ZZ;have oH:=Bn (Jj aD);obtain⟨y,hy⟩:∃y,x.args[j]=y:=⟨_,rfl⟩;have aY:Ql (x.args.take (j+1))=Ql (x.args.take j)++[y.cells]:=by
      rw[Dm,Jp aD,hy]
     refine Zc ?_
     refine Qf (Qg ?_);refine Qr ?_;simp only[go_sem,an,kd,aq,dx,g5,kW,mT,qR,qM,aD,Qs _ _ aD,hy,Ex.bA,Ex.aU,Ex.ae];refine Qblv y.size y (Jl _) fun H6 hu=>?_;have kn:=kn.ay hu;simp only[go_sem,an,kd,Ef,aq,dx,y.ae];have kn:Kn H H6 [] (((os.flatMap OSt.al++Lz)++[(x5,stX x.op x.name ac (.sl false 5 (Qk x.body)) (.sl false 5 (Qk x.els)))])++La):=(by rw[Jh _ [_]];exact kn);refine kn.aQ jr (new:=[y.cells]) (.mk' _ true 4 _) Zbv ZbF fun ta' La' H7 ie ip kn=>?_;rw[←aY]at ie;simp only[go_sem,an,kd,FY,aq,ip];refine Qr ?_;simp only[go_sem,AE.X.next,an,kd,aq,ip];refine⟨Qv,x.args.length-(j+1),ZT,j+1,La',ta',rfl,ZT,ie,?_,rfl⟩;rw[Jh _ [_]]at kn;exact kn
    ·intro au;have jV:x.args.length≤j:=ZZ;rw[Jq jV]at jr;refine Zg ?_;refine Bf ?_;simp only[go_sem,an,kd,aq,dx,g5];refine Is (ih (Qj x.body) ZT) (Jl _) ZT fun H6 hu=>?_;have kn:=kn.ay hu;have g5:=kn.getM;simp only[go_sem,an,kd,Ox,aq,dx,g5];refine Is (ih (Qj x.els) ZT) (Jl _) ZT fun H7 hu=>?_;have kn:=kn.ay hu;have g5:=kn.getM;simp only[go_sem,an,kd,Oy,aq,dx,g5];have kn:Kn H H7 [] ((os.flatMap OSt.al++(x5,stX x.op x.name ac (.sl false 5 (Qk x.body)) (.sl false 5 (Qk x.els)))::La)++Lz):=kn.perm (by
      rw[Jh,Jh];exact Jak _ Jo)
     have bf:OSt.ok ⟨x,ta,La⟩:=jr;refine kn.aQ hz (new:=[OSt.row ⟨x,ta,La⟩]) (.mk' _ true 5 _) (by simpa using OSt.ai bf) (by simp only[Je,Jf,Jg,LIM];omega) fun t' Lz' H8 bF aR kn=>?_;have kn:Kn H H8 [] ((os++[(⟨x,ta,La⟩:OSt)]).flatMap OSt.al++Lz'):=by
      refine kn.sub ?_;rw[Jab,Jat,Jaw,J4];exact List.Sublist.append (List.Sublist.append (List.Sublist.refl _) (List.sublist_cons_self _ _)) (List.Sublist.refl _)
     simp only[go_sem,an,kd,Oz,aR];refine Qr ?_;simp only[go_sem,AE.X.next,an,aR];refine⟨Qv,l.length-(i+1),ZT,i+1,os++[(⟨x,ta,La⟩:OSt)],Lz',t',rfl,ZT,?_,?_,?_,kn,rfl⟩
     ·rw[Ji,jK,Jp af,hx];rfl
     ·intro o cn;rcases Jd.1 cn with cn|cn
      ·exact ho o cn
      ·simp only[Jb]at cn;subst cn;exact bf
     ·rw[Ji];exact bF
  ·intro hc;have aV:l.length≤i:=ZU
   rw[Jq aV]at jK;refine Zg ?_;refine Zd aq ?_;refine Zz aq ?_;exact hK os t Lz _ jK ho hz kn
theorem Qbhp (A B C D:List (Nat×Obj)):(((A++B)++C)++D).Perm ((A++(C++D))++B):=by
 simp only[Jh];refine Jak _ (Jo.trans ?_);simp only[Jh];exact .refl _
structure OFn where
 f:Fn
 pc:C
 pl:List (Nat×Obj)
 os:List OSt
 bc:C
 bl:List (Nat×Obj)
def OFn.row (u:OFn):List C:=[.str u.f.name,u.pc,u.bc]
def OFn.lg (u:OFn):List (Nat×Obj):=u.pl++(u.os.flatMap OSt.al++u.bl)
structure OFn.ok (u:OFn):Prop where
 p:Gr u.pl 1 (Q5 u.f.params) u.pc
 o:∀o∈u.os,o.ok
 b:Gr u.bl 5 (u.os.map OSt.row) u.bc
 x:u.os.map OSt.x=u.f.body
theorem OFn.ai {u:OFn}(h:u.ok):Go.AE.ai u.row=true:=by
 have h1:=h.p.ah;have h2:=h.b.ah;simp only[OFn.row,Go.AE.ai,Jz,J3,CH,h1,h2];rfl
theorem OFn.frz {u:OFn}(h:u.ok)(hm:∀p∈u.lg,H p.1=p.2∧S p.1=true):FrzL H S u.row u.f.cells:=by
 have hb:=F3 (H:=H) (S:=S) h.o h.b fun p hp=>hm p (Ja _ hp);rw[h.x]at hb;exact .cons (Qe rfl) (.cons (Gr.frzm h.p (fun p hp=>hm p (Jc _ hp)) (FrzR.same (CJ _))) (.cons hb .nil))
theorem PV {us:List OFn}{Lz:List (Nat×Obj)}{t:C}(ho:∀u∈us,u.ok)(hz:Gr Lz 3 (us.map OFn.row) t)(hm:∀p∈us.flatMap OFn.lg++Lz,H p.1=p.2∧S p.1=true):FrzC H S t (.sl false 3 (Qo (us.map OFn.f))):=
 Gr.frzm hz (fun p hp=>hm p (Ja _ hp)) (Hc us fun o cn=>OFn.frz (ho o cn) fun p hp=>hm p (Jc _ (Jn.2 ⟨o,cn,hp⟩)))
theorem FX {l:List Fn}{c:C}(an:c.ah=false)(hs:Slc H 3 (Qo l) c)(hb:Qn l≤2^38)(hp:∀f∈l,f.params.length≤2^38)
  (hK:∀(us:List OFn) t Lz H',us.map OFn.f=l→(∀u∈us,u.ok)→Gr Lz 3 (us.map OFn.row) t→t.ah=false→Kn H H' [] (us.flatMap OFn.lg++Lz)→K (.ag [t]) H'):Qm prog FL [.ag [c]] H K:=by
 refine Qc Aa Qbme ?_;refine Zd an ?_;intro x2 bB H1 h1;have kn:=(Kn.ao H).al bB h1;refine Zd an ?_;intro x3 bQ H2 h2;have kn:=kn.al bQ h2;have g3:=kn.l 1 rfl;simp only[go_sem,Nd,g3,an];intro H3 h3;have kn:Kn H H3 [] ((x2,.st [.sl true 3 []])::(x3,.st [.sl true 3 []])::([]++[])):=kn.ax 1 rfl h3;refine Qz (Qa ?_);simp only[go_sem,an];refine Qf (Qg (Q3 (fun m e1 H1=>∃(i:Nat) (us:List OFn) (Lz:List (Nat×Obj)) (t:C),m=l.length-i∧i≤l.length∧us.map OFn.f=l.take i∧(∀o∈us,o.ok)∧Gr Lz 3 (us.map OFn.row) t∧
  Kn H H1 [] ((x2,.st [.sl true 3 []])::(x3,.st [t])::(us.flatMap OFn.lg++Lz))∧
  e1=[(1,.c (.pp [c])),(2,.c (.ptr x2 0)),(3,.c (.ptr x3 0)),(4,.c (.int .i64 i))]) l.length ?_ ?_))
 ·exact⟨0,[],[],.sl true 3 [],ZT,ZT,ZV,ZV,.nil 3,kn,rfl⟩
 ·clear kn g3 h3 h2 h1;rintro m e1 H1 ⟨i,us,Lz,t,hm,hi,eS,hu,hz,kn,rfl⟩;have aq:=hz.ah;have cd:=hs.kn kn;have bf:=eq_true cd.ok;have di:=cd.rows;have cO:=cd.len;have aO:=cd.sz;rw[Qu]at cO;refine Qz (Qa ?_);simp only[go_sem,an,aq,bf,cO];intro hl;simp only[LIM]at hl;refine Qf (Qb rfl ?_ ?_)
  ·intro hc;have af:i<l.length:=ZU
   have dc:=Cm (Jj af);have eH:=hp _ (Jj af);obtain⟨x,hx⟩:∃x,l[i]=x:=⟨_,rfl⟩;rw[hx]at dc eH;have kO:us.length=i:=by
    have:=congrArg List.length eS;rw[Je,J2]at this;omega
   refine Zc ?_
   refine Qf (Qg ?_);refine Qa ?_;simp only[go_sem,an,aq,bf,cO,di,aO,af,AB _ _ af,hx,Fn.cells];intro x5 cp H3 h3;have kn:=(kn.al cp h3).perm (L':=(x2,.st [.sl true 3 []])::(x3,.st [t])::(x5,_)::(us.flatMap OFn.lg++Lz)) (.cons _ (.cons _ Jo));have g5:=kn.l 2 rfl;simp only[go_sem,Nc,g5,an,aq];intro H4 h4;have kn:Kn H H4 [] ((x2,.st [.sl true 3 []])::(x3,.st [t])::(x5,fnO x)::(us.flatMap OFn.lg++Lz)):=kn.ax 2 rfl h4;have g5:=kn.l 2 rfl;have g3:=kn.l 1 rfl;refine Bf ?_;simp only[go_sem,g5,g3,an,aq,Qt];refine⟨.inl trivial,CJ _,by simp only[LIM];omega,fun z eD H5 h5=>?_⟩;have kn:=kn.al eD h5;have g5:=kn.l 2 rfl;have g3:=kn.l 1 rfl;simp only[go_sem,MY,g5,g3,an,aq];refine Id (Qj x.body) x.body _ (.sl false 5 (Qk x.body)) H5 _ (Jl _) ZT rfl (.mk' _ false 5 _) (.fz _ _) fun os tb Lb H6 jK ho sF k2=>?_;have kn:=kn.addNew k2;have bt:=sF.ah;have g5:=kn.l 2 rfl;have g3:=kn.l 1 rfl;simp only[go_sem,MZ,g5,g3,an,aq,bt];obtain⟨u,gQ⟩:∃u:OFn,u=⟨x,.aw z 1 0 (0+x.params.length),[(z,.vec 1 ([]++Q5 x.params))],os,tb,Lb⟩:=⟨_,rfl⟩;have jy:u.ok:=by
    rw[gQ];exact⟨by simpa using Gr.mk (n:=0+x.params.length) z 1 (Q5 x.params) (by rw[Qt];omega),ho,sF,jK⟩
   have qH:u.lg=[(z,.vec 1 ([]++Q5 x.params))]++(os.flatMap OSt.al++Lb):=by rw[gQ];rfl
   have cw:u.row=[.str x.name,.aw z 1 0 (0+x.params.length),tb]:=by rw[gQ];rfl
   have kn:Kn H H6 [] (((x2,.st [.sl true 3 []])::(x3,.st [t])::(x5,fnO x)::(us.flatMap OFn.lg++u.lg))++Lz):=kn.perm (by
    rw[qH];exact .cons _ (.cons _ (.cons _ (Qbhp _ _ _ _))))
   refine kn.aQ hz (new:=[u.row]) (by rw[cw];exact .mk' _ true 3 _) (by simpa using OFn.ai jy) (by simp only[Je,Jf,Jg,LIM];omega) fun t' Lz' H8 bF aR kn=>?_;have g3:=kn.l 1 rfl;simp only[go_sem,Nb,g3,an,aR];intro H9 h9;have kn:=kn.ax 1 rfl h9;have kn:Kn H H9 [] ((x2,.st [.sl true 3 []])::(x3,.st [t'])::((us++[u]).flatMap OFn.lg++Lz')):=by
    refine kn.sub ?_;rw[Jab,Jat,Jaw,J4];exact .cons_cons _ (.cons_cons _ (.cons _ (List.Sublist.refl _)))
   try simp only[go_sem,AE.X.next]
   refine Zl an ?_;refine⟨Qv,l.length-(i+1),ZT,i+1,us++[u],Lz',t',rfl,ZT,?_,?_,?_,kn,rfl⟩
   ·rw[Ji,eS,Jp af,hx,gQ];rfl
   ·intro o cn;rcases Jd.1 cn with cn|cn
    ·exact hu o cn
    ·simp only[Jb]at cn;subst cn;exact jy
   ·rw[Ji];exact bF
  ·intro hc;have aV:l.length≤i:=ZU
   rw[Jq aV]at eS;have g3:=kn.l 1 rfl;have g2:=kn.l 0 rfl;refine Zg ?_;refine Zr g3 g2 aq ?_;intro H3 h3;have kn:=kn.ax 0 rfl h3;have g2:=kn.l 0 rfl;refine ZK g2 aq ?_;exact hK us t Lz _ eS hu hz aq (kn.sub (.cons _ (.cons _ (List.Sublist.refl _))))
theorem HT (a b:List Fn):Qn (a++b)=Qn a+Qn b:=by
 induction a with
 |nil=>simp[Qn]
 |cons x r ih=>simp only[Jt,Qn,ih];omega
end Go.AE.Y
namespace Go.AE.Y
open Go.Proofs.Tryz
theorem RI {R : Rdr} {fl : Bool} {ss : List (List UInt8)} : ∀ (d : Nat) {k : Nat} {H : Heap} {K : V → Heap → Prop} (deep : Int), deep ≤ d → H R.l = R.o k → k + 6 * 2^d ≤ 2^40 →
    (∀ (x : Ex) (H' : Heap) (k' : Nat), k < k' → k' + 3 ≤ k + 6 * 2^d → Upd H H' [(R.l, R.o k')] → x.ok → k + x.size ≤ k' → K (.ag x.cells) H') →
    Qm prog CI [.c (.ptr R.l 0), .c (.sl fl 1 (Q5 ss)), .c (.int .i64 deep)] H K := by
  intro d
  induction d using Nat.strongRecOn with
  | ind d ih =>
  intro k H K deep hd hH hk hK;have sX : 1 ≤ 2^d := J9;have mH : d < 2^d := Jap;refine Q1 ?_;refine Qc Aa P8 ?_;refine Qa ?_;simp only [go_sem];intro x hx H1 h1;have kn := (Kn.start1 hH (R.am k)).al hx h1;refine Qz (Qa ?_);simp only [go_sem];have rest : ∀ (b : Bool) (H2 : Heap) (k2 : Nat), k ≤ k2 → k2 ≤ k + 1 → Kn H H2 [(R.l, R.o k2)] [(x, .st [.int .i64 0, .int .i64 0, .str [], .sl true 4 []])] → (b = false → 2 ≤ deep) →
      Q6 prog (s_l2Expr_2.seq Q4o) (Qq EH (unK H K))
       [(0, V.c (C.ptr R.l 0)), (1, V.c (C.sl fl 1 (Q5 ss))), (2, .c (.int .i64 deep)), (6, V.c (C.ptr x 0)), (14, V.c (.bool b))] H2 := by
    intro b H2 k2 eN fw kn hb;have fin : ∀ (op n : Int) (name : List UInt8) (fl : Bool) (kids : List Ex) (H3 : Heap) (k3 : Nat) (o : Obj), k < k3 → k3 + 3 ≤ k + 6 * 2^d → Kn H H3 [(R.l, R.o k3)] [(x, .st [.int .i64 op, .int .i64 n, .str name, .sl fl 4 (Ql kids)])] →
        (op = 10 → kids.length = 2) → A5 kids → k + 1 + Qw kids ≤ k3 →
        Q0 EH [(6, V.c (C.ptr x 0))] H3 (unK H K) := by
      intro op n name fl kids H3 k3 o g1 g2 kn g3 g4 g5;have bQ := kn.l 0 rfl;simp only [go_sem, Q0, EH, Jb, forall_eq, RS.op, bQ];refine ⟨_, (Ex.mk op n name kids).frz, hK _ _ k3 g1 g2 kn.fin ?_ ?_⟩
      · simp only [Ex.ok]; exact ⟨g3, g4⟩
      · simp only [Ex.size]; omega
    refine Qf (Qb rfl ?_ ?_)
    · intro br;refine Qa ?_;simp only [go_sem];refine PH (kn.e 0 rfl) ZT fun y H3 k3 g1 g2 hu bf aO => ?_;have kn := kn.ak 0 rfl hu (R.am _);have bQ := kn.l 0 rfl;simp only [go_sem, Q4p, bQ, y.aa];intro H4 h4;have kn := kn.ax 0 rfl h4;refine Qi ?_;simp only [go_sem, Qq];refine fin _ _ _ _ _ _ k3 .none ZT ZT kn (Ex.ok_and bf) (Ex.ok_kids bf) ?_;have := y.size_kids; omega
    · intro br;have fX := hb br;have hp : 2^d = 2 * 2^(d-1) := (by rw [← Ja2]; congr 1; omega);have lC : 1 ≤ 2^(d-1) := J9;have ihd := fun {k H K} => @ih (d-1) ZT k H K;generalize 2^(d-1) = e at *;refine Qd ?_;simp only [go_sem];refine Qz (Qa ?_);simp only [go_sem];refine A0 (kn.e 0 rfl) ZT fun v H3 hv hu => ?_;have kn := kn.ak 0 rfl hu (R.am _);simp only [go_sem, Q4q];refine Qf (Qb rfl ?_ ?_)
      · intro hc;refine Qa ?_;simp only [go_sem];refine Bj (ns := [11, 12, 11]) (kn.e 0 rfl) ZT ZV fun op H4 b7 hu => ?_;have kn := kn.ak 0 rfl hu (R.am _);simp only [go_sem, Q4s];refine ⟨Qv, ?_⟩;refine ihd (deep - 1) ZT (kn.e 0 rfl) ZT fun y H5 k5 g1 g2 hu bf aO => ?_;have kn := kn.ak 0 rfl hu (R.am _);have cp := kn.l 0 rfl;simp only [go_sem, Q4r, cp, y.ae];intro H6 h6;have kn := kn.ax 0 rfl h6;refine Qi ?_;simp only [go_sem, Qq];refine fin op 0 [] true [y] _ k5 .none ZT ZT kn (fun h => ?_) ⟨bf, trivial⟩ ?_
        · subst h; simp at b7
        · simp only [Qw]; omega
      · intro hc;refine Qd ?_;simp only [go_sem];refine Qa ?_;simp only [go_sem];refine Bj (ns := [3, 3, 4, 5, 6, 7, 8, 9, 10]) (kn.e 0 rfl) ZT ZV fun op H4 b7 hu => ?_;have kn := kn.ak 0 rfl hu (R.am _);simp only [go_sem, Q4t];refine Qa ?_;simp only [go_sem];refine ⟨Qv, ?_⟩;refine ihd (deep - 1) ZT (kn.e 0 rfl) ZT fun y H5 k5 g1 g2 hu bf aO => ?_;have kn := kn.ak 0 rfl hu (R.am _);simp only [go_sem, Q4v];refine ⟨Qv, ?_⟩;refine ihd (deep - 1) ZT (kn.e 0 rfl) ZT fun z H6 k6 g3 g4 hu ej gR => ?_;have kn := kn.ak 0 rfl hu (R.am _);have cp := kn.l 0 rfl;simp only [go_sem, Q4u, cp, y.ae, z.ae];intro H7 h7;have kn := kn.ax 0 rfl h7;refine Qi ?_;simp only [go_sem, Qq];refine fin op 0 [] true [y, z] _ k6 .none ZT ZT kn (fun h => rfl) ⟨bf, ej, trivial⟩ ?_;simp only [Qw]; omega
  refine ⟨fun hb => ?_, fun hb => ?_⟩
  · refine A0 (kn.e 0 rfl) ZT fun v H2 hv hu => ?_;have kn := kn.ak 0 rfl hu (R.am _);simp only [go_sem, HI];refine rest _ H2 (k + 1) ZT ZT kn ?_;intro h;have : ¬ deep < 2 := Zas;omega
  · have bM : decide (deep < 2) = true := Zas;simp only [go_sem, HI, bM];exact rest true H1 k ZT ZT kn (fun h => by simp at h)
theorem Qaui {R:Rdr}{gl k:Nat}{s:GS}{H:Heap}{K:V→Heap→Prop}(hR:H R.l=R.o k)(hG:H gl=s.o R)(aP:R.l≠gl)(hs:s.ok k)(hk:k+2≤2^30)
  (hK:∀(name:List UInt8) (H':Heap) (k':Nat),k+1≤k'→k'≤k+2→Upd H H' [(R.l,R.o k'),(gl,GS.o { s with next:=s.next+1 } R)]→K (.c (.str name)) H') :
  Qm prog Va [.c (.ptr gl 0)] H K:=by
 have h0:=hs.n0;have iR:=hs.n1;refine Q1 ?_;refine Qc Aa Qau0 ?_;refine Za ?_;refine ZM hG ?_;refine⟨Qv,fun H1 h1=>?_⟩;have kn:Kn H H1 [(R.l,R.o k),(gl,GS.o { s with next:=s.next+1 } R)] []:=(Kn.start2 hR (R.am k) hG (s.am R) aP).stE 1 rfl h1;have iq:=kn.e 1 rfl;refine Qz (Qa ?_);simp only[go_sem,iq,GS.o];refine A0 (kn.e 0 rfl) ZT fun v H2 hv hu=>?_;have kn:=kn.ak 0 rfl hu (R.am _);have gN:=kn.e 1 rfl;simp only[go_sem,Qtr,gN,GS.o];intro hl;refine Qf (Qb rfl ?_ ?_)
 ·intro hc;have qG:0<s.vars.length:=by
   rw[Qt]at hc;cases h:decide (v=0) <;> rw[h]at hc <;> simp_all
  refine An ?_;simp only[go_sem,gN,GS.o];refine of_c (kn.e 0 rfl) ZT qG fun name H3 hn hu=>?_;have kn:=kn.ak 0 rfl hu (R.am _);simp only[go_sem,Qts];refine Zs ?_;exact⟨_,.c _ _ (Qe rfl),hK _ _ (k+1+1) ZT ZT kn.fin⟩
 ·intro hc;refine Ze ?_;refine An ?_;have e1:0≤(s.next+1).tmod 24:=Int.tmod_nonneg _ ZT;have e2:(s.next+1).tmod 24<24:=Int.tmod_lt_of_pos _ ZT;simp only[go_sem,gN,GS.o];refine⟨ZT,ZT,Qv,ZT,?_⟩;refine Zs ?_;exact⟨_,.c _ _ (Qe rfl),hK _ _ (k+1) ZT ZT kn.fin⟩
theorem NZ {R:Rdr}{gl k:Nat}{s:GS}{x:Ex}{fl:Bool}{H:Heap}{K:V→Heap→Prop}(hR:H R.l=R.o k)(hG:H gl=s.o R)(aP:R.l≠gl)(hs:s.ok k)(hk:k+2≤2^30)
  (hK:∀(name:List UInt8) (H':Heap) (k':Nat),k+1≤k'→k'≤k+2→Upd H H' [(R.l,R.o k'),(gl,GS.o { s with next:=s.next+1,vars:=s.vars++[name],vfl:=false } R)]→K (.ag (St.mk 1 name [x] [] []).cells) H') :
  Qm prog Sx [.c (.ptr gl 0),.ag [.int .i64 x.op,.int .i64 x.n,.str x.name,.sl fl 4 (Ql x.kids)]] H K:=by
 have hv:=hs.v;refine FU ?_;refine Qc Aa Qa2t ?_;refine Za ?_;intro y hy H1 h1;have kn:=(Kn.start2 hR (R.am k) hG (s.am R) aP).al hy h1;refine Za ?_;refine Qaui (kn.e 0 rfl) (kn.e 1 rfl) aP hs hk fun name H2 k' g1 g2 hu=>?_;have kn:=kn.callEE 0 1 rfl rfl Zab hu (R.am _) (GS.am _ _);have gN:=kn.e 1 rfl;simp only[go_sem,Q2r];refine Qa ?_;have hL:s.vars.length≤LIM:=Zav
 have hL1:s.vars.length+1≤LIM:=Zav
 simp only[go_sem,gN,GS.o,Qt,Jr,Ju,hL];refine⟨.inl trivial,CJ _,?_⟩;intro z hz H3 h3;have kn:=kn.al hz h3;have hz3:=kn.l 1 rfl;have lN:=kn.e 1 rfl;simp only[go_sem,Q2t,hz3,Qt,Q6t,hL1,Jq];refine⟨ZT,fun z' bF H4 h4=>?_⟩;have kn:=kn.ap 1 rfl bF h4;have pG:=kn.e 1 rfl;simp only[go_sem,Q2s,pG,GS.o];intro H5 h5;have kn:=kn.stE 1 rfl h5;have hy5:=kn.l 0 rfl;refine Zd hy5 ?_;intro H6 h6;have kn:=kn.ax 0 rfl h6;have hy6:=kn.l 0 rfl;refine Zz hy6 ?_;refine⟨un H,(.ag (St.mk 1 name [x] [] []).cells),(H6.frz (un H)).set gl (GS.o { s with next:=s.next+1,vars:=s.vars++[name],vfl:=false } R),?_,?_,hK name _ k' g1 g2 (kn.fin.set2 aP)⟩
 ·simp only[St.cells,Ql,Qk,x.aa];exact (FrzL.cons (Qe rfl) (.cons (Qe rfl) (.cons (FrzR.cons (.cons (Qe rfl) (.cons (Qe rfl) (.cons (Qe rfl) (.cons (FrzR.same (Bb _)).sl .nil)))) .nil).sl (.cons (FrzR.nil).sl (.cons (FrzR.nil).sl .nil))))).ag
 ·refine (E7 _ _).set (Gj (kn.usedE 1 rfl)) ?_;rw[kn.e 1 rfl];refine FrzKL.st (.same (.same (.cons rfl ?_ (.same (.same .nil)))));exact F7 (kn.un 1 rfl) (kn.l 1 rfl) (by simp[Q5]) (RF (CJ _))
theorem EE {R : Rdr} {gl k : Nat} {s : GS} {H : Heap} {K : V → Heap → Prop} (deep : Int) (hd : deep ≤ 3) (hR : H R.l = R.o k) (hG : H gl = s.o R) (aP : R.l ≠ gl) (hs : s.ok k) (hF : FnsOk H R gl s) (hk : k + 200 ≤ 2^30)
    (hK : ∀ (x : Ex) (H' : Heap) (k' : Nat), k < k' → k' ≤ k + 200 → Upd H H' [(R.l, R.o k')] → x.ok → k + x.size ≤ k' → K (.ag x.cells) H') :
    Qm prog Q69 [.c (.ptr gl 0), .c (.int .i64 deep)] H K := by
  have fW := hs.fn;refine Q1 ?_;refine Qc Aa Qayb ?_;refine Qa ?_;simp only [go_sem];intro x4 bW H1 h1;have kn := (Kn.start2 hR (R.am k) hG (s.am R) aP).al bW h1;have iq := kn.e 1 rfl;refine An ?_;simp only [go_sem, iq, GS.o];refine RI 3 deep ZT (kn.e 0 rfl) ZT fun e H2 k2 g1 g2 hu nc na => ?_;have kn := kn.ak 0 rfl hu (R.am _);have gN := kn.e 1 rfl;simp only [go_sem, Qxl];intro x5 cp H3 h3;have kn := kn.al cp h3;have lN := kn.e 1 rfl;have mc := kn.l 1 rfl;simp only [go_sem, Qxk, lN, mc, GS.o, e.aa];intro H4 h4;have kn := kn.ax 1 rfl h4;have pG := kn.e 1 rfl;refine Qz (Qa ?_);simp only [go_sem, pG, GS.o, hF.ow, hF.ok kn, hF.len];intro hl;have fin : ∀ (op n : Int) (name : List UInt8) (c : C) (kids : List Ex) (H3 : Heap) (k3 : Nat) (L : List (Nat × Obj)), k < k3 → k3 ≤ k + 200 → Kn H H3 [(R.l, R.o k3), (gl, s.o R)] L →
      L[0]? = some (x4, .st [.int .i64 op, .int .i64 n, .str name, c]) → c.ah = false → FrzC H3 (un H) c (.sl false 4 (Ql kids)) → (Ex.mk op n name kids).ok → k + (Ex.mk op n name kids).size ≤ k3 →
      Q0 Bm [(4, V.c (C.ptr x4 0))] H3 (unK H K) := by
    intro op n name c kids H3 k3 L g1 g2 kn g3 bO g4 g5 g6;have bQ := kn.l 0 g3;simp only [go_sem, Q0, Bm, Jb, forall_eq, RS.op, bQ, bO];refine ⟨(.ag (Ex.mk op n name kids).cells), ?_, hK _ _ k3 g1 g2 (kn.fin.drop2 hG) g5 g6⟩;rw [Ex.aa];exact (FrzL.cons (Qe rfl) (.cons (Qe rfl) (.cons (Qe rfl) (.cons g4 .nil)))).ag
  have rest : ∀ (b : Bool) (H2 : Heap) (k3 : Nat), k2 ≤ k3 → k3 ≤ k2 + 1 → Kn H H2 [(R.l, R.o k3), (gl, s.o R)] [(x4, .st [.int .i64 0, .int .i64 0, .str [], .sl true 4 []]), (x5, .st [.int .i64 e.op, .int .i64 e.n, .str e.name, .sl false 4 (Ql e.kids)])] →
      (b = false → 0 < s.fns.length) →
      Q6 prog (s_l3Gen_expr_3.seq Qxj) (Qq Bm (unK H K))
       [(0, V.c (C.ptr gl 0)), (4, V.c (C.ptr x4 0)), (5, V.c (C.ptr x5 0)), (32, .c (.bool b))] H2 := by
    intro b H2 k3 g3 g4 kn hb;have qz := kn.l 1 rfl;have md := kn.l 0 rfl;refine Qf (Qb rfl ?_ ?_)
    · intro br;refine Qa ?_;simp only [go_sem, qz, md];intro H3 h3;have kn := kn.ax 0 rfl h3;refine Qi ?_;simp only [go_sem, Qq]
      cases e with
      | mk op n name kids => exact fin op n name _ kids H3 k3 _ ZT ZT kn rfl rfl (IV (RF (Bb _))) nc ZT
    · intro br;have ja := hb br;refine Qd ?_;simp only [go_sem];have lN := kn.e 1 rfl;refine An ?_;simp only [go_sem, lN, GS.o, hF.ow, hF.ok kn, hF.len];refine A0 (kn.e 0 rfl) ZT fun v H3 hv hu => ?_;have kn := kn.ak 0 rfl hu (R.am _);rw [if_neg ZT] at hv;obtain ⟨i, rfl⟩ := Jw hv.1;have hi : i < s.fns.length := ZT;have pG := kn.e 1 rfl;simp only [go_sem, Qxn, pG, GS.o, hF.ow, hF.ok kn, hF.len, hF.rows kn, hF.esz, hi, AB _ _ hi, Fn.cells];intro x6 cB H4 h4;have kn := kn.al cB h4;have hG5 := kn.e 1 rfl;have qt := kn.l 2 rfl;simp only [go_sem, Qxm, hG5, qt, GS.o, hF.ow, hF.ok kn, hF.len, hF.rows kn, hF.esz, hi, AB _ _ hi, Fn.cells];have hpar := hs.f _ (Jj hi);generalize s.fns[i] = f at *;intro H5 h5;have kn := kn.ax 2 rfl h5;have lZ := kn.l 2 rfl;refine Qa ?_;simp only [go_sem, lZ];intro x7 i8 H6 h6;have kn := kn.al i8 h6;have kM := kn.l 2 rfl;have lW := kn.l 3 rfl;simp only [go_sem, Qxo, lW];intro H7 h7;have kn := kn.ax 3 rfl h7;refine Qz (Qa ?_);simp only [go_sem];refine Qf (Qg (Q3 (fun n e1 H1 => ∃ (i k4 : Nat) (kids : List Ex) (c : C) (Lg : List (Nat × Obj)), n = f.params.length - i ∧ i ≤ f.params.length ∧ k4 ≤ k3 + 1 + 21 * i ∧ k3 + 1 + Qw kids ≤ k4 ∧ A5 kids ∧ kids.length = i ∧
        Gr Lg 4 (Ql kids) c ∧ Kn H H1 [(R.l, R.o k4), (gl, s.o R)] ([(x4, .st [.int .i64 0, .int .i64 0, .str [], .sl true 4 []]), (x5, .st [.int .i64 e.op, .int .i64 e.n, .str e.name, .sl false 4 (Ql e.kids)]),
          (x6, .st [.str f.name, .sl false 1 (Q5 f.params), .sl false 5 (Qk f.body)]), (x7, .st [.int .i64 13, .int .i64 0, .str f.name, c])] ++ Lg) ∧
        e1 = [(0, V.c (C.ptr gl 0)), (4, V.c (C.ptr x4 0)), (6, V.c (C.ptr x6 0)), (7, V.c (C.ptr x7 0)), (8, V.c (C.int IntKind.i64 i))]) f.params.length ?_ ?_))
      · exact ⟨0, k3 + 1, [], _, [], by omega, by omega, by omega, by simp [Qw], trivial, rfl, .nil 4, kn, rfl⟩
      · rintro n e1 H1 ⟨i, k4, kids, c, Lg, hn, iM, rJ, hksz, mV, bq, b9, kn, rfl⟩;have qu := kn.l 2 rfl;have qq := kn.l 3 rfl;have iq := kn.e 1 rfl;refine Qz (Qa ?_);simp only [go_sem, qu, Qt];intro eH;refine Qf (Qb rfl ?_ ?_)
        · intro hc;have af : i < f.params.length := ZU;refine Qd ?_;simp only [go_sem];refine Qf (Qg (Bf ?_));have dB := b9.ah;simp only [go_sem, qq, iq, GS.o, dB];refine RI 2 2 ZT (kn.e 0 rfl) ZT fun z H2 k5 g5 g6 hu bf aO => ?_;have kn := kn.ak 0 rfl hu (R.am _);have kL := kn.l 3 rfl;simp only [go_sem, Qxq, kL, dB, z.ae];refine kn.grow (new := [z.cells]) b9 (.mk' _ _ _ _) (by simp [z.ai]) (by simp only [Qh, Jf, Jg, LIM]; omega) fun y' H3 kn => ?_;have lX := kn.l 3 rfl;simp only [go_sem, Qxp, lX];intro H4 h4;have kn := kn.ax 3 rfl h4;refine Qr ?_;simp only [go_sem];refine ⟨Qv, ?_⟩;refine ⟨f.params.length - (i + 1), by omega, i + 1, k5, kids ++ [z], _, _, rfl, by omega, by omega, ?_, Qbfd mV ⟨bf, trivial⟩, by simp [bq], ?_, kn, ?_⟩
          · simp only [HJ, Qw]; omega
          · rw [← Dm]; exact .mk _ _ _ ZV
          · simp
        · intro hc;have aV : f.params.length ≤ i := ZU;refine Qy ?_;simp only [go_sem, X.next];refine Qz (Qa ?_);simp only [go_sem, iq, GS.o];refine A0 (kn.e 0 rfl) ZT fun v H2 hv hu => ?_;have kn := kn.ak 0 rfl hu (R.am _);have kL := kn.l 3 rfl;have md := kn.l 0 rfl;have dB := b9.ah;have gN := kn.e 1 rfl;simp only [go_sem, Qto];refine Qf (Qb rfl ?_ ?_)
          · intro hc;refine Qa ?_;simp only [go_sem, kL, md, dB];intro H3 h3;have kn := kn.ax 0 rfl h3;refine Qi ?_;simp only [go_sem, Qq];refine fin 13 0 f.name c kids H3 (k4 + 1) _ ZT ZT kn rfl dB (b9.frz (B := [_, _, _, _]) kn (Bb _)) ?_ ?_
            · simp only [Ex.ok]; exact ⟨fun h => by simp at h, mV⟩
            · simp only [Ex.size]; omega
          · intro hc;refine Qd ?_;simp only [go_sem];refine An ?_;simp only [go_sem, kL, gN, dB, GS.o];refine Bj (ns := [3, 4, 8, 10]) (kn.e 0 rfl) ZT ZV fun op H3 b7 hu => ?_;have kn := kn.ak 0 rfl hu (R.am _);have lX := kn.l 3 rfl;have lN := kn.e 1 rfl;simp only [go_sem, Qtq, lX, lN, dB, GS.o];refine RI 2 2 ZT (kn.e 0 rfl) ZT fun z H4 k5 g5 g6 hu bf aO => ?_;have kn := kn.ak 0 rfl hu (R.am _);have qp := kn.l 3 rfl;have q9 := kn.l 0 rfl;simp only [go_sem, Qtp, qp, q9, dB, z.ae];intro H5 h5;have kn := kn.ax 0 rfl h5;refine Qi ?_;simp only [go_sem, Qq];refine fin op 0 [] _ [Ex.mk 13 0 f.name kids, z] H5 k5 _ ZT ZT kn rfl rfl ?_ ?_ ?_
            · refine FrzR.sl (.cons ?_ (.cons (.same z.ai) .nil));rw [Ex.aa];exact .cons (Qe rfl) (.cons (Qe rfl) (.cons (Qe rfl) (.cons (b9.frz (B := [_, _, _, _]) kn (Bb _)) .nil)))
            · simp only [Ex.ok, A5]; exact ⟨fun h => rfl, ⟨fun h => by simp at h, mV⟩, bf, trivial⟩
            · simp only [Ex.size, Qw]; omega
  refine ⟨fun hb => ?_, fun hb => ?_⟩
  · refine A0 (kn.e 0 rfl) ZT fun v H5 hv hu => ?_;have kn := kn.ak 0 rfl hu (R.am _);simp only [go_sem, Vg];refine rest _ H5 (k2 + 1) ZT ZT kn ?_;intro h;have : ¬ s.fns.length = 0 := Zas;omega
  · have bM : decide ((s.fns.length : Int) = 0) = true := Zas;simp only [go_sem, Vg, bM];exact rest true H4 k2 ZT ZT kn (fun h => by simp at h)
theorem Pm {R:Rdr}{gl k:Nat}{s:GS}{H:Heap}{K:V→Heap→Prop}(hR:H R.l=R.o k)(hG:H gl=s.o R)(aP:R.l≠gl)(hs:s.ok k)(hF:FnsOk H R gl s)(hk:k+201≤2^30)
  (hK:∀(x:Ex) (H':Heap) (k':Nat),k<k'→k'≤k+201→Upd H H' [(R.l,R.o k')]→x.ok→2 * k+x.size≤2 * k'→K (.ag x.cells) H') :
  Qm prog S3 [.c (.ptr gl 0)] H K:=by
 refine Q1 ?_;refine Qc Aa Qaya ?_;refine Za ?_;intro x2 bB H1 h1;have kn:=(Kn.start2 hR (R.am k) hG (s.am R) aP).al bB h1;have iq:=kn.e 1 rfl;refine An ?_;simp only[go_sem,iq,GS.o];refine EE 2 ZT (kn.e 0 rfl) (kn.e 1 rfl) aP hs (hF.keep kn rfl rfl) ZT fun e H2 k2 g1 g2 hu nc na=>?_;have kn:=kn.ak 0 rfl hu (R.am _);have gN:=kn.e 1 rfl;simp only[go_sem,Qxi,gN,GS.o];refine Bj (ns:=[16,16,16,8,17,0]) (kn.e 0 rfl) ZT ZV fun v H3 hv hu=>?_;have kn:=kn.ak 0 rfl hu (R.am _);have qC:=kn.l 0 rfl;simp only[go_sem,Qxh,qC,e.ae];intro H4 h4;have kn:=kn.ax 0 rfl h4;have qB:=kn.l 0 rfl;refine Zz qB ?_;refine⟨(.ag (Ex.mk 7 0 [] [e,Ex.mk 1 v [] []]).cells),?_,hK _ _ (k2+1) ZT ZT (kn.fin.drop2 hG) ?_ ?_⟩
 ·rw[Ex.aa (Ex.mk 7 0 [] _)];refine FrzL.ag ?_;refine .cons (Qe rfl) (.cons (Qe rfl) (.cons (Qe rfl) (.cons (FrzR.sl (.cons (.same e.ai) (.cons ?_ .nil))) .nil)));simp only[Ex.cells,Ql];exact .cons (Qe rfl) (.cons (Qe rfl) (.cons (Qe rfl) (.cons (FrzR.nil).sl .nil)))
 ·simp only[Ex.ok,A5];exact⟨fun h=>rfl,nc,⟨fun h=>Zaa,trivial⟩,trivial⟩
 ·simp only[Ex.size,Qw];omega
def EZ (d:Nat):Prop:=∀(R:Rdr) (gl k:Nat) (s:GS) (H:Heap) (K:V→Heap→Prop) (deep:Int),deep≤d→H R.l=R.o k→H gl=s.o R→R.l≠gl→s.ok k→FnsOk H R gl s→k+500 * 10^d≤2^30→
  (∀(l:List St) (s':GS) (H':Heap) (k':Nat),k<k'→k'≤k+500 * 10^d→Upd H H' [(R.l,R.o k'),(gl,s'.o R)]→s'.ok k'→s.left+4 * (k:Int)≤s'.left+4 * (k':Int)→s'.fns=s.fns→s'.ffl=s.ffl→l.length≤2→A2 l→4 * k+Qj l≤4 * k'→K (.c (.sl false 5 (Qk l))) H')→
  Qm prog TK [.c (.ptr gl 0),.c (.int .i64 deep)] H K
def BZ (d:Nat):Prop:=∀(R:Rdr) (gl k:Nat) (s:GS) (H:Heap) (K:V→Heap→Prop) (deep:Int),deep≤d→H R.l=R.o k→H gl=s.o R→R.l≠gl→s.ok k→FnsOk H R gl s→k+2001 * 10^d≤2^30→
  (∀(l:List St) (c:C) (Lg:List (Nat×Obj)) (s':GS) (H':Heap) (k':Nat),k<k'→k'≤k+2001 * 10^d→Upd H H' [(R.l,R.o k'),(gl,s'.o R)]→Gr Lg 5 (Qk l) c→New H H' Lg→s'.ok k'→s.left+4 * (k:Int)≤s'.left+4 * (k':Int)→s'.fns=s.fns→s'.ffl=s.ffl→
   l.length≤8→A2 l→4 * k+Qj l≤4 * k'→K (.c c) H')→
  Qm prog Q2f [.c (.ptr gl 0),.c (.int .i64 deep)] H K
theorem Rh {d:Nat}(hS:EZ d):BZ d:=by
 intro R gl k s H K deep hd hR hG aP hs hF hk hK;have mH:d<10^d:=Jac ZT;generalize mD:10^d=e at *;have lj:=hS;simp only[EZ]at lj;rw[mD]at lj;generalize hM:500 * e=M at *;refine FU ?_;refine Qc Aa Qauz ?_;refine Za ?_;refine ZM hG ?_;refine Za ?_;refine Qz (Qa ?_);simp only[go_sem,hG,GS.o];have kn:=Kn.start2 hR (R.am k) hG (s.am R) aP;refine Bj (ns:=[2,3,1,4]) hR ZT ZV fun v H1 hv hu=>?_;have kn:=kn.ak 0 rfl hu (R.am _);simp only[go_sem,Qtl];have sM:1≤v∧v≤4:=by simp at hv;omega
 refine Qf (Qg (Q3 (fun n e1 H1=>∃(j k4:Nat) (l:List St) (c:C) (Lg:List (Nat×Obj)) (s':GS),n=v.toNat-j∧(j:Int)≤v∧k+1≤k4∧k4≤k+1+M * j∧4 * k+Qj l≤4 * k4∧A2 l∧l.length≤2 * j∧
    Gr Lg 5 (Qk l) c∧s'.ok k4∧s.left+4 * (k:Int)≤s'.left+4 * (k4:Int)∧s'.fns=s.fns∧s'.ffl=s.ffl∧Kn H H1 [(R.l,R.o k4),(gl,s'.o R)] ([]++Lg)∧
    e1=[(0,V.c (C.ptr gl 0)),(1,.c (.int .i64 deep)),(5,.c (.sl s.vfl 1 (Q5 s.vars))),(6,.c c),(7,V.c (C.int IntKind.i64 (v-j)))]) v.toNat ?_ ?_))
 ·exact⟨0,k+1,[],_,[],s,ZT,ZT,ZT,ZT,by simp only[Qj];omega,trivial,ZV,.nil 5,hs.mono ZT,ZT,rfl,rfl,kn,ZV⟩
 ·rintro n e1 H1 ⟨j,k4,l,c,Lg,s',hn,hj,rJ,rI,aO,bf,jn,b9,kR,hlf,lh,jd,kn,rfl⟩;have iq:=kn.e 1 rfl;have hMj:M * j≤M * 4:=Jad _ ZT;refine Qz (Qa ?_);simp only[go_sem,iq,GS.o];refine Qf (Qb rfl ?_ ?_)
  ·intro hc;have hi:(j:Int)<v:=by
    cases h:decide (0<v-(j:Int))with
    |true=>have:0<v-(j:Int):=by simpa using h
           omega
    |false=>rw[h]at hc;simp at hc
   have tM:M * (j+1)=M * j+M:=Ja3 _ _;have hM2:M * (j+1)≤M * 4:=Jad _ ZT;refine Ze ?_;refine Qf (Qg (Qr ?_));simp only[go_sem];refine lj _ _ _ _ _ _ deep hd (kn.e 0 rfl) (kn.e 1 rfl) aP kR (hF.keep kn lh jd) ZT fun l2 s2 H2 k5 g1 g2 hu g3 glf g4 g5 g6 g7 g8=>?_;have kn:=kn.callEE 0 1 rfl rfl Zab hu (R.am _) (GS.am _ _);simp only[go_sem,Qtn];refine kn.grow b9 (.mk' _ _ _ (Qk l2)) (AQ _) (by simp only[Qp,LIM];omega) fun y' H3 kn=>?_;simp only[go_sem,Qtm];refine Zp ?_;refine⟨Qv,?_⟩;simp only[X.next];refine⟨v.toNat-(j+1),ZT,j+1,k5,l++l2,.aw y' 5 0 ((Qk l).length+(Qk l2).length),_,s2,rfl,ZT,ZT,ZT,?_,FF bf g7,by simp;omega,?_,g3,ZT,g4.trans lh,g5.trans jd,kn,?_⟩
   ·rw[Cf];omega
   ·rw[BR];exact .mk _ _ _ (by simp[Qp])
   ·have:v-((j+1:Nat):Int)=v-j-1:=ZT;rw[this]
  ·intro hc;refine Zm ?_;refine ZM iq ?_;intro H2 h2;have kn:Kn H H2 [(R.l,R.o k4),(gl,GS.o { s' with vars:=s.vars,vfl:=s.vfl } R)] ([]++Lg):=kn.stE 1 rfl h2;refine Za ?_;refine Zs ?_;refine⟨unx H Lg,_,H2.frz (unx H Lg),.c _ _ (.same _ b9.ah),E7 _ _,?_⟩;refine hK l c Lg _ _ k4 ZT ZT kn.finx.1 b9 kn.finx.2 ⟨kR.n0,kR.n1,kR.l0,kR.l1,?_,kR.f,kR.fn⟩ (by show _≤s'.left+_;omega) lh jd ZT bf aO;have:=hs.v;show s.vars.length≤_;omega
def Fa (d:Nat):Prop:=∀(R:Rdr) (gl k:Nat) (s:GS) (H:Heap) (K:V→Heap→Prop) (deep:Int),deep≤d+1→2≤deep→H R.l=R.o k→H gl=s.o R→R.l≠gl→s.ok k→FnsOk H R gl s→k+2001 * 10^d+10≤2^30→
  (∀(l:List St) (s':GS) (H':Heap) (k':Nat),k+2<k'→k'≤k+2001 * 10^d+3→Upd H H' [(R.l,R.o k'),(gl,s'.o R)]→s'.ok k'→s.left+4 * (k:Int)≤s'.left+4 * (k':Int)→s'.fns=s.fns→s'.ffl=s.ffl→l.length≤2→A2 l→4 * k+Qj l≤4 * k'→K (.c (.sl false 5 (Qk l))) H')→
  Qm prog TL [.c (.ptr gl 0),.c (.int .i64 deep)] H K
theorem Qbqi {d:Nat}(hB:BZ d):Fa d:=by
 intro R gl k s H K deep hd eY hR hG aP hs hF hk hK;have mH:d<10^d:=Jac ZT;have nM:=hB;simp only[BZ]at nM;generalize mD:10^d=e at *;refine Q1 ?_;refine Qc Aa Qayc ?_;refine Za ?_;refine ZM hG ?_;have kn:=Kn.start2 hR (R.am k) hG (s.am R) aP;refine Bj (ns:=[2,3,1,0,5]) hR ZT ZV fun v H1 hv hu=>?_;have kn:=kn.ak 0 rfl hu (R.am _);simp only[go_sem,Qxu];refine NZ (x:=Ex.mk 1 v [] []) (fl:=true) (kn.e 0 rfl) (kn.e 1 rfl) aP (hs.mono (Ja1 k)) ZT fun name H2 k2 g1 g2 hu=>?_;have kn:=kn.callEE 0 1 rfl rfl Zab hu (R.am _) (GS.am _ _);simp only[go_sem,Qxt];intro x5 cp H3 h3;have kn:=kn.al cp h3;have mc:=kn.l 0 rfl;simp only[go_sem,Sa,mc,St.cells];intro H4 h4;have kn:=kn.ax 0 rfl h4;have qy:=kn.l 0 rfl;refine Zd qy ?_;intro x6 cB H5 h5;have kn:=kn.al cB h5;have lZ:=kn.l 1 rfl;simp only[go_sem,Qxv,lZ];intro H6 h6;have kn:=kn.ax 1 rfl h6;refine Za ?_;refine⟨Qv,?_⟩;have cr:GS.ok { s with next:=s.next+1,vars:=s.vars++[name],vfl:=false } k2:=by
  refine⟨?_,?_,?_,hs.l1,?_,hs.f,hs.fn⟩
  ·have:=hs.n0;show -1≤s.next+1;omega
  ·have:=hs.n1;show s.next+1≤_;omega
  ·have:=hs.l0;show _≤s.left;omega
  ·have:=hs.v;show (s.vars++[name]).length≤_;simp;omega
 refine nM _ _ _ _ _ _ (deep-1) ZT (kn.e 0 rfl) (kn.e 1 rfl) aP cr (hF.keep kn rfl rfl) ZT fun l c Lg s3 H7 k3 g3 g4 hu b9 cx iD glf g5 g6 g7 g8 g9=>?_;have kn0:=kn;have kn:=kn.callEE 0 1 rfl rfl Zab hu (R.am _) (GS.am _ _);have kn:=kn0.addGr kn rfl rfl b9 cx;have ma:=kn.l 0 rfl;have kM:=kn.l 1 rfl;simp only[go_sem,Qxw];refine Zi ma kM ?_;intro x8 cC H8 h8;have kn:=kn.al cC h8;have kn:=kn.perm (L':=[(x5,_),(x6,_),(x8,_)]++Lg) (by
  simp only[List.set,Ju,Jt];refine .cons _ (.cons _ ?_);exact Jo)
 have ql:=kn.l 2 rfl;simp only[go_sem,Qxx,ql];intro H9 h9;have kn:=kn.ax 2 rfl h9;have s6:=kn.e 1 rfl;refine ZM s6 ?_;have i0:=iD.l0;have iX:=iD.l1;refine⟨Qv,fun H10 bP=>?_⟩;have kn:Kn H H10 [(R.l,R.o k3),(gl,GS.o { s3 with left:=s3.left-2 } R)] ([(x5,_),(x6,_),(x8,_)]++Lg):=kn.stE 1 rfl bP;have qw:=kn.l 0 rfl;have j8:=kn.l 1 rfl;have qk:=kn.l 2 rfl;refine An ?_;simp only[go_sem,qw,j8,qk];refine kn.grow b9 (.mk' _ _ _ _) (by intro r hr;simp only[Jb]at hr;subst hr;rfl) (by simp only[Qp,LIM,Jf,Jg];omega) fun y' H11 kn=>?_;have qv:=kn.l 0 rfl;have qr:=kn.l 1 rfl;have lT:=kn.l 3 rfl;simp only[go_sem,Qxy,qv,qr];refine Zs ?_;have fp:GS.ok { s3 with left:=s3.left-2 } k3:=⟨iD.n0,iD.n1,by show _≤s3.left-2;have:=hs.l0;simp only at glf;omega,by show s3.left-2≤100;omega,iD.v,iD.f,iD.fn⟩;refine⟨.c (.sl false 5 (Qk [St.mk 1 name [Ex.mk 1 v [] []] [] [],St.mk 6 [] [Ex.mk 2 0 name []] (l++[St.mk 2 name [Ex.mk 4 0 [] [Ex.mk 2 0 name [],Ex.mk 1 1 [] []]] [] []]) []])),.c _ _ ?_,hK _ _ _ k3 ZT ZT kn.fin fp (by show _≤s3.left-2+_;simp only at glf;omega) g5 g6 ZV ?_ ?_⟩
 ·simp only[Qk,St.cells,Ql,Ex.cells,←BR]
  repeat' first|exact FrzL.nil|exact FrzR.nil|exact Qe rfl|exact FrzL.same (Ex.ai _)|exact FrzL.same (St.ai _)|refine FrzL.cons ?_ ?_|refine FrzR.cons ?_ ?_|refine FrzR.sl ?_
  refine FrzR.aw (kn.un 3 rfl) lT ZV (.app (.same (AQ _)) ?_)
  repeat' first|exact FrzL.nil|exact FrzR.nil|exact Qe rfl|exact FrzL.same (Ex.ai _)|exact FrzL.same (St.ai _)|refine FrzL.cons ?_ ?_|refine FrzR.cons ?_ ?_|refine FrzR.sl ?_
 ·simp only[A2,St.ok,A5,Ex.ok];refine⟨⟨ZV,⟨⟨fun h=>Zaa,trivial⟩,trivial⟩,trivial,trivial⟩,⟨ZV,⟨⟨fun h=>Zaa,trivial⟩,trivial⟩,FF g8 ?_,trivial⟩,trivial⟩;simp[A2,St.ok,A5,Ex.ok]
 ·simp only[Qj,St.size,Cf,Qw,Ex.size];omega
theorem Ig {A L1 L2:List (Nat×Obj)}:(A++L1++L2).Perm (A++L2++L1):=by
 rw[Jh,Jh];exact .append_left _ Jo
theorem I8 {d : Nat} (hB : ∀ d', d = d' + 1 → BZ d') : EZ d := by
  intro R gl k s H K deep hd hR hG aP hs hF hk hK;have mH : d < 10^d := Jac ZT;have lG : ∃ e, 10^d = e ∧ ∀ d', d = d' + 1 → 10 * 10^d' = e := ⟨10^d, rfl, fun d' h => by rw [h, Nat.pow_succ]; omega⟩;obtain ⟨e, mD, he'⟩ := lG;rw [mD] at mH hk hK;have i0 := hs.l0;have iX := hs.l1;refine Q1 ?_;refine Qc Aa Qayd ?_;refine Qa ?_;simp only [go_sem];refine Qa ?_;simp only [go_sem, hG, GS.o];refine ⟨Qv, fun H1 h1 => ?_⟩;have kn : Kn H H1 [(R.l, R.o k), (gl, GS.o { s with left := s.left - 1 } R)] [] := (Kn.start2 hR (R.am k) hG (s.am R) aP).stE 1 rfl h1;have cd : GS.ok { s with left := s.left - 1 } (k + 1) := ⟨hs.n0, by have := hs.n1; show s.next ≤ _; omega, by show _ ≤ s.left - 1; omega, by show s.left - 1 ≤ 100; omega, by have := hs.v; show s.vars.length ≤ _; omega, hs.f, hs.fn⟩;have pW : s.left ≤ ({ s with left := s.left - 1 } : GS).left + 1 := by show s.left ≤ s.left - 1 + 1; omega
  have ja : ({ s with left := s.left - 1 } : GS).fns = s.fns := rfl;have rS : ({ s with left := s.left - 1 } : GS).ffl = s.ffl := rfl;have jf : FnsOk H R gl { s with left := s.left - 1 } := ⟨hF.1, hF.2⟩;generalize ({ s with left := s.left - 1 } : GS) = s1 at *;have iq := kn.e 1 rfl;refine Qa ?_;simp only [go_sem, iq, GS.o];refine A0 (kn.e 0 rfl) ZT fun v H2 hv hu => ?_;have kn : Kn H H2 [(R.l, R.o (k + 1)), (gl, s1.o R)] [] := kn.ak 0 rfl hu (R.am _);have gN := kn.e 1 rfl;simp only [go_sem, E3];have fin : ∀ (l : List St) (c : C) (s' : GS) (H3 : Heap) (k3 : Nat) (L : List (Nat × Obj)), k < k3 → k3 ≤ k + 500 * e → Kn H H3 [(R.l, R.o k3), (gl, s'.o R)] L → FrzC H3 (un H) c (.sl false 5 (Qk l)) →
      s'.ok k3 → s1.left + 4 * ((k + 1 : Nat) : Int) ≤ s'.left + 4 * (k3 : Int) → s'.fns = s1.fns → s'.ffl = s1.ffl → l.length ≤ 2 → A2 l → 4 * k + Qj l ≤ 4 * k3 → ∃ x', FrzV H3 (un H) (.c c) x' ∧ K x' (H3.frz (un H)) := by
    intro l c s' H3 k3 L g1 g2 kn g3 g4 g5 g6 g7 g8 g9 g10;exact ⟨_, .c _ _ g3, hK l s' _ k3 g1 g2 kn.fin g4 ZT (g6.trans ja) (g7.trans rS) g8 g9 g10⟩
  refine Qf (Qg ?_);refine Qa ?_;simp only [go_sem, gN, GS.o, Qt];intro qE;refine Qb rfl ?_ ?_
  ·
    intro hc;have qG : 0 < s1.vars.length := by
      cases h : decide (v < 3) with
      | true => rw [h] at hc; simp at hc; omega
      | false => rw [h] at hc; simp at hc
    refine An ?_;simp only [go_sem, gN, GS.o];refine of_c (kn.e 0 rfl) ZT qG fun name H3 hn hu => ?_;have kn := kn.ak 0 rfl hu (R.am _);simp only [go_sem, Qx3];refine EE 3 ZT (kn.e 0 rfl) (kn.e 1 rfl) aP (cd.mono ZT) (jf.keep kn rfl rfl) ZT fun x H4 k4 g1 g2 hu g3 g4 => ?_;have kn := kn.ak 0 rfl hu (R.am _);simp only [go_sem, Qx2, x.ae];refine Qi ?_;simp only [go_sem, Qq, Q0, Ab, Jb, forall_eq, RS.op];refine fin [St.mk 2 name [x] [] []] _ s1 H4 k4 _ ZT ZT kn ?_ (cd.mono ZT) ZT rfl rfl ZV ?_ ?_
    · simp only [Qk, St.cells, Ql]
      repeat' first | exact FrzL.nil | exact FrzR.nil | exact Qe rfl | exact FrzL.same (Ex.ai _) | exact FrzL.same (St.ai _) | refine FrzL.cons ?_ ?_ | refine FrzR.cons ?_ ?_ | refine FrzR.sl ?_
    · simp only [A2, St.ok, A5]; exact ⟨⟨ZV, ⟨g3, trivial⟩, trivial, trivial⟩, trivial⟩
    · simp only [Qj, St.size, Qw]; omega
  intro cq;refine Qa ?_;simp only [go_sem];refine Qb rfl ?_ ?_
  ·
    intro hc;refine Qa ?_;simp only [go_sem];refine EE 3 ZT (kn.e 0 rfl) (kn.e 1 rfl) aP (cd.mono ZT) (jf.keep kn rfl rfl) ZT fun x H4 k4 g1 g2 hu g3 g4 => ?_;have kn := kn.ak 0 rfl hu (R.am _);simp only [go_sem, Qx5, x.aa];refine NZ (x := x) (kn.e 0 rfl) (kn.e 1 rfl) aP (cd.mono ZT) ZT fun name H5 k5 g5 g6 hu => ?_;have kn := kn.callEE 0 1 rfl rfl Zab hu (R.am _) (GS.am _ _);simp only [go_sem, Qx4, St.ae];refine Qi ?_;simp only [go_sem, Qq, Q0, Ab, Jb, forall_eq, RS.op];have h0 := cd.n0;have h1 := cd.n1;have h2 := cd.l0;have h3 := cd.v;refine fin [St.mk 1 name [x] [] []] _ _ H5 k5 _ ZT ZT kn ?_ ⟨?_, ?_, ?_, cd.l1, ?_, cd.f, cd.fn⟩ (by show _ ≤ s1.left + _; omega) rfl rfl ZV ?_ ?_
    · simp only [Qk]
      repeat' first | exact FrzL.nil | exact FrzR.nil | exact Qe rfl | exact FrzL.same (Ex.ai _) | exact FrzL.same (St.ai _) | refine FrzL.cons ?_ ?_ | refine FrzR.cons ?_ ?_ | refine FrzR.sl ?_
    · show -1 ≤ s1.next + 1; omega
    · show s1.next + 1 ≤ _; omega
    · show _ ≤ s1.left; omega
    · show (s1.vars ++ [name]).length ≤ _; simp; omega
    · simp only [A2, St.ok, A5]; exact ⟨⟨ZV, ⟨g3, trivial⟩, trivial, trivial⟩, trivial⟩
    · simp only [Qj, St.size, Qw]; omega
  intro fA;refine Qa ?_;simp only [go_sem];refine Qb rfl ?_ ?_
  ·
    intro hc;refine Qa ?_;simp only [go_sem];refine EE 3 ZT (kn.e 0 rfl) (kn.e 1 rfl) aP (cd.mono ZT) (jf.keep kn rfl rfl) ZT fun x H4 k4 g1 g2 hu g3 g4 => ?_;have kn := kn.ak 0 rfl hu (R.am _);simp only [go_sem, Qx6, x.ae];refine Qi ?_;simp only [go_sem, Qq, Q0, Ab, Jb, forall_eq, RS.op];refine fin [St.mk 3 [] [x] [] []] _ s1 H4 k4 _ ZT ZT kn ?_ (cd.mono ZT) ZT rfl rfl ZV ?_ ?_
    · simp only [Qk, St.cells, Ql]
      repeat' first | exact FrzL.nil | exact FrzR.nil | exact Qe rfl | exact FrzL.same (Ex.ai _) | exact FrzL.same (St.ai _) | refine FrzL.cons ?_ ?_ | refine FrzR.cons ?_ ?_ | refine FrzR.sl ?_
    · simp only [A2, St.ok, A5]; exact ⟨⟨ZV, ⟨g3, trivial⟩, trivial, trivial⟩, trivial⟩
    · simp only [Qj, St.size, Qw]; omega
  intro au;have fX : 2 ≤ deep := by
    cases h : decide (v < 7) with
    | true => rw [h] at au; simp at au
    | false => rw [h] at au; simp at au; omega
  obtain ⟨d', tB⟩ : ∃ d', d = d' + 1 := ⟨d - 1, by omega⟩;have tT : BZ d' := hB d' tB;have hL0 : Fa d' := Qbqi tT;have nM := tT;have tN := hL0;simp only [BZ, Fa] at nM tN;have qb := he' d' tB;have sX : d' < 10^d' := Jac ZT;generalize 10^d' = e1 at *;refine Qa ?_;simp only [go_sem];refine Qb rfl ?_ ?_
  ·
    intro hc;refine Qa ?_;simp only [go_sem];refine Pm (kn.e 0 rfl) (kn.e 1 rfl) aP (cd.mono ZT) (jf.keep kn rfl rfl) ZT fun x H4 k4 g1 g2 hu g3 g4 => ?_;have kn := kn.ak 0 rfl hu (R.am _);simp only [go_sem, Qx8];refine EE 2 ZT (kn.e 0 rfl) (kn.e 1 rfl) aP (cd.mono ZT) (jf.keep kn rfl rfl) ZT fun y H5 k5 g5 g6 hu g7 g8 => ?_;have kn := kn.ak 0 rfl hu (R.am _);simp only [go_sem, Qx7, x.ae, y.ae];refine Qi ?_;simp only [go_sem, Qq, Q0, Ab, Jb, forall_eq, RS.op];refine fin [St.mk 4 [] [x, y] [] []] _ s1 H5 k5 _ ZT ZT kn ?_ (cd.mono ZT) ZT rfl rfl ZV ?_ ?_
    · simp only [Qk, St.cells, Ql]
      repeat' first | exact FrzL.nil | exact FrzR.nil | exact Qe rfl | exact FrzL.same (Ex.ai _) | exact FrzL.same (St.ai _) | refine FrzL.cons ?_ ?_ | refine FrzR.cons ?_ ?_ | refine FrzR.sl ?_
    · simp only [A2, St.ok, A5]; exact ⟨⟨ZV, ⟨g3, g7, trivial⟩, trivial, trivial⟩, trivial⟩
    · simp only [Qj, St.size, Qw]; omega
  intro bT;refine Qa ?_;simp only [go_sem];refine Qb rfl ?_ ?_
  ·
    intro hc;refine Qa ?_;simp only [go_sem];refine Pm (kn.e 0 rfl) (kn.e 1 rfl) aP (cd.mono ZT) (jf.keep kn rfl rfl) ZT fun x H4 k4 g1 g2 hu g3 g4 => ?_;have kn := kn.ak 0 rfl hu (R.am _);simp only [go_sem, Qx9, x.ae];refine Qi ?_;simp only [go_sem, Qq, Q0, Ab, Jb, forall_eq, RS.op];refine fin [St.mk 3 [] [Ex.mk 12 0 [] [x]] [] []] _ s1 H4 k4 _ ZT ZT kn ?_ (cd.mono ZT) ZT rfl rfl ZV ?_ ?_
    · rw [Qk, Qk, St.cells, Ql, Ql, Ex.aa (Ex.mk 12 0 [] _)];simp only [Qk, Ql, Ex.kids, Ex.op, Ex.n, Ex.name]
      repeat' first | exact FrzL.nil | exact FrzR.nil | exact Qe rfl | exact FrzL.same (Ex.ai _) | exact FrzL.same (St.ai _) | refine FrzL.cons ?_ ?_ | refine FrzR.cons ?_ ?_ | refine FrzR.sl ?_
    · simp only [A2, St.ok, A5, Ex.ok]; exact ⟨⟨ZV, ⟨⟨fun h => by simp at h, g3, trivial⟩, trivial⟩, trivial, trivial⟩, trivial⟩
    · simp only [Qj, St.size, Qw, Ex.size]; omega
  intro dH;refine Qa ?_;simp only [go_sem];refine Qb rfl ?_ ?_
  ·
    intro hc;refine Qa ?_;simp only [go_sem];refine EE 3 ZT (kn.e 0 rfl) (kn.e 1 rfl) aP (cd.mono ZT) (jf.keep kn rfl rfl) ZT fun x H4 k4 g1 g2 hu g3 g4 => ?_;have kn := kn.ak 0 rfl hu (R.am _);simp only [go_sem, Qtu, x.ae];refine ⟨Qv, ?_⟩;refine nM _ _ _ _ _ _ (deep - 1) ZT (kn.e 0 rfl) (kn.e 1 rfl) aP (cd.mono ZT) (jf.keep kn rfl rfl) ZT fun b1 c1 L1 s2 H5 k5 g5 g6 hu jW cx cr glf g7 g8 g9 g10 g11 => ?_;have kn0 := kn;have kn := kn.callEE 0 1 rfl rfl Zab hu (R.am _) (GS.am _ _);have kn := kn0.addGr kn rfl rfl jW cx;have px := jW.ah;simp only [go_sem, Qtt];intro x6 cB H6 h6;have kn := kn.al cB h6;have kn := kn.perm (L' := [(x6, _)] ++ L1) Jo;have lY := kn.l 0 rfl;simp only [go_sem, Qya, lY];intro H7 h7;have kn : Kn H H7 [(R.l, R.o k5), (gl, s2.o R)] ([(x6, _)] ++ L1) := kn.ax 0 rfl h7;have pE := kn.e 1 rfl;refine Qz (Qa ?_);simp only [go_sem, pE, GS.o];refine A0 (kn.e 0 rfl) ZT fun v2 H8 kg hu => ?_;have kn : Kn H H8 [(R.l, R.o (k5 + 1)), (gl, s2.o R)] ([(x6, _)] ++ L1) := kn.ak 0 rfl hu (R.am _);simp only [go_sem, Qtv];have rest : ∀ (E1 : Env) (hE : lk 6 E1 = V.c (C.ptr x6 0)) (c2 : C) (b2 : List St) (L2 : List (Nat × Obj)) (s3 : GS) (H9 : Heap) (k6 : Nat), k5 + 1 ≤ k6 → k6 ≤ k5 + 1 + 2001 * e1 → Gr L2 5 (Qk b2) c2 →
        Kn H H9 [(R.l, R.o k6), (gl, s3.o R)] ([(x6, .st [.int .i64 5, .str [], .sl true 4 [x.cells], c1, c2])] ++ L1 ++ L2) → s3.ok k6 → s2.left + 4 * ((k5 + 1 : Nat) : Int) ≤ s3.left + 4 * (k6 : Int) → s3.fns = s2.fns → s3.ffl = s2.ffl → A2 b2 → 4 * (k5 + 1) + Qj b2 ≤ 4 * k6 →
        Q6 prog Qxz (X.inBlock 0 (X.sq prog Vf (Qq Ab (unK H K)))) E1 H9 := by
      intro E1 hE c2 b2 L2 s3 H9 k6 e1 e2 fV kn e3 e4 e5 e6 e7 e8;have j9 := kn.l 0 rfl;have pw := fV.ah;refine Qa ?_;simp only [go_sem, hE, j9, px, pw];refine Qi ?_;simp only [go_sem, Qq, Q0, Ab, Jb, forall_eq, RS.op];refine fin [St.mk 5 [] [x] b1 b2] _ s3 H9 k6 _ ZT ZT kn ?_ e3 ZT (e5.trans g7) (e6.trans g8) ZV ?_ ?_
      · simp only [Qk, St.cells, Ql]
        repeat' first | exact FrzL.nil | exact FrzR.nil | exact Qe rfl | exact FrzL.same (Ex.ai _) | exact FrzL.same (St.ai _) | refine FrzL.cons ?_ ?_ | refine FrzR.cons ?_ ?_ | refine FrzR.sl ?_
        · exact jW.frz (kn.perm Ig) (AQ _)
        · exact fV.frz kn (AQ _)
      · simp only [A2, St.ok, A5]; exact ⟨⟨ZV, ⟨g3, trivial⟩, g10, e7⟩, trivial⟩
      · simp only [Qj, St.size, Qw]; omega
    refine Qf (Qb rfl ?_ ?_)
    · intro bU;refine Qr ?_;simp only [go_sem];refine ⟨Qv, ?_⟩;refine nM _ _ _ _ _ _ (deep - 1) ZT (kn.e 0 rfl) (kn.e 1 rfl) aP (cr.mono ZT) (jf.keep kn g7 g8) ZT fun b2 c2 L2 s3 H9 k6 q1 q2 hu fV cx iD q3 q4 q5 q6 q7 q8 => ?_;have kn0 := kn;have kn := kn.callEE 0 1 rfl rfl Zab hu (R.am _) (GS.am _ _);have kn := kn0.addGr kn rfl rfl fV cx;have j9 := kn.l 0 rfl;simp only [go_sem, Qtw, j9];intro H10 bP;have kn : Kn H H10 [(R.l, R.o k6), (gl, s3.o R)] ([(x6, _)] ++ L1 ++ L2) := kn.ax 0 rfl bP;exact rest _ (by simp [lk]) c2 b2 L2 s3 H10 k6 ZT ZT fV kn iD ZT q4 q5 q7 ZT
    · intro bU;refine Qd ?_;simp only [go_sem];exact rest _ (by simp [lk]) _ [] [] s2 H8 (k5 + 1) ZT ZT (.nil 5) (by rw [J4]; exact kn) (cr.mono ZT) ZT rfl rfl trivial (by simp only [Qj]; omega)
  · intro iP;refine Qa ?_;simp only [go_sem, gN, GS.o];have rest : ∀ (b : Bool) (H3 : Heap) (k3 : Nat), k + 1 ≤ k3 → k3 ≤ k + 2 → Kn H H3 [(R.l, R.o k3), (gl, s1.o R)] [] →
        Q6 prog Qx0 (X.inBlock 0 (X.sq prog Vf (Qq Ab (unK H K))))
         [(0, V.c (C.ptr gl 0)), (1, .c (.int .i64 deep)), (109, .c (.bool b))] H3 := by
      intro b H3 k3 e3 e4 kn;refine Qb rfl ?_ ?_
      · intro hb;refine Qa ?_;simp only [go_sem];refine EE 2 ZT (kn.e 0 rfl) (kn.e 1 rfl) aP (cd.mono ZT) (jf.keep kn rfl rfl) ZT fun x H4 k4 g1 g2 hu g3 g4 => ?_;have kn := kn.ak 0 rfl hu (R.am _);simp only [go_sem, Qtx, x.ae];refine Qi ?_;simp only [go_sem, Qq, Q0, Ab, Jb, forall_eq, RS.op];refine fin [St.mk 7 [] [x] [] []] _ s1 H4 k4 _ ZT ZT kn ?_ (cd.mono ZT) ZT rfl rfl ZV ?_ ?_
        · simp only [Qk, St.cells, Ql]
          repeat' first | exact FrzL.nil | exact FrzR.nil | exact Qe rfl | exact FrzL.same (Ex.ai _) | exact FrzL.same (St.ai _) | refine FrzL.cons ?_ ?_ | refine FrzR.cons ?_ ?_ | refine FrzR.sl ?_
        · simp only [A2, St.ok, A5]; exact ⟨⟨ZV, ⟨g3, trivial⟩, trivial, trivial⟩, trivial⟩
        · simp only [Qj, St.size, Qw]; omega
      · intro hb;refine Qd ?_;simp only [go_sem];refine Qa ?_;simp only [go_sem];refine tN _ _ _ _ _ _ deep ZT fX (kn.e 0 rfl) (kn.e 1 rfl) aP (cd.mono ZT) (jf.keep kn rfl rfl) ZT fun l s2 H4 k4 g1 g2 hu g3 g4 g5 g6 g7 g8 g9 => ?_;have kn := kn.callEE 0 1 rfl rfl Zab hu (R.am _) (GS.am _ _);simp only [go_sem, Qty];refine Qi ?_;simp only [go_sem, Qq, Q0, Ab, Jb, forall_eq, RS.op];exact fin l _ s2 H4 k4 _ ZT ZT kn (Qe rfl) g3 ZT g5 g6 g7 g8 ZT
    refine ⟨fun hb => ?_, fun hb => ?_⟩
    · refine A0 (kn.e 0 rfl) ZT fun v2 H3 kg hu => ?_;have kn := kn.ak 0 rfl hu (R.am _);simp only [go_sem, Vo];exact rest _ H3 (k + 1 + 1) ZT ZT kn
    · simp only [go_sem, Vo, hb];exact rest _ H2 (k + 1) ZT ZT kn
theorem Qbo5 (d:Nat):BZ d:=by
 induction d with
 |zero=>exact Rh (I8 (fun d' h=>absurd h ZT))
 |succ d ih=>exact Rh (I8 (fun d' h=>by
   have:d'=d:=ZT
   rw[this];exact ih))
theorem LH {R:Rdr}{gl k:Nat}{s:GS}{name:List UInt8}{params:Int}{H:Heap}{K:V→Heap→Prop}(mH:0≤params)(hp3:params≤3)(hR:H R.l=R.o k)(hG:H gl=s.o R)(aP:R.l≠gl)(hs:s.ok k)(hF:FnsOk H R gl s)(hk:k+2001300≤2^30)
  (hK:∀(f:Fn) (s':GS) (H':Heap) (k':Nat),k<k'→k'≤k+2001300→Upd H H' [(R.l,R.o k'),(gl,s'.o R)]→s'.ok k'→s'.fns=s.fns→s'.ffl=s.ffl→f.params.length≤3→A2 f.body→4 * k+Qj f.body≤4 * k'→K (.ag f.cells) H') :
  Qm prog Q23 [.c (.ptr gl 0),.c (.str name),.c (.int .i64 params)] H K:=by
 obtain⟨np,rfl⟩:=Jw mH;refine Q1 ?_;refine Qc Aa Qba0 ?_;refine Za ?_;intro x6 cB H1 h1;have kn:=(Kn.start2 hR (R.am k) hG (s.am R) aP).al cB h1;have iq:=kn.e 1 rfl;refine Qa ?_;have etk:List.take np [[C.str [97]],[C.str [98]],[C.str [99]]]=Q5 (List.take np [[97],[98],[99]]):=by simp[Q5,Jaq]
 simp only[go_sem,iq,GS.o,etk];refine⟨⟨ZT,ZT⟩,fun H2 h2=>?_⟩;have kn:Kn H H2 [(R.l,R.o k),(gl,GS.o { s with vars:=List.take np [[97],[98],[99]],vfl:=false } R)] [(x6,_)]:=kn.stE 1 rfl h2;have gN:=kn.e 1 rfl;refine ZM gN ?_;refine⟨Qv,fun H3 h3=>?_⟩;have kn:Kn H H3 [(R.l,R.o k),(gl,GS.o { s with vars:=List.take np [[97],[98],[99]],vfl:=false,next:=(np:Int)-1 } R)] [(x6,_)]:=kn.stE 1 rfl h3;have cd:GS.ok { s with vars:=List.take np [[97],[98],[99]],vfl:=false,next:=(np:Int)-1 } k:=
  ⟨by show -1≤(np:Int)-1;omega,by show (np:Int)-1≤_;omega,hs.l0,hs.l1,by show (List.take np _).length≤_;simp;omega,hs.f,hs.fn⟩
 have qE:(List.take np [[97],[98],[99]]:List (List UInt8)).length≤3:=Zac
 have ja:GS.fns { s with vars:=List.take np [[97],[98],[99]],vfl:=false,next:=(np:Int)-1 }=s.fns:=rfl;have rS:GS.ffl { s with vars:=List.take np [[97],[98],[99]],vfl:=false,next:=(np:Int)-1 }=s.ffl:=rfl;have kf:GS.vars { s with vars:=List.take np [[97],[98],[99]],vfl:=false,next:=(np:Int)-1 }=List.take np [[97],[98],[99]]:=rfl;rw[←kf]at qE;have jf:FnsOk H R gl { s with vars:=List.take np [[97],[98],[99]],vfl:=false,next:=(np:Int)-1 }:=⟨hF.1,hF.2⟩;generalize ({ s with vars:=List.take np [[97],[98],[99]],vfl:=false,next:=(np:Int)-1 }:GS)=s1 at *;have lN:=kn.e 1 rfl;refine Qa ?_;have hL:s1.vars.length≤LIM:=Zav
 simp only[go_sem,lN,GS.o,Qt,Jr,Ju,hL];refine⟨.inl trivial,CJ _,fun y hy H4 h4=>?_⟩;have kn:=kn.al hy h4;simp only[go_sem,Q8q];intro x7 i8 H5 h5;have kn:=kn.al i8 h5;have qo:=kn.l 2 rfl;simp only[go_sem,Q8p,qo];intro H6 h6;have kn:Kn H H6 [(R.l,R.o k),(gl,s1.o R)] [(x6,_),(y,_),(x7,_)]:=kn.ax 2 rfl h6;refine Za ?_;refine Qbo5 3 _ _ _ _ _ _ 3 ZT (kn.e 0 rfl) (kn.e 1 rfl) aP cd (jf.keep kn rfl rfl) ZT fun l c Lg s2 H7 k2 g1 g2 hu b9 cx cr glf g3 g4 g5 g6 g7=>?_;have kn0:=kn;have kn:=kn.callEE 0 1 rfl rfl Zab hu (R.am _) (GS.am _ _);have kn:=kn0.addGr kn rfl rfl b9 cx;have lW:=kn.l 2 rfl;simp only[go_sem,Q8r,lW];intro H8 h8;have kn:Kn H H8 [(R.l,R.o k2),(gl,s2.o R)] ([(x6,.st [.str [],.sl true 1 [],.sl true 5 []]),(y,.vec 1 (Q5 s1.vars)),(x7,.st [.str name,.aw y 1 0 s1.vars.length,c])]++Lg):=kn.ax 2 rfl h8;have s7:=kn.e 1 rfl;refine Qz (Qa ?_);simp only[go_sem,s7,GS.o];have dB:=b9.ah;have rest:∀(E1:Env) (tR:lk 6 E1=V.c (C.ptr x6 0)) (tQ:lk 7 E1=V.c (C.ptr x7 0)) (l2:List St) (c2:C) (rws:List (List C)) (L2:List (Nat×Obj)) (s3:GS) (H9:Heap) (k3:Nat),k<k3→k3≤k+2001300→
   Kn H H9 [(R.l,R.o k3),(gl,s3.o R)] ([(x6,.st [.str [],.sl true 1 [],.sl true 5 []]),(y,.vec 1 (Q5 s1.vars)),(x7,.st [.str name,.aw y 1 0 s1.vars.length,c2])]++L2)→Gr L2 5 rws c2→(∀H',FrzR H' (un H) rws (Qk l2))→
   s3.ok k3→s3.fns=s1.fns→s3.ffl=s1.ffl→A2 l2→4 * k+Qj l2≤4 * k3→Q6 prog T3 (Qq RR (unK H K)) E1 H9:=by
  intro E1 tR tQ l2 c2 rws L2 s3 H9 k3 e1 e2 kn fV mZ e3 e4 e5 e6 e7;have j9:=kn.l 0 rfl;have qn:=kn.l 2 rfl;have dB:=fV.ah;refine Zj tR tQ j9 qn dB ?_;intro H10 bP;have kn:=kn.ax 0 rfl bP;have j8:=kn.l 0 rfl;have hya:=kn.l 1 rfl;refine ZK j8 dB ?_;refine⟨(.ag (Fn.mk name s1.vars l2).cells),?_,hK _ s3 _ k3 e1 e2 kn.fin e3 (e4.trans ja) (e5.trans rS) qE e6 e7⟩;refine FrzL.ag (.cons (Qe rfl) (.cons ?_ (.cons ?_ .nil)))
  ·exact F7 (kn.un 1 rfl) hya (by simp[Q5]) (RF (CJ _))
  ·exact fV.frzR (B:=[_,_,_]) kn (mZ _)
 have tl:∀(b:Bool) (H9:Heap) (k3:Nat),k2≤k3→k3≤k2+1→(b=true→0<s2.left)→Kn H H9 [(R.l,R.o k3),(gl,s2.o R)] ([(x6,.st [.str [],.sl true 1 [],.sl true 5 []]),(y,.vec 1 (Q5 s1.vars)),(x7,.st [.str name,.aw y 1 0 s1.vars.length,c])]++Lg)→
   Q6 prog (s_l3Gen_fn_7.seq T3) (Qq RR (unK H K)) [(0,V.c (C.ptr gl 0)),(6,V.c (C.ptr x6 0)),(7,V.c (C.ptr x7 0)),(42,.c (.bool b))] H9:=by
  intro b H9 k3 e1 e2 hb kn;have s6:=kn.e 1 rfl;refine Qf (Qb rfl ?_ ?_)
  ·intro hc;have tj:=hb hc;have iX:=cr.l1;refine ZM s6 ?_;refine⟨Qv,fun H10 bP=>?_⟩;have kn:Kn H H10 [(R.l,R.o k3),(gl,GS.o { s2 with left:=s2.left-1 } R)] ([(x6,_),(y,_),(x7,_)]++Lg):=kn.stE 1 rfl bP;have iD:GS.ok { s2 with left:=s2.left-1 } k3:=⟨cr.n0,by have:=cr.n1;show s2.next≤_;omega,by show _≤s2.left-1;omega,by show s2.left-1≤100;omega,by have:=cr.v;show s2.vars.length≤_;omega,cr.f,cr.fn⟩;have lV:=kn.l 2 rfl;refine Bf ?_;simp only[go_sem,lV,dB];refine EE 2 ZT (kn.e 0 rfl) (kn.e 1 rfl) aP iD (jf.keep kn g3 g4) ZT fun x H11 k4 q1 q2 hu q3 q4=>?_;have kn:=kn.ak 0 rfl hu (R.am _);have kK:=kn.l 2 rfl;simp only[go_sem,Q8t,kK,dB,x.ae];refine kn.grow (B:=[_,_,_]) b9 (.mk' _ _ _ _) (by intro r hr;simp only[Jb]at hr;subst hr;rfl) (by simp only[Qp,LIM,Jf,Jg];omega) fun y' H12 kn=>?_;have qm:=kn.l 2 rfl;simp only[go_sem,Q8s,qm];intro H13 cy;have kn:=kn.ax 2 rfl cy;refine rest _ ZX ZX (l++[St.mk 7 [] [x] [] []]) _ _ _ _ H13 k4 ZT ZT kn (.mk _ _ _ (by simp[Qp])) (fun H'=>?_) (iD.mono ZT) g3 g4 (FF g6 ?_) ?_
   ·rw[←BR];refine .app (.same (AQ _)) ?_;simp only[Qk,St.cells,Ql]
    repeat' first|exact FrzL.nil|exact FrzR.nil|exact Qe rfl|exact FrzL.same (Ex.ai _)|exact FrzL.same (St.ai _)|refine FrzL.cons ?_ ?_|refine FrzR.cons ?_ ?_|refine FrzR.sl ?_
   ·simp only[A2,St.ok,A5];exact⟨⟨ZV,⟨q3,trivial⟩,trivial,trivial⟩,trivial⟩
   ·simp only[Cf,Qj,St.size,Qw];omega
  ·intro hc;refine Ze ?_;exact rest _ ZX ZX l c _ Lg s2 H9 k3 ZT ZT kn b9 (fun H'=>.same (AQ _)) (cr.mono ZT) g3 g4 g6 ZT
 refine⟨fun hb=>?_,fun hb=>?_⟩
 ·refine A0 (kn.e 0 rfl) ZT fun v H9 hv hu=>?_;have kn:=kn.ak 0 rfl hu (R.am _);simp only[go_sem,TE,hb];exact tl _ H9 (k2+1) ZT ZT (fun _=>Zas) kn
 ·simp only[go_sem,TE,hb];exact tl false H8 k2 ZT ZT (fun h=>Zaa) kn
structure PrOk (l:List Fn):Prop where
 pos:0<l.length
 par:∀f∈l,f.params.length≤3
 ok:∀f∈l,A2 f.body
 size:Qn l≤2^34
 len:l.length≤4
end Go.AE.Y
namespace Go.AE
open Go.AE.Y
open Go.Proofs.Tryz
theorem Kn.perm4 {H0 H:Heap}{E:List (Nat×Obj)}{a b c d:Nat×Obj}(kn:Kn H0 H E [a,b,c,d]):Kn H0 H E [a,b,d]:=
 Kn.drop (A:=[a,b,d]) (B:=[c]) (kn.perm (.cons _ (.cons _ (.swap _ _ _))))
end Go.AE
namespace Go.AE.Y
open Go.Proofs.Tryz
theorem Fx {R:Rdr}{k:Nat}{H:Heap}{K:V→Heap→Prop}(hR:H R.l=R.o k)(hk:k+7000000≤2^30)
  (hK:∀(l:List Fn) (H':Heap) (k':Nat),k<k'→k'≤k+7000000→Upd H H' [(R.l,R.o k')]→PrOk l→K (.ag [.sl false 3 (Qo l)]) H') :
  Qm prog KJ [.c (.ptr R.l 0)] H K:=by
 refine Q1 ?_;refine Qc Aa Qbmd ?_;refine Za ?_;intro x2 bB H1 h1;have kn:=(Kn.start1 hR (R.am k)).al bB h1;refine Za ?_;refine Bj (ns:=[14,20,8,26]) (kn.e 0 rfl) ZT ZV fun v H2 hv hu=>?_;have kn:=kn.ak 0 rfl hu (R.am _);simp only[go_sem,Nt];intro gl iN H3 h3;have kn:Kn H H3 [(R.l,R.o (k+1))] [(x2,.st [.sl true 3 []]),(gl,GS.o ⟨[],(.sl true 3 [],[]),[],true,0,v⟩ R)]:=kn.al iN h3;have hv26:0≤v∧v≤26:=by simp at hv;omega
 simp only[go_sem,Nn];have aP:R.l≠gl:=kn.ne 0 1 rfl rfl;refine Qz (Qa ?_);simp only[go_sem];refine Bj (ns:=[0,1,1,2]) (kn.e 0 rfl) ZT ZV fun cnt H4 gC hu=>?_;have kn:=kn.ak 0 rfl hu (R.am _);have au:0≤cnt∧cnt≤2:=by simp at gC;omega
 simp only[go_sem,Ns];obtain⟨M,hM⟩:∃M:Nat,M=2001301:=⟨_,rfl⟩;refine Qf (Qg (Q3 (fun n e1 H1=>∃(j k4:Nat) (s:GS),n=cnt.toNat-j∧(j:Int)≤cnt∧s.fns.length=j∧k+2≤k4∧k4≤k+2+M * j∧s.ok k4∧(∀f∈s.fns,A2 f.body)∧4 * k+Qn s.fns≤4 * k4∧
   Gr s.ffl.2 3 (Qo s.fns) s.ffl.1∧Kn H H1 [(R.l,R.o k4)] ([(x2,.st [.sl true 3 []]),(gl,s.o R)]++s.ffl.2)∧
   e1=[(0,.c (.ptr R.l 0)),(2,.c (.ptr x2 0)),(3,.c (.ptr gl 0)),(4,.c (.int .i64 (cnt-j)))]) cnt.toNat ?_ ?_))
 ·refine⟨0,k+2,⟨[],(.sl true 3 [],[]),[],true,0,v⟩,ZT,ZT,rfl,ZT,ZT,⟨?_,?_,?_,?_,ZV,ZV,ZV⟩,ZV,by simp only[Qn];omega,.nil 3,kn,ZV⟩
  ·show -1≤(0:Int);omega
  ·show (0:Int)≤_;omega
  ·show _≤v;omega
  ·show v≤100;omega
 ·rintro n e1 H1 ⟨j,k4,s,hn,hj,fW,rJ,rI,hs,po,aO,b9,kn,rfl⟩;have hMj:M * j≤M * 2:=Jad _ ZT;have tM:M * (j+1)=M * j+M:=Ja3 _ _;have iq:=kn.l 1 rfl;have js:=b9.ah;have ig:=b9.a9;rw[Qu]at ig;refine Qz (Qa ?_);simp only[go_sem];refine Qf (Qb rfl ?_ ?_)
  ·intro hc;have hi:(j:Int)<cnt:=Zb4
   refine Ze ?_;refine Qf (Qg ?_);have pm:=(b9.aT (B:=[_,_]) kn);have eg:List.getD [[C.str [102]],[C.str [103]],[C.str [104]]] s.fns.length []=[.str (List.getD [[102],[103],[104]] s.fns.length [])]:=BT [[102],[103],[104]] _ Zac;have oS:s.fns.length<3:=ZT
   refine An ?_;simp only[go_sem,iq,GS.o,js,ig,eq_true pm,eg,oS];refine A0 (kn.e 0 rfl) ZT fun p H2 hp hu=>?_;have kn:Kn H H2 [(R.l,R.o (k4+1))] ([(x2,.st [.sl true 3 []]),(gl,s.o R)]++s.ffl.2):=kn.ak 0 rfl hu (R.am _);rw[if_neg ZT]at hp;have gN:=kn.l 1 rfl;have pk:=(b9.aT (B:=[_,_]) kn);simp only[go_sem,Np,gN,GS.o,js,ig,eq_true pk,eg,oS];have hF:FnsOk H2 R gl s:=⟨b9,fun q hq=>by
    have h1:=kn.get q (Ja _ (Ja _ hq));refine⟨h1.1,fun hh=>?_,fun hh=>?_⟩
    ·exact kn.usedE 0 rfl (hh▸kn.loc q (Ja _ hq))
    ·have:=kn.dL;rw[Ji]at this;exact (J5.1 this).2.2 gl ZV q.1 (AR hq) hh.symm⟩
   refine LH hp.1 ZT (kn.e 0 rfl) (kn.l 1 rfl) aP (hs.mono (Ja1 k4)) hF ZT fun f s2 H5 k5 g1 g2 hu cr g3 g4 g5 g6 g7=>?_;have kn:=kn.callEL 0 1 rfl rfl hu (R.am _) (GS.am _ _);have kn:Kn H H5 [(R.l,R.o k5)] ([(x2,.st [.sl true 3 []]),(gl,s2.o R)]++s.ffl.2):=kn;simp only[go_sem,Nq];intro x5 cp H6 h6;have kn:=kn.al cp h6;have kn:=kn.perm (L':=[(x2,_),(gl,_),(x5,_)]++s.ffl.2) (by
    simp only[Jt,Ju];exact .cons _ (.cons _ Jo))
   have hG6:=kn.l 1 rfl;have qx:=kn.l 2 rfl;have pj:=(b9.aT (B:=[_,_,_]) kn);simp only[go_sem,Nr,hG6,qx,GS.o,g4,js,ig,eq_true pj,eg,oS,Fn.cells];intro H7 h7;have kn:Kn H H7 [(R.l,R.o k5)] ([(x2,_),(gl,_),(x5,_)]++s.ffl.2):=kn.ax 2 rfl h7;have pE:=kn.l 1 rfl;have ma:=kn.l 2 rfl;refine Bf ?_;simp only[go_sem,pE,ma,GS.o,g4,js];refine kn.grow (B:=[_,_,_]) (new:=[f.cells]) b9 (.mk' _ _ _ _) (by simp[f.ai]) (by simp only[Qu,LIM,Jf,Jg];omega) fun z H8 kn=>?_;have s7:=kn.l 1 rfl;simp only[go_sem,No,s7,GS.o];intro H9 h9;have kn:=kn.ax 1 rfl h9;obtain⟨s9,mr⟩:∃s9:GS,s9=GS.mk (s.fns++[f]) (C.aw z 3 0 ((Qo s.fns).length+1),[(z,Obj.vec 3 (Qo s.fns++[f.cells]))]) s2.vars s2.vfl s2.next s2.left:=⟨_,rfl⟩;have sY:s9.o R=.st [C.ptr R.l 0,C.aw z 3 0 ((Qo s.fns).length+1),C.sl s2.vfl 1 (Q5 s2.vars),C.int IntKind.i64 s2.next,C.int IntKind.i64 s2.left]:=by rw[mr];rfl
   rw[←sY]at kn;have kn:Kn H H9 [(R.l,R.o k5)] [(x2,_),(gl,s9.o R),(x5,_),(z,_)]:=kn;have kn:=kn.perm4;refine Zo ?_;have rH:k5≤k+2+M * (j+1):=by rw[tM];omega
   refine⟨Qv,cnt.toNat-(j+1),ZT,j+1,k5,s9,rfl,ZT,by simp[mr,fW],ZT,rH,?_,?_,?_,?_,by rw[mr]at kn⊢;exact kn,?_⟩
   ·subst mr;refine⟨cr.n0,cr.n1,cr.l0,cr.l1,cr.v,fun f' eX=>?_,by simp;omega⟩;rcases Jd.1 eX with h|h
    ·exact hs.f f' h
    ·simp at h;subst h;exact g5
   ·subst mr;intro f' eX;rcases Jd.1 eX with h|h
    ·exact po f' h
    ·simp at h;subst h;exact g6
   ·subst mr;simp only[Sw,Qn];omega
   ·subst mr;show Gr [(z,Obj.vec 3 (Qo s.fns++[f.cells]))] 3 (Qo (s.fns++[f])) _;rw[RU];exact .mk _ _ _ (by simp[Qu])
   ·have:cnt-((j+1:Nat):Int)=cnt-j-1:=ZT;rw[this]
  ·intro hc;refine Zm ?_;have hkE:k4≤k+4002604:=ZT
   refine Za ?_;refine Bj (ns:=[0,1,2,1]) (kn.e 0 rfl) ZT ZV fun p H2 hp hu=>?_;have kn:Kn H H2 [(R.l,R.o (k4+1))] ([(x2,.st [.sl true 3 []]),(gl,s.o R)]++s.ffl.2):=kn.ak 0 rfl hu (R.am _);have lC:0≤p∧p≤3:=by simp at hp;omega
   simp only[go_sem,OV];have hF:FnsOk H2 R gl s:=⟨b9,fun q hq=>by
    have h1:=kn.get q (Ja _ (Ja _ hq));refine⟨h1.1,fun hh=>?_,fun hh=>?_⟩
    ·exact kn.usedE 0 rfl (hh▸kn.loc q (Ja _ hq))
    ·have:=kn.dL;rw[Ji]at this;exact (J5.1 this).2.2 gl ZV q.1 (AR hq) hh.symm⟩
   refine LH lC.1 lC.2 (kn.e 0 rfl) (kn.l 1 rfl) aP (hs.mono (Ja1 k4)) hF ZT fun f s2 H5 k5 g1 g2 hu cr g3 g4 g5 g6 g7=>?_;have kn:=kn.callEL 0 1 rfl rfl hu (R.am _) (GS.am _ _);have kn:Kn H H5 [(R.l,R.o k5)] ([(x2,.st [.sl true 3 []]),(gl,s2.o R)]++s.ffl.2):=kn;simp only[go_sem,OW];intro x6 cB H6 h6;have kn:=kn.al cB h6;have kn:=kn.perm (L':=[(x2,_),(gl,_),(x6,_)]++s.ffl.2) (by
    simp only[Jt,Ju];exact .cons _ (.cons _ Jo))
   have lY:=kn.l 2 rfl;simp only[go_sem,OX,lY,Fn.cells];intro H7 h7;have kn:Kn H H7 [(R.l,R.o k5)] ([(x2,_),(gl,_),(x6,_)]++s.ffl.2):=kn.ax 2 rfl h7;have pE:=kn.l 1 rfl;have kM:=kn.l 2 rfl;have pi:=b9.aT (B:=[_,_,_]) kn;have my:=b9.rowsOf (B:=[_,_,_]) kn;have na:=b9.aN;have hL:s.fns.length≤LIM:=Zav
   refine An ?_;simp only[go_sem,pE,kM,GS.o,g4,js,ig,eq_true pi,my,na,hL,Jr];refine⟨.inl trivial,CB _,fun y hy H8 h8=>?_⟩;have kn:=kn.al hy h8;have kn:=kn.perm (L':=([(x2,_),(gl,_),(x6,_)]++[(y,_)])++s.ffl.2) Ig;have kn:=kn.drop;have qs:=kn.l 2 rfl;have kn:Kn H H8 [(R.l,R.o k5)] [(x2,_),(gl,_),(x6,_),(y,_)]:=kn;have hy8:=kn.l 3 rfl;have etk:List.take s.fns.length (Qo s.fns)=Qo s.fns:=Jq (by rw[Qu];omega);simp only[go_sem,OS,qs,hy8,Qu,etk];refine⟨ZT,by simp only[LIM];omega,fun z hz H9 h9=>?_⟩;have kn:Kn H H9 [(R.l,R.o k5)] [(x2,_),(gl,_),(x6,_),(z,.vec 3 (Qo s.fns++[f.cells]))]:=kn.ap 3 rfl hz h9;simp only[go_sem,OT];intro x7 i8 H10 bP;have kn:=kn.al i8 bP;have s8:=kn.l 1 rfl;have j8:=kn.l 2 rfl;have lV:=kn.l 4 rfl;have kn:Kn H H10 [(R.l,R.o k5)] [(x2,_),(gl,_),(x6,_),(z,_),(x7,_)]:=kn;simp only[go_sem,OU,s8,j8,lV,GS.o,g4,js];intro H11 cM;have kn:=kn.ax 4 rfl cM;have kn:Kn H H11 [(R.l,R.o k5)] ([(x2,.st [.sl true 3 []]),(x7,.st [.aw z 3 0 (s.fns.length+1)])]++[(z,.vec 3 (Qo s.fns++[f.cells]))]):=
    (kn.perm (L':=([(x2,_),(x7,_)]++[(z,_)])++[(gl,_),(x6,_)]) (by
     simp only[List.set,Jt,Ju];refine .cons _ ?_;refine .trans (.cons _ (.cons _ (.swap _ _ _))) ?_;refine .trans (.cons _ (.swap _ _ _)) ?_;refine .trans (.swap _ _ _) ?_;refine .cons _ ?_;refine .trans (.cons _ (.swap _ _ _)) ?_;exact .swap _ _ _)).drop
   have qf:=kn.l 2 rfl;have sK:=kn.l 1 rfl;obtain⟨fQ,kn⟩:=kn.freeze 1 rfl (og':=.st [.sl false 3 (Qo (s.fns++[f]))]) (FrzKL.st (.cons rfl (by
    rw[←RU];exact F7 ZV qf (by simp[Qu]) (RF (noOw_app (CB _) (by simp[f.ai])))) .nil)) ZV
   refine Qz (c_gh (Hz _ (fun t=>?_) fQ) (e':=[(2,V.c (C.ptr x2 0)),(7,V.c (C.ptr x7 0))]) ?_)
   ·simp only[lk];split
    ·exact .c _ _ (.same _ rfl)
    ·split
     ·exact .c _ _ (.same _ rfl)
     ·exact .unk _
   generalize ((H11.frz fun m=>m == z).set x7 (Obj.st [C.sl false 3 (Qo (s.fns++[f]))]))=H12 at *;have kK:=kn.l 1 rfl;have nP:=kn.l 0 rfl;have cN:Qn (s.fns++[f])≤2^34:=by rw[Sw];simp only[Qn];omega
   refine Zd kK ?_;refine Qapj ZT fun b=>?_;simp only[go_sem,OR];refine Qf (Qb rfl ?_ ?_)
   ·intro hc;refine Zd nP ?_;intro H13 cy;have kn:=kn.ax 0 rfl cy;have me:=kn.l 0 rfl;refine Zz me ?_;refine⟨.ag [.sl false 3 (Qo [Fn.mk [109] [] [St.mk 3 [] [Ex.mk 1 1 [] []] [] []]])],FrzL.ag ?_,hK _ _ k5 ZT ZT kn.fin ⟨ZV,ZV,?_,?_,ZV⟩⟩
    ·simp only[Qo,J0,List.map_nil,Fn.cells,Qbec,Qk,St.cells,Ql,Ex.cells]
     repeat' first|exact FrzL.nil|exact FrzR.nil|exact Qe rfl|exact FrzL.same (Ex.ai _)|exact FrzL.same (St.ai _)|refine FrzL.cons ?_ ?_|refine FrzR.cons ?_ ?_|refine FrzR.sl ?_
    ·intro f hf;simp at hf;subst hf;simp[A2,St.ok,A5,Ex.ok]
    ·simp[Qn,Qj,St.size,Qw,Ex.size]
   ·intro hc;refine Ze ?_;refine Zi nP kK ?_;intro H13 cy;have kn:=kn.ax 0 rfl cy;have me:=kn.l 0 rfl;refine Zz me ?_;refine⟨.ag [.sl false 3 (Qo (s.fns++[f]))],FrzL.ag (.cons (Qe rfl) .nil),hK _ _ k5 ZT ZT kn.fin ⟨ZV,?_,?_,cN,by simp;omega⟩⟩
    ·intro f' eX;rcases Jd.1 eX with h|h
     ·exact hs.f f' h
     ·simp at h;subst h;exact g5
    ·intro f' eX;rcases Jd.1 eX with h|h
     ·exact po f' h
     ·simp at h;subst h;exact g6
end Go.AE.Y
namespace Go.AE.Y
structure Lw where
 cu:Int
 bs:List BlkD
 at_:Nat
def blk0:BlkD:=⟨[],[],0,0,[]⟩
def Lw.put (s:Lw)(op to n:Int)(args:List Int):Lw:={ s with bs:=s.bs.modify s.at_ fun b=>{ b with ins:=b.ins++[⟨op,to,args,n⟩] } }
def Lw.fresh (s:Lw):Lw:={ s with cu:=s.cu+1 }
def Lw.add (s:Lw)(n:Nat):Lw:={ s with bs:=s.bs++List.replicate n blk0 }
def Lw.jump (s:Lw)(kind on:Int)(next:List Int)(at':Nat):Lw:={ s with bs:=s.bs.modify s.at_ fun b=>{ b with jump:=kind,on:=on,next:=next },at_:=at' }
structure Lv where
 s:Lw
 v:Vars
 next:Nat
mutual
def St.lets:St→Nat
 |.mk op _ _ body els=>(if op=1 then 1 else 0)+G2 body+G2 els
def G2:List St→Nat
 |[]=>0
 |x::r=>x.lets+G2 r
end
def parV (ps:List (List UInt8)):Vars×Nat:=ps.foldl (fun s p=>(A8 s.1 p s.2,s.2+1)) ([[]],0)
def AT (n:Nat):List UInt8:=[118,UInt8.ofNat (97+n)]
theorem Rp {a b:Nat}(ha:a<26)(hb:b<26)(h:AT a=AT b):a=b:=by
 have:∀x y:Fin 26,AT x.val=AT y.val→x=y:=Zab
 have:=this ⟨a,ha⟩ ⟨b,hb⟩ h;exact congrArg Fin.val this
def renV (v:Vars):Vars:=v.map fun b=>b.map fun p=>(AT p.2,p.2)
def VOk (v:Vars)(n:Nat):Prop:=(v.flatten.map Prod.snd).Nodup∧∀p∈v.flatten,p.2<n
theorem Kv (v:Vars):(renV v).flatten=v.flatten.map fun p=>(AT p.2,p.2):=by
 induction v with
 |nil=>rfl
 |cons b r ih=>simp only[renV,J0,List.flatten_cons,Ji]at ih⊢;rw[ih]
theorem Qbkv {l:List (List UInt8×Nat)}{n:Nat}(hn:n≤26)(h1:(l.map Prod.snd).Nodup)(h2:∀p∈l,p.2<n){s:List UInt8}{m:Nat}(hf:(l.find? fun p=>decide (p.1=s)).map Prod.snd=some m) :
  ((l.map fun p=>(AT p.2,p.2)).find? fun p=>decide (p.1=AT m)).map Prod.snd=some m:=by
 obtain⟨p,hp,rfl⟩:=Option.map_eq_some_iff.1 hf;have eV:=List.mem_of_find?_eq_some hp;clear hf hp
 induction l with
 |nil=>simp at eV
 |cons a r ih=>
  have ha:=h2 a Jy;have lC:=h2 p eV;rw[J0,List.find?_cons];by_cases he:AT a.2=AT p.2
  ·have:=Rp ZT ZT he;simp[this]
  ·simp only[he,decide_false];have:p≠a:=fun e=>he (by rw[e]);exact ih (Ja0.1 h1).2 (fun q hq=>h2 q (Js _ hq)) (by simpa[this]using eV)
theorem VOk.find {v:Vars}{n:Nat}(h:VOk v n)(hn:n≤26){s:List UInt8}{m:Nat}(hf:v.find s=some m):(renV v).find (AT m)=some m:=by
 rw[Vars.find,Kv];exact Qbkv hn h.1 h.2 hf
theorem VOk.put {v:Vars}{n:Nat}(h:VOk v n)(s:List UInt8):VOk (A8 v s n) (n+1):=by
 have e:(A8 v s n).flatten=(s,n)::v.flatten:=by
  cases v with
  |nil=>rfl
  |cons b r=>simp[A8]
 refine⟨?_,fun p hp=>?_⟩
 ·rw[e,J0,Ja0];refine⟨fun hm=>?_,h.1⟩;obtain⟨p,hp,he⟩:=J1.1 hm;have:=h.2 p hp;omega
 ·rw[e]at hp;rcases Jm.1 hp with rfl|hp
  ·show n<n+1;omega
  ·have:=h.2 p hp;omega
theorem VOk.push {v:Vars}{n:Nat}(h:VOk v n):VOk ([]::v) n:=by
 have e:(([]:List (List UInt8×Nat))::v).flatten=v.flatten:=ZV
 exact⟨by rw[e];exact h.1,by rw[e];exact h.2⟩
theorem VOk.mono {v:Vars}{n m:Nat}(h:VOk v n)(hm:n≤m):VOk v m:=⟨h.1,fun p hp=>by have:=h.2 p hp;omega⟩
theorem VOk.top {v:Vars}{n:Nat}(h:VOk v n)(hn:n<26):A6 (renV v) (AT n)=false:=by
 rw[A6,List.any_eq_false];intro p hp;have hm:p∈(renV v).flatten:=by
  cases hv:renV v with
  |nil=>rw[hv]at hp;simp at hp
  |cons b r=>rw[hv]at hp;simp at hp;simp[hp]
 rw[Kv]at hm;obtain⟨q,hq,rfl⟩:=J1.1 hm;have h2:=h.2 q hq;simp only[decide_eq_true_eq];intro he;have:=Rp ZT hn he;omega
def AllV (v:Vars)(l:List Ex):Prop:=∀e∈l,e.op=2→(v.find e.name).isSome=true
theorem AllV.app {v:Vars}{a b:List Ex}(h:AllV v (a++b)):AllV v a∧AllV v b:=⟨fun e he=>h e (Jc _ he),fun e he=>h e (Ja _ he)⟩
theorem XD (fns:List Fn)(k:Nat)(op:Int)(name:List UInt8)(args:List Ex)(s:Ck):(stC fns k op name args s).n=s.n+if op=1 then 1 else 0:=by
 unfold stC;split
 ·rename_i h;simp[h]
 ·rename_i h
  split <;> simp[h]
mutual
theorem St.ck_nr (fns:List Fn)(k:Nat):∀(x:St) (s:Ck),(x.ck fns k s).n=s.n+x.lets
 |.mk op name args body els,s=>by
  simp only[St.ck,St.lets];rw[Eb fns k els,Eb fns k body,XD];omega
theorem Eb (fns:List Fn)(k:Nat):∀(l:List St) (s:Ck),(Ae fns k l s).n=s.n+G2 l
 |[],s=>by simp[Ae,G2]
 |x::r,s=>by
  simp only[Ae,G2];rw[Eb fns k r,St.ck_nr fns k x];omega
end
theorem Qbam {op:Int}{name:List UInt8}{args:List Ex}{body els:List St}{dp:Int}(h:(St.mk op name args body els).form dp=true) :
  Qx body (dp-1)=true∧Qx els (dp-1)=true∧(op≠5→els=[])∧(op≠5→op≠6→body=[])∧args.length=AO op∧(∀a∈args,a.valid=true)∧(1≤op∧op≤8):=by
 simp only[St.form,Jk,BF,decide_eq_true_eq,Bool.or_eq_true,J6]at h;obtain⟨⟨⟨_,⟨⟨⟨⟨⟨⟨h1,h2⟩,_⟩,_⟩,h3⟩,_⟩,h4⟩,h5⟩,h6⟩,h7⟩:=h;refine⟨h6,h7,fun h=>Jah.1 ZT,fun h h'=>Jah.1 ZT,h2,h3,h1⟩
theorem XC {fns:List Fn}{k:Nat}{op:Int}{name:List UInt8}{args:List Ex}{v:Vars}{n:Nat}(h:(stC fns k op name args ⟨v,0,n⟩).c=0) :
  AllV v (Q7 args)∧(op=2→(v.find name).isSome=true)∧stC fns k op name args ⟨v,0,n⟩=⟨if op=1 then A8 v name n else v,0,n+if op=1 then 1 else 0⟩:=by
 have h2:Ax fns k v (Q7 args) 0=0:=by
  unfold stC at h;simp only at h;split at h
  ·exact (fst0_zero.1 h).1
  ·split at h
   ·exact (fst0_zero.1 h).1
   ·exact h
 obtain⟨_,h4⟩:=partsC_zero.1 h2;refine⟨fun e he ho=>?_,fun ho=>?_,?_⟩
 ·have:=h4 e he;rw[AA,if_pos ho]at this
  cases hs:(v.find e.name).isSome with
  |true=>rfl
  |false=>rw[hs]at this;simp at this
 ·unfold stC at h;simp only[ho]at h;have:=(fst0_zero.1 h).2
  cases hs:(v.find name).isSome with
  |true=>rfl
  |false=>rw[hs]at this;simp at this
 ·unfold stC at h⊢;simp only at h⊢;by_cases h1:op=1
  ·simp only[h1,if_true]at h⊢;rw[h]
  ·simp only[h1,if_false]at h⊢;by_cases h3:op=2
   ·simp only[h3,if_true]at h⊢;rw[h];rfl
   ·simp only[h3,if_false]at h⊢;rw[h];rfl
theorem VOk.st {v:Vars}{n:Nat}(h:VOk v n)(op:Int)(name:List UInt8):VOk (if op=1 then A8 v name n else v) (n+if op=1 then 1 else 0):=by
 by_cases h1:op=1
 ·simp only[h1,if_true];exact h.put name
 ·simp only[h1,if_false];exact h
theorem Rd {fns:List Fn}{k:Nat}{op:Int}{name:List UInt8}{args:List Ex}{body els:List St}{v:Vars}{n:Nat}(h:((St.mk op name args body els).ck fns k ⟨v,0,n⟩).c=0) :
  AllV v (Q7 args)∧(op=2→(v.find name).isSome=true)∧
  (Ae fns k body ⟨[]::(if op=1 then A8 v name n else v),0,n+if op=1 then 1 else 0⟩).c=0∧
  (Ae fns k els ⟨[]::(if op=1 then A8 v name n else v),0,(n+if op=1 then 1 else 0)+G2 body⟩).c=0∧
  (St.mk op name args body els).ck fns k ⟨v,0,n⟩=⟨if op=1 then A8 v name n else v,0,n+(St.mk op name args body els).lets⟩:=by
 have hn:=St.ck_nr fns k (.mk op name args body els) ⟨v,0,n⟩;have hc:=h;simp only[St.ck]at h;have h1:=(BN els h).1;simp only at h1;have h2:=(BN body h1).1;simp only at h2;obtain⟨a1,a2,a3⟩:=XC h2;rw[a3]at h h1;simp only at h h1;have ju:=Eb fns k body ⟨[]::(if op=1 then A8 v name n else v),0,n+if op=1 then 1 else 0⟩;simp only at ju;rw[h1,ju]at h;refine⟨a1,a2,h1,h,?_⟩;have hv:((St.mk op name args body els).ck fns k ⟨v,0,n⟩).v=if op=1 then A8 v name n else v:=by
  simp only[St.ck];rw[a3]
 generalize (St.mk op name args body els).ck fns k ⟨v,0,n⟩=R at *;obtain⟨rv,rc,rn⟩:=R;simp only at hv hc hn;rw[hv,hc,hn]
theorem Qbn2 {fns:List Fn}{k:Nat}{x:St}{r:List St}{v:Vars}{n:Nat}(h:(Ae fns k (x::r) ⟨v,0,n⟩).c=0) :
  (x.ck fns k ⟨v,0,n⟩).c=0∧(Ae fns k r ⟨if x.op=1 then A8 v x.name n else v,0,n+x.lets⟩).c=0:=by
 simp only[Ae]at h;have h1:=(BN r h).1;refine⟨h1,?_⟩
 cases x with
 |mk op name args body els=>
  rw[(Rd h1).2.2.2.2]at h;exact h
def parW (ps:List (List UInt8))(v:Vars)(n:Nat):Vars×Nat:=ps.foldl (fun s p=>(A8 s.1 p s.2,s.2+1)) (v,n)
theorem IE:∀(ps:List (List UInt8)) (v:Vars) (n:Nat),VOk v n→VOk (parW ps v n).1 (parW ps v n).2∧(parW ps v n).2=n+ps.length
 |[],v,n,h=>⟨h,rfl⟩
 |p::r,v,n,h=>by
  obtain⟨h1,h2⟩:=IE r _ _ (h.put p);refine⟨h1,?_⟩;have:parW (p::r) v n=parW r (A8 v p n) (n+1):=rfl;rw[this,h2,Jf];omega
theorem IG:∀(ps:List (List UInt8)) (v:Vars) (n:Nat),(A1 ps ⟨v,0,n⟩).c=0→A1 ps ⟨v,0,n⟩=⟨(parW ps v n).1,0,(parW ps v n).2⟩
 |[],v,n,h=>rfl
 |p::r,v,n,h=>by
  have e:A1 (p::r) ⟨v,0,n⟩=A1 r ⟨A8 v p n,Af 0 (if A6 v p then 2 else 0),n+1⟩:=rfl;rw[e]at h⊢;have h0:=Kx h;simp only at h0;rw[h0]at h⊢;exact IG r _ _ h
theorem vok0:VOk [[]] 0:=⟨ZV,ZV⟩
theorem FineP.fn {fns:List Fn}(h:FineP fns){k:Nat}(hk:k<fns.length) :
  A1 fns[k].params ⟨[[]],0,0⟩=⟨(parV fns[k].params).1,0,fns[k].params.length⟩∧VOk (parV fns[k].params).1 fns[k].params.length∧(Ae fns k fns[k].body ⟨(parV fns[k].params).1,0,fns[k].params.length⟩).c=0∧
   fns[k].params.all Av=true∧Av fns[k].name=true∧fns[k].params.length≤3∧Qx fns[k].body 4=true:=by
 have hc:=h.c k hk;have h1:=IG _ _ _ (BN _ hc).1;obtain⟨h2,h3⟩:=IE fns[k].params [[]] 0 vok0;rw[Jr]at h3;rw[h3]at h1 h2;have hv:=h.v;simp only[AW,Jk,decide_eq_true_eq,J6]at hv;have hf:=hv.1.2 _ (Jj hk);simp only[Fn.form,Jk,decide_eq_true_eq]at hf;refine⟨h1,h2,?_,hf.1.1.1,hf.1.1.2,hf.1.2,hf.2⟩;rw[h1]at hc;exact hc
def Lw.ok (s:Lw):Prop:=s.at_<s.bs.length
theorem NR {l:List Ex}(h:∀a∈l,a.valid=true):Az l 6=true:=by
 rw[Sk,J6];intro a ha;have:=h a ha;simp only[Ex.valid,Jk]at this;exact this.1
open Go.Proofs.Tryz
variable {F H:Heap}{w:Nat}{s:LS}{K:V→Heap→Prop}
def intB (l:List (List C)):List Int:=l.map fun r=>match r with
 |[.int _ n]=>n
 |_=>0
def rowI (r:List C):InsD:=match r with
 |[.int _ op,.int _ to,.sl _ _ a,.int _ n]=>⟨op,to,intB a,n⟩
 |_=>⟨0,0,[],0⟩
def Blk.d (b:Blk):BlkD:=⟨[],b.j7.map rowI,b.jump,b.on,b.next⟩
def LS.d (s:LS):Lw:=⟨s.cu,s.blocks.map Blk.d,s.at_⟩
end Go.AE.Y
namespace Go.AE.Y
open Go.Proofs.Tryz
def Qki:=dY 0xd8783e001
def Qkk:=dY 0x104322f013c122 E3
def Q3y:=dZ 0x2315101142f78361805800e40 .skip Qkk
def Q30:=dZ 0x19090001316157171332f079f03613330c310142 Q3y Qki TQ
def Q0x:=dZ 0x9000bb0002316010440b11 Q30
def Q32:=dZ 0x1909500400231500f0057008312 Q0x [] TP
def Q33:=dZ 0x93003034f00511 Q32
def Qaaz:=dZ 0x9002034f00411 Q33
theorem Q9s:mFn prog VA 2 22 Qaaz Ab=true:=ZW
structure IS where
 fns:List Fn
 pfl:Bool
 params:Int
 cu:Int
 bc:C
 lb:List (Nat×Obj)
 blocks:List Blk
 at_:Nat
def IS.o (s:IS):Obj:=.st [.sl s.pfl 3 (Qo s.fns),.int .i64 s.params,.int .i64 s.cu,s.bc,.int .i64 s.at_]
structure IS.ok (s:IS)(N:Nat):Prop where
 r0:0≤s.cu
 r1:s.cu≤N
 b1:s.blocks.length≤N
 i1:∀b∈s.blocks,b.j7.length≤N
theorem IS.ok.mono {s:IS}{N M:Nat}(h:s.ok N)(hm:N≤M):s.ok M:=
 ⟨h.r0,by have:=h.r1;omega,by have:=h.b1;omega,fun b hb=>by have:=h.i1 b hb;omega⟩
def IS.d (s:IS):Lw:=⟨s.cu,s.blocks.map Blk.d,s.at_⟩
end Go.AE.Y
namespace Go.AE.Y
attribute [local go_sem] cond_true cond_false Bool.not_true Bool.not_false
open Go.Proofs.Tryz
variable {F H H':Heap}{w:Nat}{s:IS}{K:V→Heap→Prop}{M Lg:List (Nat×Obj)}
abbrev vI (n:Nat):Int:=n
theorem BA (l:List Nat):(scC l).ah=false:=by cases l <;> rfl
end Go.AE.Y
namespace Go.AE.Y
mutual
theorem Ex.form_ok:∀(x:Ex) (d:Int),x.form d=true→x.ok
 |.mk op n name kids,d,h=>by
  rw[Ex.form,Jk,Jk]at h;obtain⟨⟨_,hh⟩,hk⟩:=h;simp only[Ez,Jk,decide_eq_true_eq]at hh;have h2:=hh.1.1.1.1.2;rw[Ex.ok];refine⟨fun bP=>?_,My kids _ hk⟩;subst bP;simp only[AX,AS]at h2;omega
theorem My:∀(l:List Ex) (d:Int),Az l d=true→A5 l
 |[],_,_=>by simp[A5]
 |x::r,d,h=>by
  rw[Az,Jk]at h;rw[A5];exact⟨Ex.form_ok x d h.1,My r d h.2⟩
end
theorem Qa2a {l:List Ex}(h:∀a∈l,a.valid=true):A5 l:=by
 induction l with
 |nil=>simp[A5]
 |cons x r ih=>
  have h1:=h x ZV;rw[Ex.valid,Jk]at h1;rw[A5];exact⟨Ex.form_ok x _ h1.1,ih fun a ha=>h a (by simp[ha])⟩
theorem Qat0 {l:List Ex}(h:∀a∈l,a.valid=true):Qw l≤l.length * 30:=by
 induction l with
 |nil=>simp[Qw]
 |cons x r ih=>
  have h1:=h x ZV;rw[Ex.valid,Jk,decide_eq_true_eq]at h1;have h2:=ih fun a ha=>h a (by simp[ha]);simp only[Qw,Jf];omega
theorem Qbo1 (op:Int):AO op≤2:=by rw[AO];split <;> omega
mutual
theorem St.form_size:∀(x:St) (d:Int),x.form d=true→x.size≤100 * x.cnt∧x.ok
 |.mk op name args body els,d,h=>by
  rw[St.form_eq]at h;simp only[St.op,St.name,St.args,St.body,St.els,Jk]at h;obtain⟨⟨⟨_,hh⟩,hb⟩,he⟩:=h;simp only[BF,Jk,decide_eq_true_eq,J6]at hh;have hv:∀a∈args,a.valid=true:=hh.1.1.1.2;have hl:args.length=AO op:=hh.1.1.1.1.1.1.2;have h0:0<AO op:=by rw[AO];split <;> omega
  have h2:=Qbo1 op;have h3:=Qat0 hv;obtain⟨b1,b2⟩:=Sp body _ hb;obtain⟨e1,e2⟩:=Sp els _ he;have hs:=(St.mk op name args body els).size_eq;simp only[St.args,St.body,St.els]at hs;refine⟨?_,?_⟩
  ·rw[hs,St.cnt];omega
  ·rw[St.ok_eq];simp only[St.args,St.body,St.els];refine⟨ZT,?_,b2,e2⟩;exact Qa2a hv
theorem Sp:∀(l:List St) (d:Int),Qx l d=true→Qj l≤100 * As l∧A2 l
 |[],_,_=>by simp[Qj,As,A2]
 |x::r,d,h=>by
  rw[Qx,Jk]at h;obtain⟨a1,a2⟩:=St.form_size x d h.1;obtain⟨r1,r2⟩:=Sp r d h.2;rw[Qj,As,A2];exact⟨ZT,a2,r2⟩
end
theorem FineP.sizes {fns:List Fn}(h:FineP fns):∀k (hk:k<fns.length),Qj fns[k].body≤4000∧A2 fns[k].body∧fns[k].params.length≤3:=by
 intro k hk;obtain⟨_,_,_,_,_,h6,h7⟩:=h.fn hk;obtain⟨a1,a2⟩:=Sp _ _ h7;have hv:=h.v;simp only[AW,Jk,decide_eq_true_eq]at hv;have hc:As fns[k].body≤A7 fns:=by
  have h1:=Q9c hk;have h2:A7 (fns.take (k+1))≤A7 fns:=by
   conv=>rhs;rw[←Jam (k+1) fns,KR]
   omega
  omega
 exact⟨ZT,a2,h6⟩
open Go.Proofs.Tryz
variable {H:Heap}{K:V→Heap→Prop}
theorem Qblg {n:Int}(hK:K (.c (.bool (decide (0≤n)&&decide (n≤255)))) H):Qm prog TA [.c (.int .i64 n)] H K:=by
 refine Qc Aa NP ?_;refine Za ?_;refine Za ?_;refine Pr ?_;simp only[go_sem,TU];refine Zs ?_;exact hK
end Go.AE.Y
namespace Go.AE
variable {H0 H:Heap}{E B Lg:List (Nat×Obj)}{sz:Nat}{rows:List (List C)}{c:C}
def Gt (Lg:List (Nat×Obj))(sz:Nat)(rows:List (List C))(c:C):Prop:=(c=.sl true sz rows∧Lg=[])∨Gr Lg sz rows c
theorem Gt.ah (h:Gt Lg sz rows c):c.ah=false:=by
 rcases h with ⟨rfl,_⟩|h
 ·rfl
 ·exact h.ah
theorem Gt.frz (h:Gt Lg sz rows c)(kn:Kn H0 H E (B++Lg))(hr:∀r∈rows,ai r=true):FrzC H (un H0) c (.sl false sz rows):=by
 rcases h with ⟨rfl,_⟩|h
 ·exact (Y.FrzR.same hr).sl
 ·exact h.frz kn hr
theorem Kn.growT {K:V→Heap→Prop}{new:List (List C)}{b:C}(kn:Kn H0 H E (B++Lg))(hc:Gt Lg sz rows c)(hb:Slc H sz new b)(hn:new≠[])
  (h0:∀r∈rows,ai r=true) (h1:∀r∈new,ai r=true) (h2:rows.length+new.length≤LIM)
  (h:∀t Lg' H',Gr Lg' sz (rows++new) t→t.ah=false→Kn H0 H' E (B++Lg')→K (.c t) H'):appQ H sz c b K:=by
 rcases hc with ⟨rfl,rfl⟩|hc
 ·refine⟨hb.ok,hb.sz,rfl,.inr (by rw[hb.rows];exact hn),?_,by rw[hb.len];exact h2,fun l hl H' dg=>?_⟩
  ·rw[hb.rows];intro r hr;rcases Jd.1 hr with hr|hr
   ·exact h0 r hr
   ·exact h1 r hr
  ·rw[J4]at kn;rw[hb.len];refine h _ [(l,.vec sz (rows++new))] H' (.mk l sz _ ZV) rfl ?_;have:=kn.al hl dg
   rwa [hb.rows]at this
 ·exact kn.aQ hc hb h1 h2 h
theorem Kn.addNewE {H1:Heap}{L N:List (Nat×Obj)}(kn:Kn H0 H E L)(i:Nat){l:Nat}{o o':Obj}(h:E[i]? = some (l,o))(k2:Kn H H1 [(l,o')] N):Kn H0 H1 (E.set i (l,o')) (L++N):=by
 have aP:∀p∈E++L,H p.1≠.none:=fun p hp=>by obtain⟨a,b⟩:=kn.get p hp;rw[a];exact b
 have hl:H1 l=o'∧o'≠.none:=k2.get (l,o') ZV;have hu:Upd H H1 [(l,o')]:=⟨fun p hp=>by simp at hp;subst hp;exact hl.1,fun m hm hx=>k2.chg m hm hx⟩;have k3:=kn.ak i h hu hl.2;refine⟨fun p hp=>?_,k3.ext,fun p hp=>?_,k3.dE,?_,k3.chg⟩
 ·rw[←Jh]at hp;rcases Jd.1 hp with hp|hp
  ·exact k3.get p hp
  ·exact k2.get p (Ja _ hp)
 ·rcases Jd.1 hp with hp|hp
  ·exact kn.loc p hp
  ·exact (kn.newFree (k2.loc p hp)).1
 ·rw[Ji];refine J5.2 ⟨kn.dL,k2.dL,fun a ha b hb cK=>?_⟩;obtain⟨p,hp,rfl⟩:=J1.1 ha;obtain⟨q,hq,rfl⟩:=J1.1 hb;exact aP p (Ja _ hp) (by rw[cK];exact k2.loc q hq)
end Go.AE
namespace Go.AE.Y
open Go.Proofs.Tryz
def Ex.ct (x:Ex):List C:=[.int .i64 x.op,.int .i64 x.n,.str x.name,.sl true 4 (Ql x.kids)]
theorem Ex.frzT {H:Heap}{S:Nat→Bool}(x:Ex):FrzV H S (.ag [.int .i64 x.op,.int .i64 x.n,.str x.name,.sl true 4 (Ql x.kids)]) (.ag x.ct):=
 (FrzL.cons (.same _ rfl) (.cons (.same _ rfl) (.cons (.same _ rfl) (.cons (.same _ rfl) .nil)))).ag
theorem Qbgg {R:Rdr}{k:Nat}{fl:Bool}{ss:List (List UInt8)}{H:Heap}{K:V→Heap→Prop}(hH:H R.l=R.o k)(hk:k+2≤2^40)
  (hK:∀(x:Ex) (H':Heap) (k':Nat),k<k'→k'≤k+2→Upd H H' [(R.l,R.o k')]→x.ok→x.size=1→K (.ag x.ct) H') :
  Qm prog FN [.c (.ptr R.l 0),.c (.sl fl 1 (Q5 ss))] H K:=by
 refine Q1 ?_;refine Qc Aa P5 ?_;refine Za ?_;intro x hx H1 h1;have kn:=(Kn.start1 hH (R.am k)).al hx h1;refine Qz (Qa ?_);simp only[go_sem,Qt];intro hl;have rest:∀(b:Bool) (H2:Heap) (k2:Nat),k≤k2→k2≤k+1→Kn H H2 [(R.l,R.o k2)] [(x,.st [.int .i64 0,.int .i64 0,.str [],.sl true 4 []])]→(b=false→0<ss.length)→
   Q6 prog (s_l2Leaf_2.seq Gb) (Qq Bm (unK H K)) [(0,V.c (C.ptr R.l 0)),(1,V.c (C.sl fl 1 (Q5 ss))),(4,V.c (C.ptr x 0)),(12,V.c (.bool b))] H2:=by
  intro b H2 k2 eN fw kn hb;refine Qf (Qb rfl ?_ ?_)
  ·intro br;refine Za ?_;refine Bj (ns:=[0,1,2,3,5,7,15,16,100,255]) (kn.e 0 rfl) ZT ZV fun v H3 hv hu=>?_;have kn:=kn.ak 0 rfl hu (R.am _);have bQ:=kn.l 0 rfl;simp only[go_sem,Q41,bQ];intro H4 h4;have kn:=kn.ax 0 rfl h4;have bW:=kn.l 0 rfl;refine Zz bW ?_;refine⟨_,(Ex.mk 1 v [] []).frzT,hK _ _ (k2+1) ZT ZT kn.fin ?_ ?_⟩
   ·simp[Ex.ok,A5]
   ·simp[Ex.size,Qw]
  ·intro br;refine Ze ?_;refine Za ?_;refine of_c (kn.e 0 rfl) ZT (hb br) fun v H3 hv hu=>?_;have kn:=kn.ak 0 rfl hu (R.am _);have bQ:=kn.l 0 rfl;simp only[go_sem,Q42,bQ];intro H4 h4;have kn:=kn.ax 0 rfl h4;have bW:=kn.l 0 rfl;refine Zz bW ?_;refine⟨_,(Ex.mk 2 0 v []).frzT,hK _ _ (k2+1) ZT ZT kn.fin ?_ ?_⟩
   ·simp[Ex.ok,A5]
   ·simp[Ex.size,Qw]
 refine⟨fun hb=>?_,fun hb=>?_⟩
 ·refine A0 (kn.e 0 rfl) ZT fun v H2 hv hu=>?_;have kn:=kn.ak 0 rfl hu (R.am _);simp only[go_sem,HF];refine rest _ H2 (k+1) ZT ZT kn ?_;intro h;have:¬ss.length=0:=Zas
  omega
 ·have bM:decide ((ss.length:Int)=0)=true:=Zas
  simp only[go_sem,HF,bM];exact rest true H1 k ZT ZT kn (fun h=>Zaa)
theorem Qbgd {R : Rdr} {fl : Bool} {ss : List (List UInt8)} (d : Nat) {k : Nat} {H : Heap} {K : V → Heap → Prop} (deep : Int) (hd : deep ≤ d) (hH : H R.l = R.o k) (hk : k + 6 * 2^d ≤ 2^40)
    (hK : ∀ (x : Ex) (H' : Heap) (k' : Nat), k < k' → k' + 3 ≤ k + 6 * 2^d → Upd H H' [(R.l, R.o k')] → x.ok → k + x.size ≤ k' → K (.ag x.ct) H') :
    Qm prog CI [.c (.ptr R.l 0), .c (.sl fl 1 (Q5 ss)), .c (.int .i64 deep)] H K := by
  have sX : 1 ≤ 2^d := J9;have mH : d < 2^d := Jap;refine Q1 ?_;refine Qc Aa P8 ?_;refine Qa ?_;simp only [go_sem];intro x hx H1 h1;have kn := (Kn.start1 hH (R.am k)).al hx h1;refine Qz (Qa ?_);simp only [go_sem];have rest : ∀ (b : Bool) (H2 : Heap) (k2 : Nat), k ≤ k2 → k2 ≤ k + 1 → Kn H H2 [(R.l, R.o k2)] [(x, .st [.int .i64 0, .int .i64 0, .str [], .sl true 4 []])] → (b = false → 2 ≤ deep) →
      Q6 prog (s_l2Expr_2.seq Q4o) (Qq EH (unK H K))
       [(0, V.c (C.ptr R.l 0)), (1, V.c (C.sl fl 1 (Q5 ss))), (2, .c (.int .i64 deep)), (6, V.c (C.ptr x 0)), (14, V.c (.bool b))] H2 := by
    intro b H2 k2 eN fw kn hb;have fin : ∀ (op n : Int) (name : List UInt8) (kids : List Ex) (H3 : Heap) (k3 : Nat) (o : Obj), k < k3 → k3 + 3 ≤ k + 6 * 2^d → Kn H H3 [(R.l, R.o k3)] [(x, .st [.int .i64 op, .int .i64 n, .str name, .sl true 4 (Ql kids)])] →
        (op = 10 → kids.length = 2) → A5 kids → k + 1 + Qw kids ≤ k3 →
        Q0 EH [(6, V.c (C.ptr x 0))] H3 (unK H K) := by
      intro op n name kids H3 k3 o g1 g2 kn g3 g4 g5;have bQ := kn.l 0 rfl;simp only [go_sem, Q0, EH, Jb, forall_eq, RS.op, bQ];refine ⟨_, (Ex.mk op n name kids).frzT, hK _ _ k3 g1 g2 kn.fin ?_ ?_⟩
      · simp only [Ex.ok]; exact ⟨g3, g4⟩
      · simp only [Ex.size]; omega
    refine Qf (Qb rfl ?_ ?_)
    · intro br;refine Qa ?_;simp only [go_sem];refine Qbgg (kn.e 0 rfl) ZT fun y H3 k3 g1 g2 hu bf aO => ?_;have kn := kn.ak 0 rfl hu (R.am _);have bQ := kn.l 0 rfl;simp only [go_sem, Q4p, bQ, Ex.ct];intro H4 h4;have kn := kn.ax 0 rfl h4;refine Qi ?_;simp only [go_sem, Qq];refine fin _ _ _ _ _ k3 .none ZT ZT kn (Ex.ok_and bf) (Ex.ok_kids bf) ?_;have := y.size_kids; omega
    · intro br;have fX := hb br;have hp : 2^d = 2 * 2^(d-1) := (by rw [← Ja2]; congr 1; omega);have lC : 1 ≤ 2^(d-1) := J9;have ihd := fun {k H K} => @RI R fl ss (d-1) k H K;generalize 2^(d-1) = e at *;refine Qd ?_;simp only [go_sem];refine Qz (Qa ?_);simp only [go_sem];refine A0 (kn.e 0 rfl) ZT fun v H3 hv hu => ?_;have kn := kn.ak 0 rfl hu (R.am _);simp only [go_sem, Q4q];refine Qf (Qb rfl ?_ ?_)
      · intro hc;refine Qa ?_;simp only [go_sem];refine Bj (ns := [11, 12, 11]) (kn.e 0 rfl) ZT ZV fun op H4 b7 hu => ?_;have kn := kn.ak 0 rfl hu (R.am _);simp only [go_sem, Q4s];refine ⟨Qv, ?_⟩;refine ihd (deep - 1) ZT (kn.e 0 rfl) ZT fun y H5 k5 g1 g2 hu bf aO => ?_;have kn := kn.ak 0 rfl hu (R.am _);have cp := kn.l 0 rfl;simp only [go_sem, Q4r, cp, y.ae];intro H6 h6;have kn := kn.ax 0 rfl h6;refine Qi ?_;simp only [go_sem, Qq];refine fin op 0 [] [y] _ k5 .none ZT ZT kn (fun h => ?_) ⟨bf, trivial⟩ ?_
        · subst h; simp at b7
        · simp only [Qw]; omega
      · intro hc;refine Qd ?_;simp only [go_sem];refine Qa ?_;simp only [go_sem];refine Bj (ns := [3, 3, 4, 5, 6, 7, 8, 9, 10]) (kn.e 0 rfl) ZT ZV fun op H4 b7 hu => ?_;have kn := kn.ak 0 rfl hu (R.am _);simp only [go_sem, Q4t];refine Qa ?_;simp only [go_sem];refine ⟨Qv, ?_⟩;refine ihd (deep - 1) ZT (kn.e 0 rfl) ZT fun y H5 k5 g1 g2 hu bf aO => ?_;have kn := kn.ak 0 rfl hu (R.am _);simp only [go_sem, Q4v];refine ⟨Qv, ?_⟩;refine ihd (deep - 1) ZT (kn.e 0 rfl) ZT fun z H6 k6 g3 g4 hu ej gR => ?_;have kn := kn.ak 0 rfl hu (R.am _);have cp := kn.l 0 rfl;simp only [go_sem, Q4u, cp, y.ae, z.ae];intro H7 h7;have kn := kn.ax 0 rfl h7;refine Qi ?_;simp only [go_sem, Qq];refine fin op 0 [] [y, z] _ k6 .none ZT ZT kn (fun h => rfl) ⟨bf, ej, trivial⟩ ?_;simp only [Qw]; omega
  refine ⟨fun hb => ?_, fun hb => ?_⟩
  · refine A0 (kn.e 0 rfl) ZT fun v H2 hv hu => ?_;have kn := kn.ak 0 rfl hu (R.am _);simp only [go_sem, HI];refine rest _ H2 (k + 1) ZT ZT kn ?_;intro h;have : ¬ deep < 2 := Zas;omega
  · have bM : decide (deep < 2) = true := Zas;simp only [go_sem, HI, bM];exact rest true H1 k ZT ZT kn (fun h => by simp at h)
attribute [local go_sem] cond_true cond_false Bool.not_true Bool.not_false
variable {H H0 F:Heap}{K:V→Heap→Prop}{E B Lg:List (Nat×Obj)}
theorem Fy {R:Rdr}{k:Nat}{deep:Int}(hd:deep≤7)(hH:H R.l=R.o k)(hk:k+2000≤2^38)
  (hK:∀(x:Ex) (t:C) (Lk:List (Nat×Obj)) (H':Heap) (k':Nat),k<k'→k'≤k+1000→Gt Lk 4 (Ql x.kids) t→Kn H H' [(R.l,R.o k')] Lk→x.size≤2000→K (.ag [.int .i64 x.op,.int .i64 x.n,.str x.name,t]) H') :
  Qm prog FB [.c (.ptr R.l 0),.c (.int .i64 deep)] H K:=by
 refine Qc Aa Qbqn ?_;refine Za ?_;intro x4 bW H1 h1;have kn:=(Kn.start1 hH (R.am k)).al bW h1;refine Za ?_;refine Qbgd (ss:=[[97],[98],[120],[103,111]]) 7 deep ZT (kn.e 0 rfl) ZT fun x H2 k2 g1 g2 hu bf aO=>?_;have kn:=kn.ak 0 rfl hu (R.am _);have pJ:=aO;simp only[go_sem,Mh,Ex.ct];intro x5 cp H3 h3;have kn:=kn.al cp h3;have g5:=kn.l 1 rfl;simp only[go_sem,LA,g5];intro H4 h4;have kn:=kn.ax 1 rfl h4;refine Qz (Qa ?_);simp only[go_sem];refine A0 (kn.e 0 rfl) ZT fun v H5 hv hu=>?_;have kn:=kn.ak 0 rfl hu (R.am _);have g5:=kn.l 1 rfl;have g4:=kn.l 0 rfl;simp only[go_sem,Mg];refine Qf (Qb rfl ?_ ?_)
 ·intro hc;refine Zi g5 g4 ?_;intro H6 h6;have kn:=kn.ax 0 rfl h6;have g4:=kn.l 0 rfl;refine ZD g4 ?_;exact hK x _ [] _ (k2+1) ZT ZT (.inl ⟨rfl,rfl⟩) (Kn.drop (A:=[]) kn) ZT
 intro hc;refine Zc ?_
 refine Za ?_;refine of_c (ss:=[[102],[103],[97]]) (kn.e 0 rfl) ZT ZV fun nm H6 kg hu=>?_;have kn:=kn.ak 0 rfl hu (R.am _);simp only[go_sem,Me];intro x6 cB H7 h7;have kn:=kn.al cB h7;have g6:=kn.l 2 rfl;simp only[go_sem,Mf,g6];intro H8 h8;have kn:=kn.ax 2 rfl h8;refine Qz (Qa ?_);simp only[go_sem];refine A0 (kn.e 0 rfl) ZT fun cnt H9 gC hu=>?_;have kn:=kn.ak 0 rfl hu (R.am _);rw[if_neg ZT]at gC;obtain⟨cj,rfl⟩:=Jw gC.1;simp only[go_sem,LZ];refine Qf (Qg (Q3 (fun m e1 H1=>∃(j:Nat) (ks:List Ex) (Lk:List (Nat×Obj)) (t:C) (k3:Nat),m=j∧ks.length+j≤3∧k2+3≤k3∧k3+30 * j≤k2+103∧Gr Lk 4 (Ql ks) t∧Qw ks≤ks.length * 100∧
   Kn H H1 [(R.l,R.o k3)] ([(x4,exO 0 0 [] (.sl true 4 [])),(x5,exO x.op x.n x.name (.sl true 4 (Ql x.kids))),(x6,exO 13 0 nm t)]++Lk)∧
   e1=[(0,.c (.ptr R.l 0)),(4,.c (.ptr x4 0)),(5,.c (.ptr x5 0)),(6,.c (.ptr x6 0)),(7,.c (.int .i64 j))]) cj ?_ ?_))
 ·exact⟨cj,[],[],.sl true 4 [],k2+3,ZT,by simp;omega,ZT,ZT,.nil 4,Zcf,kn,rfl⟩
 ·clear kn g6 g5 g4 h8 h7;rintro m e1 H10 ⟨j,ks,Lk,t,k3,hm,hj,hk3,rJ,jq,nG,kn,rfl⟩;have aq:=jq.ah;have g6:=kn.l 2 rfl;refine Qz (Qa ?_);simp only[go_sem];refine Qf (Qb rfl ?_ ?_)
  ·intro au;have jT:0<j:=ZZ
   refine Zc ?_
   refine Qf (Qg ?_);refine Bf ?_;simp only[go_sem,g6,aq];refine RI (ss:=[[97],[98]]) 2 2 ZT (kn.e 0 rfl) ZT fun y H11 k4 g1 g2 hu ej gR=>?_;have kn:=kn.ak 0 rfl hu (R.am _);have g6:=kn.l 2 rfl;simp only[go_sem,LX,g6,aq,y.ae];refine Kn.aQ (B:=[_,_,_]) kn jq (new:=[y.cells]) (.mk' _ true 4 _) Zbv (by simp only[Qh,Jf,Jg,LIM];omega) fun t' Lk' H12 pf aR kn=>?_;rw[Dm]at pf;have g6:=kn.l 2 rfl;simp only[go_sem,LY,g6,aR];intro H13 cy;have kn:=kn.ax 2 rfl cy;try simp only[go_sem,AE.X.next]
   refine Qr ?_;try simp only[go_sem,AE.X.next]
   refine⟨Qv,j-1,ZT,j-1,ks++[y],Lk',t',k4,rfl,by simp;omega,ZT,ZT,pf,?_,kn,?_⟩
   ·rw[HJ];simp only[Qw,Jaf,Jf,Jg];omega
   ·have:((j:Int)-1)=((j-1:Nat):Int):=ZT;rw[this]
  ·intro au;have g4:=kn.l 0 rfl;have g5:=kn.l 1 rfl;refine Zg ?_;refine Qz (Qa ?_);simp only[go_sem];refine A0 (kn.e 0 rfl) ZT fun v3 H11 nQ hu=>?_;have kn:=kn.ak 0 rfl hu (R.am _);have g4:=kn.l 0 rfl;have g5:=kn.l 1 rfl;have g6:=kn.l 2 rfl;simp only[go_sem,NF];refine Qf (Qb rfl ?_ ?_)
   ·intro bT;refine Zr g6 g4 aq ?_;intro H12 dr;have kn:Kn H H12 [(R.l,R.o (k3+1))] ([(x4,exO 13 0 nm t),(x5,exO x.op x.n x.name (.sl true 4 (Ql x.kids))),(x6,exO 13 0 nm t)]++Lk):=kn.ax 0 rfl dr;have g4:=kn.l 0 rfl;refine Qi ?_;simp only[go_sem,AE.X.next,Qq,Q0,Jb,forall_eq,RS.op,g4,aq];refine hK (.mk 13 0 nm ks) t Lk _ (k3+1) ZT ZT (.inr jq) (kn.sub (List.sublist_append_right _ _)) ?_;simp only[Ex.size];omega
   ·intro bT;refine Zc ?_
    have f1:FrzC H11 (fun m=>(Lk.map Prod.fst).contains m) t (.sl false 4 (Ql ks)):=Gr.frzm jq (fun p hp=>⟨(kn.get p (Ja _ (Ja _ hp))).1,DR hp⟩) (FrzR.same (Bb _));have o5:=kn.frzS_out (p:=(x5,exO x.op x.n x.name (.sl true 4 (Ql x.kids)))) ZV;have o6:=kn.frzS_out (p:=(x6,exO 13 0 nm t)) ZV;have kz:=(kn.frzN.setL 1 (o':=exO x.op x.n x.name (.sl false 4 (Ql x.kids))) rfl ZaO).setL 2 (o':=exO 13 0 nm (.sl false 4 (Ql ks))) rfl ZaO;have fQ:=((E7 H11 (fun m=>(Lk.map Prod.fst).contains m)).set (o:=exO x.op x.n x.name (.sl false 4 (Ql x.kids))) o5 (by
     show FrzO H11 _ (H11 x5) _;rw[g5];exact FrzKL.st (.same (.same (.same (.cons rfl (FrzR.same (Bb _)).sl .nil))))) ).set (o:=exO 13 0 nm (.sl false 4 (Ql ks))) o6 (by
     show FrzO H11 _ (H11 x6) _;rw[g6];exact FrzKL.st (.same (.same (.same (.cons aq f1 .nil)))))
    refine c_gh (Hz _ (CS ?_) fQ) (e':=[(4,.c (.ptr x4 0)),(5,.c (.ptr x5 0)),(6,.c (.ptr x6 0))]) ?_
    ·intro p hp;simp only[Jm,Jaj,or_false]at hp;rcases hp with rfl|rfl|rfl <;> exact .c _ _ (.same _ rfl)
    have g4:=kz.l 0 rfl;have g5:=kz.l 1 rfl;have g6:=kz.l 2 rfl;refine Zr g4 g5 g6 ?_;intro H12 dr;have kz:=kz.ax 0 rfl dr;have g4:=kz.l 0 rfl;refine ZD g4 ?_;refine hK (.mk 3 0 [] [x,.mk 13 0 nm ks]) _ [] _ (k3+1) ZT ZT (.inl ⟨?_,rfl⟩) (Kn.drop (A:=[]) kz) ?_
    ·show C.sl true 4 _=C.sl true 4 (Ql [x,.mk 13 0 nm ks]);simp only[Ql,Ex.aa];rfl
    ·simp only[Ex.size,Qw];omega
theorem Qbqe {R:Rdr}{k:Nat}{deep:Int}(hd:deep≤7)(hH:H R.l=R.o k)(hk:k+2000≤2^38)
  (hK:∀(x:Ex) (H':Heap) (k':Nat),k<k'→k'≤k+1000→Upd H H' [(R.l,R.o k')]→x.size≤2000→K (.ag x.cells) H') :
  Qm prog FB [.c (.ptr R.l 0),.c (.int .i64 deep)] H K:=by
 refine Q1 (Fy hd hH hk fun x t Lk H' k' h1 h2 hg kn aO=>?_);have:=hK x (H'.frz (un H)) k' h1 h2 kn.fin aO;rw[x.aa]at this;exact⟨_,(FrzL.cons (Qe rfl) (.cons (Qe rfl) (.cons (Qe rfl) (.cons (hg.frz (B:=[]) kn (Bb _)) .nil)))).ag,this⟩
theorem Qblu {R:Rdr}{k:Nat}(hH:H R.l=R.o k)(hk:k+8000≤2^38)
  (hK:∀(x:Ex) (H':Heap) (k':Nat),k<k'→k'≤k+3000→Upd H H' [(R.l,R.o k')]→x.size≤4000→K (.ag x.cells) H') :
  Qm prog KO [.c (.ptr R.l 0)] H K:=by
 refine Q1 ?_;refine Qc Aa Qbl9 ?_;refine Za ?_;intro x2 bB H1 h1;have kn:=(Kn.start1 hH (R.am k)).al bB h1;refine Za ?_;refine Fy ZT (kn.e 0 rfl) ZT fun x t Lk H2 k2 g1 g2 hg k2n aO=>?_;have aq:=hg.ah;have kn:Kn H H2 [(R.l,R.o k2)] ([(x2,exO 0 0 [] (.sl true 4 []))]++Lk):=kn.addNewE 0 rfl k2n;simp only[go_sem,NC,aq];intro x3 bQ H3 h3;have kn:Kn H H3 [(R.l,R.o k2)] ([(x2,exO 0 0 [] (.sl true 4 [])),(x3,exO 0 0 [] (.sl true 4 []))]++Lk):=(kn.al bQ h3).perm (.cons _ (Jo (l₁:=Lk)));have g3:=kn.l 1 rfl;simp only[go_sem,ND,g3,aq];intro H4 h4;have kn:Kn H H4 [(R.l,R.o k2)] ([(x2,exO 0 0 [] (.sl true 4 [])),(x3,exO x.op x.n x.name t)]++Lk):=kn.ax 1 rfl h4;refine Qz (Qa ?_);simp only[go_sem];refine A0 (kn.e 0 rfl) ZT fun v H5 hv hu=>?_;have kn:Kn H H5 [(R.l,R.o (k2+1))] ([(x2,exO 0 0 [] (.sl true 4 [])),(x3,exO x.op x.n x.name t)]++Lk):=kn.ak 0 rfl hu (R.am _);simp only[go_sem];have fin:∀(y:Ex) (t:C) (Lk:List (Nat×Obj)) (H6:Heap) (e6:Env) (k6:Nat),Gt Lk 4 (Ql y.kids) t→y.size≤4000→k<k6→k6≤k+3000→Kn H H6 [(R.l,R.o k6)] ([(x2,exO 0 0 [] (.sl true 4 [])),(x3,exO y.op y.n y.name t)]++Lk)→lk 2 e6=.c (.ptr x2 0)→lk 3 e6=.c (.ptr x3 0)→
   Q6 prog NE (Qq Ag (unK H K)) e6 H6:=by
  intro y t Lk H6 e6 k6 hg aO a1 a2 kn f2 f3;have aq:=hg.ah;have g2:=kn.l 0 rfl;have g3:=kn.l 1 rfl;refine Zj f2 f3 g2 g3 aq ?_;intro H7 h7;have kn:=kn.ax 0 rfl h7;have g2:=kn.l 0 rfl;refine ZK g2 aq ?_;have:=hK y _ k6 a1 a2 kn.fin aO;rw[y.aa]at this;exact⟨_,(FrzL.cons (Qe rfl) (.cons (Qe rfl) (.cons (Qe rfl) (.cons (hg.frz (B:=[_,_]) kn (Bb _)) .nil)))).ag,this⟩
 have iy:=x.size_kids;refine Qf (Qg ?_);refine Za ?_;have g3:=kn.l 1 rfl;refine Qb rfl ?_ ?_
 ·intro hc;refine Zp ?_;refine Bj (ns:=[-1,256,3]) (kn.e 0 rfl) ZT ZV fun w H6 hw hu=>?_;have kn:=kn.ak 0 rfl hu (R.am _);have g3:=kn.l 1 rfl;simp only[go_sem,NB,g3,aq];intro H7 h7;have kn:=kn.ax 1 rfl h7;try simp only[go_sem,AE.X.next]
  exact fin (.mk x.op w x.name x.kids) t Lk _ _ (k2+1+1) hg Zbp ZT ZT kn rfl rfl
 intro hc;refine Za ?_;refine Qb rfl ?_ ?_
 ·intro hc;refine Zp ?_;refine of_c (ss:=[[],[100,111],[65],[97,98,99,100,101],[113]]) (kn.e 0 rfl) ZT ZV fun w H6 hw hu=>?_;have kn:=kn.ak 0 rfl hu (R.am _);have g3:=kn.l 1 rfl;simp only[go_sem,NA,g3,aq];intro H7 h7;have kn:=kn.ax 1 rfl h7;try simp only[go_sem,AE.X.next]
  exact fin (.mk x.op x.n w x.kids) t Lk _ _ (k2+1+1) hg Zbp ZT ZT kn rfl rfl
 intro hc;refine Za ?_;refine Qb rfl ?_ ?_
 ·intro hc;refine Zp ?_;refine Bj (ns:=[0,14,-1,5,11]) (kn.e 0 rfl) ZT ZV fun w H6 hw hu=>?_;have kn:=kn.ak 0 rfl hu (R.am _);have g3:=kn.l 1 rfl;simp only[go_sem,N9,g3,aq];intro H7 h7;have kn:=kn.ax 1 rfl h7;try simp only[go_sem,AE.X.next]
  exact fin (.mk w x.n x.name x.kids) t Lk _ _ (k2+1+1) hg Zbp ZT ZT kn rfl rfl
 intro hc;refine Za ?_;refine Qb rfl ?_ ?_
 ·intro hc;refine Bf ?_;simp only[go_sem,g3,aq];refine PH (ss:=[]) (kn.e 0 rfl) ZT fun y H6 k6 b1 b2 hu bf hys=>?_;have kn:=kn.ak 0 rfl hu (R.am _);have g3:=kn.l 1 rfl;have bq:=Qa2b x.kids;simp only[go_sem,N7,g3,aq,y.ae];refine Kn.growT (B:=[_,_]) kn hg (new:=[y.cells]) (.mk' _ true 4 _) ZV (Bb _) Zbv (by simp only[Qh,Jf,Jg,LIM];omega) fun t' Lk' H7 eP aR kn=>?_;rw[Dm]at eP;have g3:=kn.l 1 rfl;simp only[go_sem,N8,g3,aR];intro H8 h8;have kn:=kn.ax 1 rfl h8;try simp only[go_sem,AE.X.next]
  exact fin (.mk x.op x.n x.name (x.kids++[y])) t' Lk' _ _ k6 (.inr eP) (by simp only[Ex.size,HJ,Qw];omega) ZT ZT kn rfl rfl
 intro hc;refine Za ?_;refine Qb rfl ?_ ?_
 ·intro hc;refine Zp ?_;have kn:=Kn.drop (A:=[(x2,exO 0 0 [] (.sl true 4 [])),(x3,exO x.op x.n x.name t)]) kn;refine Fy ZT (kn.e 0 rfl) ZT fun y t2 Lk2 H6 k6 b1 b2 fV k2n gR=>?_;have aW:=fV.ah;have kn:Kn H H6 [(R.l,R.o k6)] ([(x2,exO 0 0 [] (.sl true 4 [])),(x3,exO x.op x.n x.name t)]++Lk2):=kn.addNewE 0 rfl k2n;have g3:=kn.l 1 rfl;simp only[go_sem,N6,g3,aq,aW];intro H7 h7;have kn:Kn H H7 [(R.l,R.o k6)] ([(x2,exO 0 0 [] (.sl true 4 [])),(x3,exO y.op y.n y.name t2)]++Lk2):=kn.ax 1 rfl h7;try simp only[go_sem,AE.X.next]
  exact fin y t2 Lk2 _ _ k6 fV ZT ZT ZT kn rfl rfl
 ·intro hc;refine Zf ?_
  exact fin x t Lk _ _ (k2+1) hg ZT ZT ZT kn rfl rfl
end Go.AE.Y
namespace Go.AE
variable {H0 H:Heap}{E B Lg:List (Nat×Obj)}{sz:Nat}{rows rows':List (List C)}{c c':C}{S:Nat→Bool}
def Fz (Lg:List (Nat×Obj))(c c':C):Prop:=c.ah=false∧∀(H:Heap) (S:Nat→Bool),(∀p∈Lg,H p.1=p.2∧S p.1=true)→FrzC H S c c'
theorem Fz.same (h:c.ah=false):Fz [] c c:=⟨h,fun H S _=>.same _ h⟩
def PR (rows rows':List (List C)):Prop:=(∀r∈rows,ai r=true)∧∀(H:Heap) (S:Nat→Bool),Y.FrzR H S rows rows'
theorem PR.app {a b a' b':List (List C)}(h:PR a a')(k:PR b b'):PR (a++b) (a'++b'):=⟨Y.noOw_app h.1 k.1,fun H S=>(h.2 H S).app (k.2 H S)⟩
theorem PR.len (h:PR rows rows'):rows.length=rows'.length:=((h.2 (fun _=>.none) fun _=>false).spec.1).symm
theorem PR.fz (h:PR rows rows')(hg:Gr Lg sz rows c):Fz Lg c (.sl false sz rows'):=⟨hg.ah,fun H S hm=>Gr.frzm hg hm (h.2 H S)⟩
theorem PR.sl (h:PR rows rows')(fl:Bool):Fz [] (.sl fl sz rows) (.sl false sz rows'):=⟨rfl,fun H S _=>(h.2 H S).sl⟩
theorem Ra {r r':List C}:∀{rows rows':List (List C)} (i:Nat),Y.FrzR H S rows rows'→FrzL H S r r'→Y.FrzR H S (rows.set i r) (rows'.set i r')
 |_,_,_,.nil,_=>.nil
 |_,_,0,.cons h t,k=>.cons k t
 |_,_,i+1,.cons h t,k=>.cons h (Ra i t k)
end Go.AE
namespace Go.AE.Y
attribute [local go_sem] cond_true cond_false Bool.not_true Bool.not_false
open Go.Proofs.Tryz
variable {H H0 F:Heap}{K:V→Heap→Prop}{E B Lg:List (Nat×Obj)}
theorem PR.sts (l:List St):PR (Qk l) (Qk l):=⟨AQ l,fun H S=>FrzR.same (AQ l)⟩
theorem Sv:∀(l:List Fn) (i:Nat) (f:Fn),Qn (l.set i f)≤Qn l+Qj f.body
 |[],i,f=>by simp[Qn]
 |x::r,0,f=>by simp only[Jas,Qn];omega
 |x::r,i+1,f=>by have:=Sv r i f;simp only[Jar,Qn];omega
theorem Ff {op:Int}{nm:List UInt8}{a:C}{ars:List Ex}(ha:a.ah=false)(hf:∀(H:Heap) (S:Nat→Bool),FrzC H S a (.sl false 4 (Ql ars))) :
  PR [[.int .i64 op,.str nm,a,.sl true 5 [],.sl true 5 []]] (Qk [.mk op nm ars [] []]):=by
 refine⟨fun r hr=>by simp only[Jb]at hr;subst hr;simp only[ai,Jz,J3,Dg,CH,Df,ha];rfl,fun H S=>?_⟩;simp only[Qk,St.aa,St.op,St.name,St.args,St.body,St.els];exact .cons (.cons (Qe rfl) (.cons (Qe rfl) (.cons (hf H S) (.cons FrzR.nil.sl (.cons FrzR.nil.sl .nil))))) .nil
abbrev a0C:C:=.sl true 4 [[.int .i64 1,.int .i64 0,.str [],.sl true 4 []]]
theorem Gq (n:Int)(H:Heap)(S:Nat→Bool):FrzC H S (.sl true 4 [[.int .i64 1,.int .i64 n,.str [],.sl true 4 []]]) (.sl false 4 (Ql [.mk 1 n [] []])):=by
 simp only[Ql,Ex.aa,Ex.op,Ex.n,Ex.name,Ex.kids];exact (FrzR.cons (.cons (Qe rfl) (.cons (Qe rfl) (.cons (Qe rfl) (.cons FrzR.nil.sl .nil)))) .nil).sl
def PS (l:List Fn):Prop:=Qn l≤2^36∧∀f∈l,f.params.length≤9
theorem Qbgi {R:Rdr}{k:Nat}(hH:H R.l=R.o k)(hk:k+7100000≤2^30)
  (hK:∀(l:List Fn) (H':Heap) (k':Nat),k<k'→k'≤k+7010000→Upd H H' [(R.l,R.o k')]→PS l→K (.ag [.sl false 3 (Qo l)]) H') :
  Qm prog KM [.c (.ptr R.l 0)] H K:=by
 refine Q1 ?_;refine Qc Aa Qbmc ?_;refine Za ?_;intro x2 bB H1 h1;have kn:=(Kn.start1 hH (R.am k)).al bB h1;refine Za ?_;refine Fx (kn.e 0 rfl) ZT fun l H2 k2 g1 g2 hu cN=>?_;have kn:=kn.ak 0 rfl hu (R.am _);have kT:=cN.pos;have tq:=cN.len;have aO:=cN.size;have e1:(l.length:Int)-1=((l.length-1:Nat):Int):=ZT
 have iX:l.length-1<l.length:=ZT
 obtain⟨f,da⟩:∃f,l[l.length-1]=f:=⟨_,rfl⟩;have gv:f∈l:=by rw[←da];exact Jj iX
 have gu:=Cm gv;have fW:=BM f.body;have tA:=cN.par f gv;simp only[go_sem,N0];intro x3 bQ H3 h3;have kn:=kn.al bQ h3;have g3:=kn.l 1 rfl;simp only[go_sem,N3,g3];intro H4 h4;have kn:=kn.ax 1 rfl h4;have g3:=kn.l 1 rfl;refine Qa ?_;simp only[go_sem,g3,e1,iX,Qu,AB _ _ iX,da,Fn.cells];try intro _
 refine⟨Qv,?_⟩;intro x4 bW H5 h5;have kn:=kn.al bW h5;have g4:=kn.l 2 rfl;simp only[go_sem,S6,g4];intro H6 h6;have kn:=kn.ax 2 rfl h6;refine Qz (Qa ?_);simp only[go_sem];refine A0 (kn.e 0 rfl) ZT fun v H7 hv hu=>?_;have kn:Kn H H7 [(R.l,R.o (k2+1))] ([(x2,.st [.sl true 3 []]),(x3,.st [.sl false 3 (Qo l)]),(x4,fnO f)]++[]):=kn.ak 0 rfl hu (R.am _);simp only[go_sem];have fin:∀(nm:List UInt8) (ps:List (List UInt8)) (body:List St) (pc bc:C) (Lp Lb:List (Nat×Obj)) (H8:Heap) (e8:Env) (k8:Nat),Fz Lp pc (.sl false 1 (Q5 ps))→Fz Lb bc (.sl false 5 (Qk body))→(Qj body≤Qj f.body+100000∧ps.length≤9)→k<k8→k8≤k+7010000→
   Kn H H8 [(R.l,R.o k8)] ([(x2,.st [.sl true 3 []]),(x3,.st [.sl false 3 (Qo l)]),(x4,.st [.str nm,pc,bc])]++(Lp++Lb))→lk 2 e8=.c (.ptr x2 0)→lk 3 e8=.c (.ptr x3 0)→lk 4 e8=.c (.ptr x4 0)→
   Q6 prog N4 (Qq Ak (unK H K)) e8 H8:=by
  intro nm ps body pc bc Lp Lb H8 e8 k8 hp hb ⟨lI,eH⟩ a1 a2 kn f2 f3 f4;have gg:=hp.1;have db:=hb.1;have g3:=kn.l 1 rfl;refine Qa ?_;simp only[go_sem,f2,f3,f4,g3,Qu,gg,db];refine⟨.inl trivial,CB _,by simp only[LIM];omega,fun z hz H9 h9=>?_⟩;have kn:Kn H H9 [(R.l,R.o k8)] ([(x2,.st [.sl true 3 []]),(x3,.st [.sl false 3 (Qo l)]),(x4,.st [.str nm,pc,bc]),(z,.vec 3 ([]++Qo l))]++(Lp++Lb)):=(kn.al hz h9).perm (.cons _ (.cons _ (.cons _ (Jo (l₁:=Lp++Lb)))));have gz:=kn.l 3 rfl;have g4:=kn.l 2 rfl;simp only[go_sem,OY,f2,f3,f4];refine Qa ?_;simp only[go_sem,gz,g4,e1,iX,gg,db,Qu,AB _ _ iX,da,Fn.cells,Ju,Jr];try intro _
  refine⟨Qv,?_⟩;intro H10 bP;have kn:Kn H H10 [(R.l,R.o k8)] ([(x2,.st [.sl true 3 []]),(x3,.st [.sl false 3 (Qo l)]),(x4,.st [.str nm,pc,bc]),(z,.vec 3 ((Qo l).set (l.length-1) [.str nm,pc,bc]))]++(Lp++Lb)):=kn.ax 3 rfl bP;have g2:=kn.l 0 rfl;have gz:=kn.l 3 rfl;refine Zd g2 ?_;intro H11 cM;have kn:Kn H H11 [(R.l,R.o k8)] ([(x2,.st [.aw z 3 0 l.length]),(x3,.st [.sl false 3 (Qo l)]),(x4,.st [.str nm,pc,bc]),(z,.vec 3 ((Qo l).set (l.length-1) [.str nm,pc,bc]))]++(Lp++Lb)):=kn.ax 0 rfl cM;have g2:=kn.l 0 rfl;have gz:=kn.l 3 rfl;refine Zz g2 ?_;have jC:∀p∈Lp++Lb,H11 p.1=p.2∧un H p.1=true:=fun p hp=>⟨(kn.get p (Ja _ (Ja _ hp))).1,BP (kn.loc p (Ja _ hp))⟩;have mZ:FrzR H11 (un H) ((Qo l).set (l.length-1) [.str nm,pc,bc]) (Qo (l.set (l.length-1) ⟨nm,ps,body⟩)):=by
   have:Qo (l.set (l.length-1) ⟨nm,ps,body⟩)=(Qo l).set (l.length-1) (Fn.cells ⟨nm,ps,body⟩):=by simp[Qo,Jal]
   rw[this];exact Ra _ (FrzR.same (CB l)) (.cons (Qe rfl) (.cons (hp.2 _ _ fun p hp=>jC p (Jc _ hp)) (.cons (hb.2 _ _ fun p hp=>jC p (Ja _ hp)) .nil)))
  have hT:=Sv l (l.length-1) ⟨nm,ps,body⟩;refine⟨_,(FrzL.cons (FrzR.aw (BP (kn.free 3 rfl)) ?_ ?_ mZ) .nil).ag,hK _ _ k8 a1 a2 kn.fin ?_⟩
  ·exact gz
  ·simp[Qu]
  ·simp only at hT;refine⟨ZT,fun f' eX=>?_⟩;rcases J7 eX with eX|rfl
   ·have:=cN.par f' eX;omega
   ·exact eH
 have fz0:Fz [] (.sl false 1 (Q5 f.params)) (.sl false 1 (Q5 f.params)):=.same rfl;have fzb:Fz [] (.sl false 5 (Qk f.body)) (.sl false 5 (Qk f.body)):=.same rfl;have g4:=kn.l 2 rfl;refine Qf (Qg ?_);refine Za ?_;refine Qb rfl (fun hc=>?_) (fun hc=>?_)
 ·refine Zp ?_;refine of_c (ss:=[[102],[100,111],[],[103]]) (kn.e 0 rfl) ZT ZV fun w H8 hw hu=>?_;have kn:=kn.ak 0 rfl hu (R.am _);have g4:=kn.l 2 rfl;simp only[go_sem,Nz,g4];intro H9 h9;have kn:=kn.ax 2 rfl h9;try simp only[go_sem,AE.X.next]
  exact fin w f.params f.body _ _ [] [] _ _ (k2+1+1) fz0 fzb ZT ZT ZT kn rfl rfl rfl
 refine Za ?_;refine Qb rfl (fun hc=>?_) (fun hc=>?_)
 ·refine Qr ?_;simp only[go_sem,g4,Qt];refine⟨.inl trivial,CJ _,by simp only[LIM];omega,fun z hz H8 h8=>?_⟩;have kn:=kn.al hz h8;have de:Gr [(z,.vec 1 ([]++Q5 f.params))] 1 (Q5 f.params) (.aw z 1 0 (0+f.params.length)):=Gr.mk z 1 (Q5 f.params) (by rw[Qt];omega);generalize C.aw z 1 0 (0+f.params.length)=cz at de⊢;have cQ:=de.ah;simp only[go_sem,Nw,cQ];refine of_c (ss:=[[97],[120],[105,102]]) (kn.e 0 rfl) ZT ZV fun w H9 hw hu=>?_;have kn:Kn H H9 [(R.l,R.o (k2+1+1))] ([(x2,.st [.sl true 3 []]),(x3,.st [.sl false 3 (Qo l)]),(x4,fnO f)]++[(z,.vec 1 ([]++Q5 f.params))]):=kn.ak 0 rfl hu (R.am _);simp only[go_sem,Nx,cQ];refine Kn.aQ (B:=[_,_,_]) (rows:=Q5 f.params) kn de (new:=[[.str w]]) (.mk' _ true 1 _) Zax (by simp only[Qt,Jf,Jg,LIM];omega) fun t Lt H10 jp aq kn=>?_;rw[Q6t]at jp;have g4:=kn.l 2 rfl;simp only[go_sem,Ny,g4,aq];intro H11 cM;have kn:=kn.ax 2 rfl cM;try simp only[go_sem,AE.X.next]
  refine fin f.name (f.params++[w]) f.body t _ Lt [] _ _ (k2+1+1) ⟨aq,fun H S hm=>Gr.frzm jp hm (FrzR.same (CJ _))⟩ fzb ⟨ZT,by rw[Jaf,List.length_singleton];omega⟩ ZT ZT ?_ rfl rfl rfl;rw[J4];exact kn
 refine Za ?_;refine Qb rfl (fun hc=>?_) (fun hc=>?_)
 ·refine Qr ?_;simp only[go_sem,g4,Qp];refine⟨.inl trivial,AQ _,by simp only[LIM];omega,fun z hz H8 h8=>?_⟩;have kn:=kn.al hz h8;have de:Gr [(z,.vec 5 ([]++Qk f.body))] 5 (Qk f.body) (.aw z 5 0 (0+f.body.length)):=Gr.mk z 5 (Qk f.body) (by rw[Qp];omega);generalize C.aw z 5 0 (0+f.body.length)=cz at de⊢;have cQ:=de.ah;simp only[go_sem,NG,cQ];refine Qblu (kn.e 0 rfl) ZT fun x H9 k9 b1 b2 hu iy=>?_;have kn:Kn H H9 [(R.l,R.o k9)] ([(x2,.st [.sl true 3 []]),(x3,.st [.sl false 3 (Qo l)]),(x4,fnO f)]++[(z,.vec 5 ([]++Qk f.body))]):=kn.ak 0 rfl hu (R.am _);simp only[go_sem,Nu,x.ae,cQ];have cN:=(PR.sts f.body).app (Ff (op:=3) (nm:=[]) (a:=.sl true 4 [x.cells]) (ars:=[x]) rfl fun H S=>by
   simp only[Ql];exact (FrzR.cons (.same x.ai) .nil).sl)
  refine Kn.aQ (B:=[_,_,_]) (rows:=Qk f.body) kn de (new:=[[.int .i64 3,.str [],.sl true 4 [x.cells],.sl true 5 [],.sl true 5 []]]) (.mk' _ true 5 _) Zax Za7 fun t Lt H10 jp aq kn=>?_;have g4:=kn.l 2 rfl;simp only[go_sem,Nv,g4,aq];intro H11 cM;have kn:=kn.ax 2 rfl cM;try simp only[go_sem,AE.X.next]
  have fQ:=cN.fz jp;rw[BR]at fQ;exact fin f.name f.params (f.body++[.mk 3 [] [x] [] []]) _ t [] Lt _ _ k9 fz0 fQ Zby ZT ZT kn rfl rfl rfl
 refine Za ?_;refine Qb rfl (fun hc=>?_) (fun hc=>?_)
 ·refine Qr ?_;simp only[go_sem,g4,Qp];refine⟨.inl trivial,AQ _,by simp only[LIM];omega,fun z hz H8 h8=>?_⟩;have kn:=kn.al hz h8;have de:Gr [(z,.vec 5 ([]++Qk f.body))] 5 (Qk f.body) (.aw z 5 0 (0+f.body.length)):=Gr.mk z 5 (Qk f.body) (by rw[Qp];omega);generalize C.aw z 5 0 (0+f.body.length)=cz at de⊢;have cQ:=de.ah;simp only[go_sem,OH,cQ];refine A0 (kn.e 0 rfl) ZT fun op H9 b7 hu=>?_;have kn:=kn.ak 0 rfl hu (R.am _);simp only[go_sem,OI,cQ];refine of_c (ss:=[[],[97],[122,122]]) (kn.e 0 rfl) ZT ZV fun w H10 hw hu=>?_;have kn:=kn.ak 0 rfl hu (R.am _);simp only[go_sem,OJ,cQ];refine Qbqe ZT (kn.e 0 rfl) ZT fun x H11 k9 b1 b2 hu iy=>?_;have kn:Kn H H11 [(R.l,R.o k9)] ([(x2,.st [.sl true 3 []]),(x3,.st [.sl false 3 (Qo l)]),(x4,fnO f)]++[(z,.vec 5 ([]++Qk f.body))]):=kn.ak 0 rfl hu (R.am _);simp only[go_sem,OK,x.ae,cQ];have cN:=(PR.sts f.body).app (Ff (op:=op) (nm:=w) (a:=.sl true 4 [x.cells]) (ars:=[x]) rfl fun H S=>by
   simp only[Ql];exact (FrzR.cons (.same x.ai) .nil).sl)
  refine Kn.aQ (B:=[_,_,_]) (rows:=Qk f.body) kn de (new:=[[.int .i64 op,.str w,.sl true 4 [x.cells],.sl true 5 [],.sl true 5 []]]) (.mk' _ true 5 _) Zax Za7 fun t Lt H12 jp aq kn=>?_;have g4:=kn.l 2 rfl;simp only[go_sem,OL,g4,aq];intro H13 cy;have kn:=kn.ax 2 rfl cy;try simp only[go_sem,AE.X.next]
  have fQ:=cN.fz jp;rw[BR]at fQ;exact fin f.name f.params (f.body++[.mk op w [x] [] []]) _ t [] Lt _ _ k9 fz0 fQ Zby ZT ZT kn rfl rfl rfl
 refine Za ?_;refine Qb rfl (fun hc=>?_) (fun hc=>?_)
 ·refine Za ?_;intro x5 cp H8 h8;have kn:=kn.al cp h8;have g5:=kn.l 3 rfl;simp only[go_sem,OG,g5];intro H9 h9;have kn:=kn.ax 3 rfl h9;refine Qz (Qa ?_);simp only[go_sem];refine A0 (kn.e 0 rfl) ZT fun cnt H10 gC hu=>?_;have kn:=kn.ak 0 rfl hu (R.am _);rw[if_neg ZT]at gC;obtain⟨cj,rfl⟩:=Jw gC.1;simp only[go_sem,OF];refine Qf (Qg (Q3 (fun m e1 H1=>∃(j:Nat) (op:Int) (b:C) (bl:List St) (k9:Nat),m=j∧j≤4∧k2+2≤k9∧k9+j≤k2+6∧b.ah=false∧(∀(H:Heap) (S:Nat→Bool),FrzC H S b (.sl false 5 (Qk bl)))∧Qj bl+3 * j≤12∧
   Kn H H1 [(R.l,R.o k9)] [(x2,.st [.sl true 3 []]),(x3,.st [.sl false 3 (Qo l)]),(x4,fnO f),(x5,.st [.int .i64 op,.str [],a0C,b,.sl true 5 []])]∧
   e1=[(0,.c (.ptr R.l 0)),(2,.c (.ptr x2 0)),(3,.c (.ptr x3 0)),(4,.c (.ptr x4 0)),(5,.c (.ptr x5 0)),(6,.c (.int .i64 j))]) cj ?_ ?_))
  ·exact⟨cj,6,.sl true 5 [],[],k2+2,ZT,ZT,ZT,ZT,rfl,fun H S=>FrzR.nil.sl,by simp only[Qj];omega,kn,rfl⟩
  ·clear kn g5 h9 h8;rintro m e1 H11 ⟨j,op,b,bl,k9,hm,hj,hk9,hk10,db,lK,lI,kn,rfl⟩;have g5:=kn.l 3 rfl;have g4:=kn.l 2 rfl;refine Qz (Qa ?_);simp only[go_sem];have lA:∀(H:Heap) (S:Nat→Bool),FrzL H S [.int .i64 op,.str [],a0C,b,.sl true 5 []] (St.mk op [] [.mk 1 0 [] []] bl []).cells:=fun H S=>by
    simp only[St.aa,St.op,St.name,St.args,St.body,St.els];exact .cons (Qe rfl) (.cons (Qe rfl) (.cons (Gq 0 H S) (.cons (lK H S) (.cons FrzR.nil.sl .nil))))
   refine Qf (Qb rfl (fun au=>?_) (fun au=>?_))
   ·have jT:0<j:=ZZ;refine Zc ?_
    refine Qf (Qg ?_);refine Bf ?_;simp only[go_sem,g5,db];refine Bj (ns:=[5,6]) (kn.e 0 rfl) ZT ZV fun w H12 hw hu=>?_;have kn:=kn.ak 0 rfl hu (R.am _);have g5:=kn.l 3 rfl;simp only[go_sem,OE,g5,db];intro H13 cy;have kn:=kn.ax 3 rfl cy;try simp only[go_sem,AE.X.next]
    refine Qr ?_;try simp only[go_sem,AE.X.next]
    refine⟨Qv,j-1,ZT,j-1,w,.sl true 5 [[.int .i64 op,.str [],a0C,b,.sl true 5 []]],[.mk op [] [.mk 1 0 [] []] bl []],k9+1,rfl,ZT,ZT,ZT,rfl,fun H S=>?_,?_,kn,?_⟩
    ·simp only[Qk];exact (FrzR.cons (lA H S) .nil).sl
    ·simp only[Qj,St.size,Qw,Ex.size];omega
    ·have:((j:Int)-1)=((j-1:Nat):Int):=ZT;rw[this]
   ·refine Zg ?_;refine Bf ?_;simp only[go_sem,g5,g4,db,Qp];refine⟨.inl trivial,AQ _,by simp only[LIM];omega,fun z hz H12 dr=>?_⟩;have kn:Kn H H12 [(R.l,R.o k9)] ([(x2,.st [.sl true 3 []]),(x3,.st [.sl false 3 (Qo l)]),(x4,fnO f),(x5,.st [.int .i64 op,.str [],a0C,b,.sl true 5 []])]++[(z,.vec 5 ([]++Qk f.body))]):=kn.al hz dr;have g5:=kn.l 3 rfl;have de:Gr [(z,.vec 5 ([]++Qk f.body))] 5 (Qk f.body) (.aw z 5 0 (0+f.body.length)):=Gr.mk z 5 (Qk f.body) (by rw[Qp];omega);generalize C.aw z 5 0 (0+f.body.length)=cz at de⊢;have cQ:=de.ah;simp only[go_sem,OC,g5,db,cQ];have cN:PR (Qk f.body++[[.int .i64 op,.str [],a0C,b,.sl true 5 []]]) (Qk f.body++Qk [.mk op [] [.mk 1 0 [] []] bl []]):=(PR.sts f.body).app ⟨fun r hr=>by simp only[Jb]at hr;subst hr;simp only[ai,Jz,J3,Dg,CH,Df,db];rfl,fun H S=>by simp only[Qk];exact .cons (lA H S) .nil⟩;refine Kn.aQ (B:=[_,_,_,_]) (rows:=Qk f.body) kn de (new:=[[.int .i64 op,.str [],a0C,b,.sl true 5 []]]) (.mk' _ true 5 _) (fun r hr=>by simp only[Jb]at hr;subst hr;simp only[ai,Jz,J3,Dg,CH,Df,db];rfl) Za7 fun t Lt H13 jp aq kn=>?_;have g4:=kn.l 2 rfl;simp only[go_sem,OD,g4,aq];intro H14 ny;have kn:=kn.ax 2 rfl ny;try simp only[go_sem,AE.X.next]
    have fQ:=cN.fz jp;rw[BR]at fQ;refine fin f.name f.params (f.body++[.mk op [] [.mk 1 0 [] []] bl []]) _ t [] Lt _ _ k9 fz0 fQ (by simp only[Cf,Qj,St.size,Qw,Ex.size];omega) ZT ZT (kn.sub ?_) rfl rfl rfl;exact .cons_cons _ (.cons_cons _ (.cons_cons _ (.cons _ (List.Sublist.refl _))))
 refine Za ?_;refine Qb rfl (fun hc=>?_) (fun hc=>?_)
 ·have g2:=kn.l 0 rfl;refine Zd g2 ?_;intro H8 h8;have kn:=kn.ax 0 rfl h8;have g2:=kn.l 0 rfl;refine ZD g2 ?_;exact⟨_,(FrzL.cons FrzR.nil.sl .nil).ag,hK [] _ (k2+1) ZT ZT kn.fin ⟨by simp[Qn],ZV⟩⟩
 refine Za ?_;refine Qb rfl (fun hc=>?_) (fun hc=>?_)
 ·refine Za ?_;refine Bj (ns:=[20,40,41]) (kn.e 0 rfl) ZT ZV fun cnt H8 gC hu=>?_;have kn:=kn.ak 0 rfl hu (R.am _);have rZ:0≤cnt∧cnt≤41:=by
   simp only[Jm,Jaj,or_false]at gC;omega
  obtain⟨cj,rfl⟩:=Jw rZ.1;simp only[go_sem,OB];refine Qg (Q3 (fun m e1 H1=>∃(j:Nat) (b:C) (rows:List (List C)) (body:List St) (Lb:List (Nat×Obj)),m=j∧j≤41∧PR rows (Qk body)∧(b=.sl false 5 rows∧Lb=[]∨Gr Lb 5 rows b)∧Qj body+3 * j≤Qj f.body+123∧
   Kn H H1 [(R.l,R.o (k2+1+1))] ([(x2,.st [.sl true 3 []]),(x3,.st [.sl false 3 (Qo l)]),(x4,.st [.str f.name,.sl false 1 (Q5 f.params),b])]++Lb)∧
   e1=[(2,.c (.ptr x2 0)),(3,.c (.ptr x3 0)),(4,.c (.ptr x4 0)),(7,.c (.int .i64 j))]) cj ?_ ?_)
  ·exact⟨cj,.sl false 5 (Qk f.body),Qk f.body,f.body,[],rfl,ZT,PR.sts _,.inl ⟨rfl,rfl⟩,ZT,kn,rfl⟩
  ·clear kn g4;rintro m e1 H9 ⟨j,b,rows,body,Lb,hm,hj,cN,hb,lI,kn,rfl⟩;have db:b.ah=false:=by
    rcases hb with ⟨rfl,_⟩|hb
    ·rfl
    ·exact hb.ah
   have fD:=BM body;have co:=cN.len;rw[Qp]at co;have eG:Slc H9 5 rows b:=by
    rcases hb with ⟨rfl,_⟩|hb
    ·exact .mk' _ false 5 _
    ·exact Gr.slc2 hb kn
   have eL:=eq_true eG.ok;have iA:=eG.sz;have qQ:=eG.rows;have d9:=eG.len;have g4:=kn.l 2 rfl;refine Qz (Qa ?_);simp only[go_sem];refine Qf (Qb rfl (fun au=>?_) (fun au=>?_))
   ·have jT:0<j:=ZZ;refine Zc ?_
    refine Qf (Qg ?_);refine Qr ?_;simp only[go_sem,g4,db,eL,iA,qQ,d9];refine⟨.inl trivial,cN.1,by simp only[LIM];omega,fun z hz H10 bP=>?_⟩;have kn:=kn.al hz bP;have kn:Kn H H10 [(R.l,R.o (k2+1+1))] ([(x2,.st [.sl true 3 []]),(x3,.st [.sl false 3 (Qo l)]),(x4,.st [.str f.name,.sl false 1 (Q5 f.params),b])]++[(z,.vec 5 ([]++rows))]):=kn.sub (by
     rw[Jh];exact List.Sublist.append (List.Sublist.refl _) (List.sublist_append_right _ _))
    have de:Gr [(z,.vec 5 ([]++rows))] 5 (rows) (.aw z 5 0 (0+rows.length)):=Gr.mk z 5 (rows) ZT;generalize C.aw z 5 0 (0+rows.length)=cz at de⊢;have cQ:=de.ah;simp only[go_sem,O9,cQ];have ov:=cN.app (Ff (op:=3) (nm:=[]) (a:=.sl true 4 [[.int .i64 1,.int .i64 j,.str [],.sl true 4 []]]) (ars:=[.mk 1 j [] []]) rfl fun H S=>Gq j H S);rw[BR]at ov;refine Kn.aQ (B:=[_,_,_]) (rows:=rows) kn de (new:=[[.int .i64 3,.str [],.sl true 4 [[.int .i64 1,.int .i64 j,.str [],.sl true 4 []]],.sl true 5 [],.sl true 5 []]]) (.mk' _ true 5 _) Zax (by simp only[Jf,Jg,LIM];omega) fun t Lt H11 jp aq kn=>?_;have g4:=kn.l 2 rfl;simp only[go_sem,OA,g4,aq,db,cQ];intro H12 dr;have kn:=kn.ax 2 rfl dr;try simp only[go_sem,AE.X.next]
    refine Qr ?_;try simp only[go_sem,AE.X.next]
    refine⟨Qv,j-1,ZT,j-1,t,_,body++[.mk 3 [] [.mk 1 j [] []] [] []],Lt,rfl,ZT,ov,.inr jp,?_,kn,?_⟩
    ·simp only[Cf,Qj,St.size,Qw,Ex.size];omega
    ·have:((j:Int)-1)=((j-1:Nat):Int):=ZT;rw[this]
   ·refine Zg ?_;have fQ:Fz Lb b (.sl false 5 (Qk body)):=by
     rcases hb with ⟨rfl,rfl⟩|hb
     ·exact cN.sl false
     ·exact cN.fz hb
    exact fin f.name f.params body _ b [] Lb _ _ (k2+1+1) fz0 fQ ZT ZT ZT kn rfl rfl rfl
 refine Za ?_;refine Qb rfl (fun hc=>?_) (fun hc=>?_)
 ·have g3:=kn.l 1 rfl;have g2:=kn.l 0 rfl;have h0:(0:Nat)<l.length:=kT;refine An ?_;simp only[go_sem,g3,h0,Jay,Qu,AB _ _ h0,Fn.take3,Fn.aU,Fn.ae];refine⟨.inl trivial,CB _,by simp only[LIM];omega,fun z hz H8 h8=>?_⟩;have kn:Kn H H8 [(R.l,R.o (k2+1))] ([(x2,.st [.sl true 3 []]),(x3,.st [.sl false 3 (Qo l)]),(x4,fnO f)]++[(z,.vec 3 ([]++Qo l))]):=kn.al hz h8;have g3:=kn.l 1 rfl;have de:Gr [(z,.vec 3 ([]++Qo l))] 3 (Qo l) (.aw z 3 0 (0+l.length)):=Gr.mk z 3 (Qo l) (by rw[Qu];omega);generalize C.aw z 3 0 (0+l.length)=cz at de⊢;have cQ:=de.ah;simp only[go_sem,OZ,g3,h0,Jay,cQ,Qu,AB _ _ h0,Fn.take3,Fn.aU,Fn.ae];refine Kn.aQ (B:=[_,_,_]) (rows:=Qo l) kn de (new:=[l[0].cells]) (.mk' _ true 3 _) (by simp[Fn.ai]) (by simp only[Qu,Jf,Jg,LIM];omega) fun t Lt H9 jp aq kn=>?_;rw[RU]at jp;have g2:=kn.l 0 rfl;simp only[go_sem,O8,g2,aq,cQ];intro H10 bP;have kn:=kn.ax 0 rfl bP;have g2:=kn.l 0 rfl;refine Qi ?_;simp only[go_sem,AE.X.next,Qq,Q0,Jb,forall_eq,RS.op,g2,aq];refine⟨_,(FrzL.cons (jp.frz (B:=[_,_,_]) kn (CB _)) .nil).ag,hK (l++[l[0]]) _ (k2+1) ZT ZT kn.fin ?_⟩;have:=Cm (Jj h0);refine⟨by simp only[HT,Qn];omega,fun f' eX=>?_⟩;have hm:f'∈l:=by
   rcases Jd.1 eX with eX|eX
   ·exact eX
   ·rw[Jb.1 eX];exact Jj h0
  have:=cN.par f' hm;omega
 ·refine Zf ?_
  exact fin f.name f.params f.body _ _ [] [] _ _ (k2+1) fz0 fzb ZT ZT ZT kn rfl rfl rfl
end Go.AE.Y
namespace Go.AE.Y
open Go.Proofs.Tryz
def L7:=dY 0x88381e001
def L4:=dY 83503542321 L7
def Lu:=dY 0x26f0640b1
def Qbix:=dZ 0x872100281e38160c210b3
def Ls:=dY 0xf0240f1
def Lq:=dY 6752952321
def Qbiy:=dZ 0x872110191d08010210f3 .skip Lq
def Lo:=dY 0x39381e001
def Lm:=dY 0xb90049f053361514f1b3
def Qbiz:=dZ 0x872100281e38162221213
def MX:=dY 0xea0059f07535a2614f2e3
def MW:=dY 0x2b684e001
def MV:=dY 0x147100432f069f012026f102471004d1f322 MW
def MU:=dY 0x684e0132120d6f103471004d1f014c1f111f102471004d1f3a4
def MT:=dY 0x201e01237483
def Qbcp:=dW 0x8022101292d08f0805804440433 [] [MT] [fI 70 (.fH 1 [.k (.c (.str [97])),.k (.c (.str [98])),.k (.c (.str [122,122])),.k (.c (.str [99])),.k (.c (.str [100]))])]
def Qbcq:=dZ 0x72100281e38164a21
def MS:=dY 0x201e022dc7593
def MR:=dY 0x106522f75114f582 MS
def Qbcr:=dZ 0x72100281e38165b21
def Qbcs:=dW 0x80902210174d08f010220748001022074804804db0e0d0c0b040a09080706050403020100100fa24b3 [Qbcr] [MR] [fI 86 (.sli 5 (.t 85) none (some (kI 1)))]
def Qbct:=dW 0x294bf0000260cc04b9f026f4b244c21190943f10105008f01012075803f5123d3 [Qbcp,Qbcq,Qbcs] [] [fI 67 (.bin 0 .neq (.t 66) (.k (.c (.str []))))]
def Qbcu:=dW 0x9834f00001080eb03d9f1f4b243e2101024101292d08f0803730353 [Qbct] [MU] [fI 56 (.fH 1 [.k (.c (.str [102])),.k (.c (.str [103])),.k (.c (.str [109])),.k (.c (.str [113]))])]
def Qbcv:=dZ 0x9034f000010806b0359f0f1243621004 Qbcu
def Qbcw:=dZ 0x80220104e0f14368460102207580617707f603
def Qbcx:=dZ 0x72100281e38166721
def LU:=dZ 0x190960f010250086f03401002075805c50d222 Qbcw [] Qbcx
def Qbcy:=dZ 0x190934f00001070046f025bd08033212 Qbcv [] LU
def Qbcz:=dW 0x90000106101292d08f0802f31 [Qbcy] [MV] [fI 48 (.fH 1 [.k (.c (.str [122,122])),.k (.c (.str [97])),.k (.c (.str [98])),.k (.c (.str [99])),.k (.c (.str [100]))])]
def Qbc0:=dZ 0x900010510525bd050102207480080010220748023b0c0b030a090807060504030201000e0da2 Qbcz MX
def Qbc1:=dZ 0x190921f0010500f0240501022074801c612 Qbiz [] Qbc0
def Qbc2:=dZ 0x90010410325bd05013802080013802147080701060504030201000a09a2 Qbc1 Lm
def Qbc3:=dZ 0x9010310140d38161221 Qbc2 Lo
def Qbc4:=dZ 0x1909b01041066f025bd0800d212 Qbiy Ls Qbc3
def Qbc5:=dZ 0x1909701041056f025bd08009212 Qbix Lu Qbc4
def Qbc6:=dZ 0x901031015dd600721 Qbc5 L4
def Qbq3:=dZ 0x9102037132f0211 Qbc6
theorem Qbqo:mFn prog KH 1 104 Qbq3 Ak=true:=ZW
end Go.AE.Y
namespace Go.AE
variable {H0 H H':Heap}{E L:List (Nat×Obj)}
theorem Kn.neM (kn:Kn H0 H E L){a b:Nat}{oa ob:Obj}(h1:(a,oa)∈L)(h2:(b,ob)∈L)(h:oa≠ob):a≠b:=fun e=>by
 subst e;exact h ((kn.get _ (Ja _ h1)).1.symm.trans (kn.get _ (Ja _ h2)).1)
theorem Kn.upd1 (kn:Kn H0 H E L){x:Nat}{o o':Obj}(hm:(x,o)∈L)(h1:H'=H.set x o')(ho:o'≠.none:=by nofun):∃L',Kn H0 H' E L'∧(x,o')∈L'∧∀p∈L,p.1≠x→p∈L':=by
 obtain⟨i,hi⟩:=Jan hm;refine⟨L.set i (x,o'),kn.ax i hi h1 ho,?_,fun p hp aP=>?_⟩
 ·have af:=(List.getElem?_eq_some_iff.1 hi).1;exact List.mem_iff_getElem?.2 ⟨i,by rw[Jau];simp[af]⟩
 ·obtain⟨j,hj⟩:=Jan hp;refine List.mem_iff_getElem?.2 ⟨j,?_⟩;rw[Jau];have:i≠j:=fun e=>by
   subst e;rw[hi]at hj;exact aP (by rw[←Ja4 hj])
  rw[if_neg this];exact hj
theorem Kn.stMid {P A B Q:List (Nat×Obj)}{x:Nat}{o o':Obj}(kn:Kn H0 H E ((P++(A++(x,o)::B))++Q))(h1:H'=H.set x o')(ho:o'≠.none:=by nofun):Kn H0 H' E ((P++(A++(x,o')::B))++Q):=by
 have e:∀o,(P++(A++(x,o)::B))++Q=(P++A)++(x,o)::(B++Q):=fun o=>ZV
 rw[e]at kn⊢;exact kn.stM h1 ho
theorem Kn.lastM {A B:List (Nat×Obj)}{x:Nat×Obj}(kn:Kn H0 H E (A++x::B)):Kn H0 H E ((A++B)++[x]):=
 kn.perm (List.perm_middle.trans (List.perm_append_singleton x (A++B)).symm)
theorem Kn.getL (kn:Kn H0 H E L){x:Nat}{o:Obj}(hm:(x,o)∈L):H x=o:=(kn.get _ (Ja _ hm)).1
end Go.AE
namespace Go.AE.Y
attribute [local go_sem] cond_true cond_false Bool.not_true Bool.not_false
open Go.Proofs.Tryz
variable {H H0 F:Heap}{K:V→Heap→Prop}{E B Lg:List (Nat×Obj)}
theorem Gr.vec {sz:Nat}{rows:List (List C)}{c:C}(h:Gr Lg sz rows c):∀p∈Lg,∃z r,p.2=Obj.vec z r:=by
 rcases h with ⟨_,_,rfl⟩|⟨y,_,rfl⟩
 ·simp
 ·intro p hp;simp only[Jb]at hp;subst hp;exact⟨_,_,rfl⟩
theorem OFn.vec {u:OFn}(h:u.ok):∀p∈u.lg,∃z r,p.2=Obj.vec z r:=by
 intro p hp;rcases Jd.1 hp with hp|hp
 ·exact Gr.vec h.p p hp
 ·rcases Jd.1 hp with hp|hp
  ·obtain⟨o,ho,hp⟩:=Jn.1 hp;exact Gr.vec (h.o o ho) p hp
  ·exact Gr.vec h.b p hp
theorem DP {α:Type}{l:List α}{i:Nat}(h:i<l.length)(d:α):l.getD i d=l[i]:=by simp[Jv,h]
theorem Qbmn {α:Type}{l:List α}{i:Nat}{a x:α}(h:x∈l.set i a):x=a∨x∈l:=by
 rcases J7 h with h|h
 ·exact .inr h
 ·exact .inl h
theorem Q20:∀(l:List Ex) (i:Nat) (x:Ex),Qw (l.set i x)≤Qw l+x.size
 |[],i,x=>Zcf
 |y::r,0,x=>by simp only[Jas,Qw];omega
 |y::r,i+1,x=>by have:=Q20 r i x;simp only[Jar,Qw];omega
def obU (z:Nat)(us:List OFn):List (Nat×Obj):=us.flatMap OFn.lg++[(z,.vec 3 (us.map OFn.row))]
theorem YY {z:Nat}{us:List OFn}(h:∀u∈us,u.ok):∀p∈obU z us,∃s r,p.2=Obj.vec s r:=by
 intro p hp;rcases Jd.1 hp with hp|hp
 ·obtain⟨u,hu,hp⟩:=Jn.1 hp;exact OFn.vec (h u hu) p hp
 ·simp only[Jb]at hp;subst hp;exact⟨_,_,rfl⟩
theorem GD {α:Type}{l:List α}{i:Nat}(h:i<l.length){a:α}(ha:l[i]=a):∃l1 l2,l=l1++a::l2∧l1.length=i:=by
 refine⟨l.take i,l.drop (i+1),?_,by rw[J2];omega⟩;rw[←ha,List.getElem_cons_drop,Jam]
theorem G5 {α:Type}(l1 l2:List α)(a b:α){i:Nat}(hi:l1.length=i):(l1++a::l2).set i b=l1++b::l2:=by
 subst hi;simp
theorem G6 (z:Nat)(us1 us2:List OFn)(u:OFn):obU z (us1++u::us2)=us1.flatMap OFn.lg++(u.lg++(us2.flatMap OFn.lg++[(z,.vec 3 (us1.map OFn.row++u.row::us2.map OFn.row))])):=by
 simp[obU]
theorem DK (u:OFn)(o1 o2:List OSt)(o:OSt)(h:u.os=o1++o::o2):u.lg=u.pl++(o1.flatMap OSt.al++(o.al++(o2.flatMap OSt.al++u.bl))):=by
 simp[OFn.lg,h]
theorem Qbgl {R:Rdr}{k:Nat}(hH:H R.l=R.o k)(hk:k+15000000≤2^30)
  (hK:∀(l:List Fn) (H':Heap) (k':Nat),k<k'→k'≤k+15000000→Upd H H' [(R.l,R.o k')]→PS l→K (.ag [.sl false 3 (Qo l)]) H') :
  Qm prog KH [.c (.ptr R.l 0)] H K:=by
 refine Q1 ?_;refine Qc Aa Qbqo ?_;refine Za ?_;intro x2 bB H1 h1;have kn:=(Kn.start1 hH (R.am k)).al bB h1;refine Za ?_;refine Fx (kn.e 0 rfl) ZT fun l H2 k2 g1 g2 hu cN=>?_;have kn:=kn.ak 0 rfl hu (R.am _);have kT:=cN.pos;have tq:=cN.len;have aO:=cN.size;simp only[go_sem,L4];intro x3 bQ H3 h3;have kn:=kn.al bQ h3;have g3:=kn.l 1 rfl;simp only[go_sem,L7,g3];intro H4 h4;have kn:=kn.ax 1 rfl h4;refine Qz (Qa ?_);simp only[go_sem];refine A0 (kn.e 0 rfl) ZT fun v H5 hv hu=>?_;have kn:=kn.ak 0 rfl hu (R.am _);have g3:=kn.l 1 rfl;have g2':=kn.l 0 rfl;simp only[go_sem,Lu];refine Qf (Qb rfl (fun hc=>?_) (fun hc=>?_))
 ·refine Zi g3 g2' ?_;intro H6 h6;have kn:=kn.ax 0 rfl h6;have g2':=kn.l 0 rfl;refine ZD g2' ?_;exact⟨_,(FrzL.cons (FrzR.same (CB _)).sl .nil).ag,hK l _ (k2+1) ZT ZT kn.fin ⟨ZT,fun f hf=>by have:=cN.par f hf;omega⟩⟩
 refine Zc ?_
 refine Qz (Qa ?_);simp only[go_sem];refine A0 (kn.e 0 rfl) ZT fun v2 H6 kg hu=>?_;have kn:=kn.ak 0 rfl hu (R.am _);simp only[go_sem,Ls];refine Qf (Qb rfl (fun hc=>?_) (fun hc=>?_))
 ·refine Za ?_;refine Qbgi (kn.e 0 rfl) ZT fun l2 H7 k7 b1 b2 hu cr=>?_;have kn:=kn.ak 0 rfl hu (R.am _);have g2':=kn.l 0 rfl;simp only[go_sem,Lq,g2'];intro H8 h8;have kn:=kn.ax 0 rfl h8;have g2':=kn.l 0 rfl;refine ZD g2' ?_;exact⟨_,(FrzL.cons (FrzR.same (CB _)).sl .nil).ag,hK l2 _ k7 ZT ZT kn.fin cr⟩
 refine Zc ?_
 have g3:=kn.l 1 rfl;refine Zd g3 ?_;refine FX (l:=l) rfl (.mk' _ false 3 _) ZT (fun f hf=>by have:=cN.par f hf;omega) fun us t Lz H7 eS jy hz aq k2n=>?_;have kO:us.length=l.length:=by rw[←eS,Je]
 obtain⟨z,rfl,rfl⟩:∃z,t=.aw z 3 0 us.length∧Lz=[(z,.vec 3 (us.map OFn.row))]:=by
  rcases hz with ⟨_,h,_⟩|⟨y,h1,h2⟩
  ·have:=congrArg List.length h;rw[Je,Jg]at this;omega
  ·exact⟨y,by rw[h1,Je],h2⟩
 have kn:=kn.addNew k2n;have g3:=kn.l 1 rfl;simp only[go_sem,Lo,g3];intro H8 h8;have kn:Kn H H8 [(R.l,R.o (k2+1+1))] ([(x2,.st [.sl true 3 []]),(x3,.st [.aw z 3 0 us.length])]++obU z us):=kn.ax 1 rfl h8;have fin:∀(us':List OFn) (L8:List (Nat×Obj)) (H8 H9:Heap) (k8:Nat),(∀u∈us',u.ok)→us'.length=us.length→PS (us'.map OFn.f)→(k<k8∧k8≤k+15000000)→Kn H H8 [(R.l,R.o k8)] L8→(x2,.st [.sl true 3 []])∈L8→(∀p∈obU z us',p∈L8)→H9=H8.set x2 (.st [.aw z 3 0 us.length])→
   Qq Ak (unK H K) .ret [(2,.c (.ptr x2 0))] H9:=by
  intro us' L8 H8 H9 k8 cU dd kR fv kn aZ fO h9;obtain⟨L9,kn9,qA,qZ⟩:=kn.upd1 aZ h9;have g2:=kn9.getL qA;simp only[go_sem,Qq,Q0,Jb,forall_eq,RS.op,g2];have gM:∀p∈obU z us',p∈L9:=fun p hp=>qZ p (fO p hp) fun e=>by
   obtain⟨s,r,he⟩:=YY cU p hp;obtain⟨p1,p2⟩:=p;simp only at he e;exact kn.neM (fO _ hp) aZ (by rw[he];nofun) e
  have hf:=PV (H:=H9) (S:=un H) cU (Gr.mk (n:=us.length) z 3 (us'.map OFn.row) (by rw[Je];omega)) fun p hp=>⟨(kn9.get p (Ja _ (gM p hp))).1,BP (kn9.loc p (gM p hp))⟩;exact⟨_,(FrzL.cons hf .nil).ag,hK _ _ k8 fv.1 fv.2 kn9.fin kR⟩
 have gz:H8 z=.vec 3 (us.map OFn.row):=kn.getL ZaJ;have g3:=kn.l 1 rfl;refine An ?_;simp only[go_sem,g3,gz,Je,Jr,Jl];try intro _
 refine A0 (kn.e 0 rfl) ZT fun iv H9 oX hu=>?_;have kn:Kn H H9 [(R.l,R.o (k2+1+1+1))] ([(x2,.st [.sl true 3 []]),(x3,.st [.aw z 3 0 us.length])]++obU z us):=kn.ak 0 rfl hu (R.am _);rw[if_neg ZT]at oX;obtain⟨i,rfl⟩:=Jw oX.1;have hi:i<us.length:=ZT
 have gz:H9 z=.vec 3 (us.map OFn.row):=kn.getL ZaJ;have g3:=kn.l 1 rfl;have aY:(us.map OFn.row).take us.length=us.map OFn.row:=Jq (by rw[Je];exact Jl _);obtain⟨u,gQ⟩:∃u,us[i]=u:=⟨_,rfl⟩;have dV:u∈us:=by rw[←gQ];exact Jj hi
 have cw:=jy u dV;have gg:=cw.p.ah;have db:=cw.b.ah;have aI:(us.map OFn.row).getD i []=[.str u.f.name,u.pc,u.bc]:=by rw[DP (by rw[Je];exact hi),Jai,gQ];rfl
 simp only[go_sem,Lm,g3,gz,hi,Je,Jr,Jl];have eG:Slc H9 5 (u.os.map OSt.row) u.bc:=by
  have hm:∀p∈u.bl,H9 p.1=p.2:=fun p hp=>kn.getL (Ja _ (Jc _ (Jn.2 ⟨u,dV,Ja _ (Ja _ hp)⟩)));have hb:=cw.b;refine⟨?_,hb.aN,?_,hb.a9⟩
  ·rcases hb with ⟨h1,h2,h3⟩|⟨y,h1,h2⟩
   ·rw[h1];trivial
   ·have:=hm (y,.vec 5 (u.os.map OSt.row)) ZaI;rw[h1];simp only[aT];simp only[this];simp
  ·rcases hb with ⟨h1,h2,h3⟩|⟨y,h1,h2⟩
   ·rw[h1,h2];rfl
   ·have:=hm (y,.vec 5 (u.os.map OSt.row)) ZaI;rw[h1];simp only[rowsOf];simp only[this,List.drop_zero,List.take_length]
 have eL:=eq_true eG.ok;have d9:=eG.len;rw[Je]at d9;refine Qz (Qa ?_);simp only[go_sem,gz,hi,aY,aI,gg,db,eL,d9,Je,Jr,Jl];try intro fP
 have gS:∀us':List OFn,us'.map OFn.f=l→PS (us'.map OFn.f):=fun us' h=>by
  rw[h];exact⟨ZT,fun f hf=>by have:=cN.par f hf;omega⟩
 refine Qf (Qb rfl (fun hc=>?_) (fun hc=>?_))
 ·have g2:=kn.l 0 rfl;refine Zi g3 g2 ?_;intro H10 bP;refine Zv ?_
  exact fin us _ _ _ (k2+1+1+1) jy rfl (gS us eS) ZT kn ZV (fun p hp=>Ja _ hp) bP
 have ji:0<u.os.length:=by
  have h:¬((u.os.length:Int)=0):=ZU
  omega
 obtain⟨y,nq,fD⟩:∃y,u.bc=.aw y 5 0 u.os.length∧u.bl=[(y,.vec 5 (u.os.map OSt.row))]:=by
  rcases cw.b with ⟨_,h,_⟩|⟨y,h1,h2⟩
  ·have:=congrArg List.length h;rw[Je,Jg]at this;omega
  ·exact⟨y,by rw[h1,Je],h2⟩
 have ir:(y,Obj.vec 5 (u.os.map OSt.row))∈obU z us:=Jc _ (Jn.2 ⟨u,dV,Ja _ (Ja _ (by rw[fD];simp))⟩);have jJ:=aI;rw[nq]at aI;refine Zc ?_
 have gy:H9 y=.vec 5 (u.os.map OSt.row):=kn.getL (Ja _ ir);refine An ?_;simp only[go_sem,gz,gy,hi,aY,aI,gg,Je,Jr,Jl];try intro _
 refine A0 (kn.e 0 rfl) ZT fun jv H10 oW hu=>?_;have kn:Kn H H10 [(R.l,R.o (k2+1+1+1+1))] ([(x2,.st [.sl true 3 []]),(x3,.st [.aw z 3 0 us.length])]++obU z us):=kn.ak 0 rfl hu (R.am _);rw[if_neg ZT]at oW;obtain⟨j,rfl⟩:=Jw oW.1;have hj:j<u.os.length:=ZT
 have gz:H10 z=.vec 3 (us.map OFn.row):=kn.getL ZaJ;have gy:H10 y=.vec 5 (u.os.map OSt.row):=kn.getL (Ja _ ir);have ef:(u.os.map OSt.row).take u.os.length=u.os.map OSt.row:=Jq (by rw[Je];exact Jl _);obtain⟨o,jN⟩:∃o,u.os[j]=o:=⟨_,rfl⟩;have kV:o∈u.os:=by rw[←jN];exact Jj hj
 have jL:=cw.o o kV;have dx:=Gr.ah jL;have ce:(u.os.map OSt.row).getD j []=[.int .i64 o.x.op,.str o.x.name,o.ac,.sl false 5 (Qk o.x.body),.sl false 5 (Qk o.x.els)]:=by rw[DP (by rw[Je];exact hj),Jai,jN];rfl
 simp only[go_sem,MX,gz,gy,hi,hj,aY,aI,gg,Je,Jr,Jl];refine Za ?_;refine of_c (ss:=[[122,122],[97],[98],[99],[100]]) (kn.e 0 rfl) ZT ZV fun w H11 hw hu=>?_;have kn:Kn H H11 [(R.l,R.o (k2+1+1+1+1+1))] ([(x2,.st [.sl true 3 []]),(x3,.st [.aw z 3 0 us.length])]++obU z us):=kn.ak 0 rfl hu (R.am _);simp only[go_sem,MV];intro x6 cB H12 dr;have kn:=kn.al cB dr;have g6:H12 x6=.st [.int .i64 0,.int .i64 0,.str [],.sl true 4 []]:=kn.getL ZV;simp only[go_sem,MW,g6];intro H13 cy;have kn:Kn H H13 [(R.l,R.o (k2+1+1+1+1+1))] (([(x2,.st [.sl true 3 []]),(x3,.st [.aw z 3 0 us.length])]++obU z us)++(x6,.st [.int .i64 2,.int .i64 0,.str w,.sl true 4 []])::[]):=by
  refine Kn.stM (A:=[(x2,.st [.sl true 3 []]),(x3,.st [.aw z 3 0 us.length])]++obU z us) kn cy
 refine Qz (Qa ?_);simp only[go_sem];refine A0 (kn.e 0 rfl) ZT fun q H14 hq hu=>?_;have kn:Kn H H14 [(R.l,R.o (k2+1+1+1+1+1+1))] (([(x2,.st [.sl true 3 []]),(x3,.st [.aw z 3 0 us.length])]++obU z us)++(x6,.st [.int .i64 2,.int .i64 0,.str w,.sl true 4 []])::[]):=kn.ak 0 rfl hu (R.am _);simp only[go_sem];have fW:∀f':Fn,Qn ((us.map OFn.f).set i f')≤2^34+Qj f'.body:=fun f'=>by
  have:=Sv (us.map OFn.f) i f';rw[eS]at this⊢;omega
 have hub:Qj u.f.body≤2^34:=by
  have:u.f∈l:=by rw[←eS];exact J8 dV
  have:=Cm this;omega
 have hobs:o.x.size≤Qj u.f.body:=by
  have:o.x∈u.f.body:=by rw[←cw.x];exact J8 kV
  exact Bw this
 obtain⟨us1,us2,eU,iM⟩:=GD hi gQ;obtain⟨o1,o2,fN,rL⟩:=GD hj jN;have hP:Qn (us1.map OFn.f)+Qj u.f.body+Qn (us2.map OFn.f)≤2^34:=by
  have h1:l=us1.map OFn.f++u.f::us2.map OFn.f:=by rw[←eS,eU];simp
  rw[h1,HT]at aO;simp only[Qn]at aO;omega
 have hSz:Qj (o1.map OSt.x)+o.x.size+Qj (o2.map OSt.x)=Qj u.f.body:=by
  have h1:u.f.body=o1.map OSt.x++o.x::o2.map OSt.x:=by rw[←cw.x,fN];simp
  rw[h1,Cf];simp only[Qj];omega
 have mL:∀u':OFn,u'.ok→∀v∈us1++u'::us2,v.ok:=by
  intro u' cU v hv;rcases Jd.1 hv with hv|hv
  ·exact jy v (by rw[eU];exact Jc _ hv)
  ·rcases Jm.1 hv with rfl|hv
   ·exact cU
   ·exact jy v (by rw[eU];exact Ja _ (Js _ hv))
 have jQ:∀u':OFn,(us1++u'::us2).length=us.length:=fun u'=>Zb8
 have mB:∀u':OFn,u'.f.params=u.f.params→Qj u'.f.body≤2^35→PS ((us1++u'::us2).map OFn.f):=fun u' fo h=>by
  refine⟨by
   rw[Ji,J0,HT];simp only[Qn];omega,fun f hf=>?_⟩
  have h1:l=us1.map OFn.f++u.f::us2.map OFn.f:=by rw[←eS,eU];simp
  rw[Ji,J0]at hf;rcases Jd.1 hf with hf|hf
  ·have:=cN.par f (by rw[h1];exact Jc _ hf);omega
  ·rcases Jm.1 hf with rfl|hf
   ·rw[fo];have:=cN.par u.f (by rw[h1];exact Ja _ Jy);omega
   ·have:=cN.par f (by rw[h1];exact Ja _ (Js _ hf));omega
 have cn:∀v∈o1++o2,v.ok:=fun v hv=>cw.o v (by
  rw[fN];rcases Jd.1 hv with hv|hv
  ·exact Jc _ hv
  ·exact Ja _ (Js _ hv))
 have ez:0<o.x.args.length:=by
  have h1:o.x∈u.f.body:=by rw[←cw.x];exact J8 kV
  have h2:u.f∈l:=by rw[←eS];exact J8 dV
  have:=Rv (cN.ok _ h2) _ h1;rw[St.ok_eq]at this;exact this.1
 have last:∀(op n:Int) (nm:List UInt8) (ks:C) (kk:List Ex) (H14:Heap) (e14:Env) (k14:Nat),(k<k14∧k14≤k+15000000)→Kn H H14 [(R.l,R.o k14)] (([(x2,.st [.sl true 3 []]),(x3,.st [.aw z 3 0 us.length])]++obU z us)++(x6,.st [.int .i64 op,.int .i64 n,.str nm,ks])::[])→ks.ah=false→
   (∀(H:Heap) (S:Nat→Bool),FrzC H S ks (.sl false 4 (Ql kk)))→Qw kk≤10→
   lk 2 e14=.c (.ptr x2 0)→lk 3 e14=.c (.ptr x3 0)→lk 5 e14=.c (.ep (.aw y 5 0 u.os.length) 5 j 0)→lk 6 e14=.c (.ptr x6 0)→Q6 prog LU (Qq Ak (unK H K)) e14 H14:=by
  intro op n nm ks kk H14 e14 k14 oV kn hko mW nG f2 f3 f5 f6;have g6:H14 x6=.st [.int .i64 op,.int .i64 n,.str nm,ks]:=kn.getM;have kz:=Kn.frzN (Lg:=[]) (B:=([(x2,.st [.sl true 3 []]),(x3,.st [.aw z 3 0 us.length])]++obU z us)++(x6,.st [.int .i64 op,.int .i64 n,.str nm,ks])::[]) (by rw[J4];exact kn);have kz:=kz.stM (o':=.st [.int .i64 op,.int .i64 n,.str nm,.sl false 4 (Ql kk)]) rfl;have fQ:=(E7 H14 (fun m=>(([]:List (Nat×Obj)).map Prod.fst).contains m)).set (l:=x6) (o:=.st [.int .i64 op,.int .i64 n,.str nm,.sl false 4 (Ql kk)]) rfl (by
   rw[g6];exact FrzKL.st (.same (.same (.same (.cons hko (mW _ _) .nil)))))
  obtain⟨H15,s5⟩:∃H15,((H14.frz (fun m=>(([]:List (Nat×Obj)).map Prod.fst).contains m)).set x6 (.st [.int .i64 op,.int .i64 n,.str nm,.sl false 4 (Ql kk)]))=H15:=⟨_,rfl⟩;rw[s5]at kz fQ;refine Qz (Qz ?_);refine c_gh (Hz _ (CS ?_) fQ) (e':=[(2,.c (.ptr x2 0)),(3,.c (.ptr x3 0)),(5,.c (.ep (.aw y 5 0 u.os.length) 5 j 0)),(6,.c (.ptr x6 0))]) ?_
  ·intro p hp;simp only[Jm,Jaj,or_false]at hp;rcases hp with rfl|rfl|rfl|rfl
   ·simp only[f2];exact .c _ _ (.same _ rfl)
   ·simp only[f3];exact .c _ _ (.same _ rfl)
   ·simp only[f5];exact .c _ _ (.same _ rfl)
   ·simp only[f6];exact .c _ _ (.same _ rfl)
  have gy:H15 y=.vec 5 (u.os.map OSt.row):=kz.getL (Jc _ (Ja _ ir));have g6:H15 x6=.st [.int .i64 op,.int .i64 n,.str nm,.sl false 4 (Ql kk)]:=kz.getM;have g2:=kz.l 0 rfl;have g3:=kz.l 1 rfl;refine Qa ?_;simp only[go_sem,gy,hj,ef,ce,dx,Je,Jr,Jl];refine Qf (Qb rfl (fun hc=>?_) (fun hc=>?_))
  ·obtain⟨ya,j5,li⟩:∃ya,o.ac=.aw ya 4 0 o.x.args.length∧o.al=[(ya,.vec 4 (Ql o.x.args))]:=by
    rcases (show Gr o.al 4 (Ql o.x.args) o.ac from jL)with ⟨_,h,_⟩|⟨y,h1,h2⟩
    ·have:=congrArg List.length h;rw[Qh,Jg]at this;omega
    ·exact⟨y,by rw[h1,Qh],h2⟩
   have hA:obU z us=(us1.flatMap OFn.lg++(u.pl++o1.flatMap OSt.al))++(ya,.vec 4 (Ql o.x.args))::((o2.flatMap OSt.al++u.bl)++(us2.flatMap OFn.lg++[(z,.vec 3 (us1.map OFn.row++u.row::us2.map OFn.row))])):=by
    conv=>lhs;rw[eU]
    rw[G6,DK u o1 o2 o fN,li];simp only[Jh,Jt,Ju]
   have gya:H15 ya=.vec 4 (Ql o.x.args):=kz.getL (Jc _ (Ja _ (by rw[hA];simp)));have de:=Qs o.x.args 0 ez;rw[Ex.aa]at de;rw[j5]at ce;refine Bf ?_;simp only[go_sem,gy,g6,gya,hj,ef,ce,j5,ez,de,Qh,Je,Jay,Jr,Jl];intro H16 gI;try simp only[go_sem,AE.X.next]
   obtain⟨x',fg⟩:∃x':St,x'=.mk o.x.op o.x.name (o.x.args.set 0 (.mk op n nm kk)) o.x.body o.x.els:=⟨_,rfl⟩;obtain⟨o',gK⟩:∃o':OSt,o'=⟨x',o.ac,[(ya,.vec 4 (Ql x'.args))]⟩:=⟨_,rfl⟩;obtain⟨u',cU⟩:∃u':OFn,u'=⟨⟨u.f.name,u.f.params,o1.map OSt.x++x'::o2.map OSt.x⟩,u.pc,u.pl,o1++o'::o2,u.bc,u.bl⟩:=⟨_,rfl⟩;have iy:Ql x'.args=(Ql o.x.args).set 0 [.int .i64 op,.int .i64 n,.str nm,.sl false 4 (Ql kk)]:=by
    rw[fg];simp only[St.args,EK,Jal,Ex.aa,Ex.op,Ex.n,Ex.name,Ex.kids]
   have dq:o'.row=o.row:=by rw[gK,fg];rfl
   have hY:o'.ok:=by
    rw[gK];show Gr _ 4 (Ql x'.args) o.ac;rw[j5];exact Gr.mk (n:=o.x.args.length) ya 4 (Ql x'.args) (by rw[iy,List.length_set,Qh])
   have i9:u'.ok:=by
    rw[cU];refine⟨cw.p,fun v hv=>?_,?_,by rw[Ji,J0,gK]⟩
    ·rcases Jd.1 hv with hv|hv
     ·exact cn v (Jc _ hv)
     ·rcases Jm.1 hv with rfl|hv
      ·exact hY
      ·exact cn v (Ja _ hv)
    ·have hb:=cw.b;rw[fN]at hb;show Gr u.bl 5 ((o1++o'::o2).map OSt.row) u.bc;rw[Ji,J0,dq];rw[Ji,J0]at hb;exact hb
   have pH:obU z (us1++u'::us2)=(us1.flatMap OFn.lg++(u.pl++o1.flatMap OSt.al))++(ya,.vec 4 (Ql x'.args))::((o2.flatMap OSt.al++u.bl)++(us2.flatMap OFn.lg++[(z,.vec 3 (us1.map OFn.row++u.row::us2.map OFn.row))])):=by
    rw[G6,DK u' o1 o2 o' Zcn,gK,cU];simp only[Jh,Jt,Ju,OFn.row]
   have kz2:Kn H H16 [(R.l,R.o k14)] (([(x2,.st [.sl true 3 []]),(x3,.st [.aw z 3 0 us.length])]++obU z (us1++u'::us2))++(x6,.st [.int .i64 op,.int .i64 n,.str nm,.sl false 4 (Ql kk)])::[]):=by
    rw[pH,iy];rw[hA]at kz;exact kz.stMid gI
   have g2:=kz2.l 0 rfl;have g3:=kz2.l 1 rfl;refine Zi g2 g3 ?_;intro H17 kH;refine Qi ?_;refine fin (us1++u'::us2) _ _ _ k14 (mL u' i9) (jQ u') (mB u' Zcn ?_) oV kz2 ZV (fun p hp=>Jc _ (Ja _ hp)) kH;have he:=Q20 o.x.args 0 (.mk op n nm kk);have gW:=o.x.size_eq;rw[cU];simp only[Cf,Qj];rw[fg];simp only[St.size,Ex.size]at he⊢;omega
  ·refine Zf ?_
   refine Zi g2 g3 ?_;intro H17 kH;refine Qi ?_;exact fin us _ _ _ k14 jy rfl (gS us eS) oV kz ZV (fun p hp=>Jc _ (Ja _ hp)) kH
 have gz:H14 z=.vec 3 (us.map OFn.row):=kn.getL ZaJ;have gy:H14 y=.vec 5 (u.os.map OSt.row):=kn.getL (Jc _ (Ja _ ir));have g2:=kn.l 0 rfl;have g3:=kn.l 1 rfl;refine Qf (Qg ?_);refine Za ?_;refine Qb rfl (fun cq=>?_) (fun cq=>?_)
 ·refine Zp ?_;refine of_c (ss:=[[102],[103],[109],[113]]) (kn.e 0 rfl) ZT ZV fun w2 H15 hw2 hu=>?_;have kn:Kn H H15 [(R.l,R.o (k2+1+1+1+1+1+1+1))] (([(x2,.st [.sl true 3 []]),(x3,.st [.aw z 3 0 us.length])]++obU z us)++(x6,.st [.int .i64 2,.int .i64 0,.str w,.sl true 4 []])::[]):=kn.ak 0 rfl hu (R.am _);have g6:H15 x6=.st [.int .i64 2,.int .i64 0,.str w,.sl true 4 []]:=kn.getM;simp only[go_sem,MU,g6];intro H16 gI;have kn:=kn.stM gI;try simp only[go_sem,AE.X.next]
  exact last 13 0 w2 _ [.mk 1 1 [] []] _ _ _ ZT kn rfl (Gq 1) (by simp[Qw,Ex.size]) rfl rfl rfl rfl
 refine Za ?_;refine Qb rfl (fun fA=>?_) (fun fA=>?_)
 ·refine Qz (Qa ?_);simp only[go_sem,gy,hj,ef,ce,dx,Je,Jr,Jl];refine Qf (Qb rfl (fun hcn=>?_) (fun hcn=>?_))
  ·refine Zp ?_;refine of_c (ss:=[[97],[98],[122,122],[99],[100]]) (kn.e 0 rfl) ZT ZV fun w2 H15 hw2 hu=>?_;have kn:Kn H H15 [(R.l,R.o (k2+1+1+1+1+1+1+1))] (([(x2,.st [.sl true 3 []]),(x3,.st [.aw z 3 0 us.length])]++obU z us)++(x6,.st [.int .i64 2,.int .i64 0,.str w,.sl true 4 []])::[]):=kn.ak 0 rfl hu (R.am _);have gy:H15 y=.vec 5 (u.os.map OSt.row):=kn.getL (Jc _ (Ja _ ir));simp only[go_sem,MT,gy,hj,ef,ce,dx,Je,Jr,Jl];intro H16 gI;try simp only[go_sem,AE.X.next]
   obtain⟨x',fg⟩:∃x':St,x'=.mk o.x.op w2 o.x.args o.x.body o.x.els:=⟨_,rfl⟩;obtain⟨o',gK⟩:∃o':OSt,o'=⟨x',o.ac,o.al⟩:=⟨_,rfl⟩;obtain⟨u',cU⟩:∃u':OFn,u'=⟨⟨u.f.name,u.f.params,o1.map OSt.x++x'::o2.map OSt.x⟩,u.pc,u.pl,o1++o'::o2,u.bc,[(y,.vec 5 ((o1++o'::o2).map OSt.row))]⟩:=⟨_,rfl⟩;have dq:o'.row=[.int .i64 o.x.op,.str w2,o.ac,.sl false 5 (Qk o.x.body),.sl false 5 (Qk o.x.els)]:=by rw[gK,fg];rfl
   have hY:o'.ok:=by
    rw[gK,fg];exact jL
   have nz:(u.os.map OSt.row).set j [.int .i64 o.x.op,.str w2,o.ac,.sl false 5 (Qk o.x.body),.sl false 5 (Qk o.x.els)]=(o1++o'::o2).map OSt.row:=by
    rw[←dq,←Jal,fN,G5 o1 o2 o o' rL]
   have i9:u'.ok:=by
    rw[cU];refine⟨cw.p,fun v hv=>?_,?_,by rw[Ji,J0,gK]⟩
    ·rcases Jd.1 hv with hv|hv
     ·exact cn v (Jc _ hv)
     ·rcases Jm.1 hv with rfl|hv
      ·exact hY
      ·exact cn v (Ja _ hv)
    ·show Gr [(y,.vec 5 ((o1++o'::o2).map OSt.row))] 5 ((o1++o'::o2).map OSt.row) u.bc;rw[nq];exact Gr.mk (n:=u.os.length) y 5 _ (by rw[fN];simp)
   have hA:obU z us=(us1.flatMap OFn.lg++(u.pl++u.os.flatMap OSt.al))++(y,.vec 5 (u.os.map OSt.row))::(us2.flatMap OFn.lg++[(z,.vec 3 (us1.map OFn.row++u.row::us2.map OFn.row))]):=by
    conv=>lhs;rw[eU]
    rw[G6,OFn.lg,fD];simp only[Jh,Jt,Ju]
   have li:(o1++o'::o2).flatMap OSt.al=u.os.flatMap OSt.al:=by
    rw[fN,gK];simp
   have pH:obU z (us1++u'::us2)=(us1.flatMap OFn.lg++(u.pl++u.os.flatMap OSt.al))++(y,.vec 5 ((o1++o'::o2).map OSt.row))::(us2.flatMap OFn.lg++[(z,.vec 3 (us1.map OFn.row++u.row::us2.map OFn.row))]):=by
    rw[G6,cU];simp only[OFn.lg,OFn.row,li,Jh,Jt,Ju]
   have kz2:Kn H H16 [(R.l,R.o (k2+1+1+1+1+1+1+1))] (([(x2,.st [.sl true 3 []]),(x3,.st [.aw z 3 0 us.length])]++obU z (us1++u'::us2))++(x6,.st [.int .i64 2,.int .i64 0,.str w,.sl true 4 []])::[]):=by
    rw[pH,←nz];rw[hA]at kn;exact kn.stMid gI
   have g2:=kz2.l 0 rfl;have g3:=kz2.l 1 rfl;refine Zi g2 g3 ?_;intro H17 kH;refine Zv ?_
   refine fin (us1++u'::us2) _ _ _ _ (mL u' i9) (jQ u') (mB u' Zcn ?_) ZT kz2 ZV (fun p hp=>Jc _ (Ja _ hp)) kH;have gW:=o.x.size_eq;rw[cU];simp only[Cf,Qj];rw[fg];simp only[St.size];omega
  ·refine Zf ?_
   refine Zi g2 g3 ?_;intro H17 kH;refine Zv ?_
   exact fin us _ _ _ _ jy rfl (gS us eS) ZT kn ZV (fun p hp=>Jc _ (Ja _ hp)) kH
 refine Za ?_;refine Qb rfl (fun au=>?_) (fun au=>?_)
 ·have cE:sliC none (some 1) u.bc=.aw y 5 0 1:=by rw[nq];simp[sliC]
  have eL:aT H14 u.bc=True:=by rw[nq];simp[aT,gy]
  have iA:u.bc.aN=5:=by rw[nq];rfl
  have h1m:((1:Int)≤(u.os.length:Int))=True:=eq_true ZT;refine An ?_;simp only[go_sem,gz,hi,aY,jJ,gg,db,eL,d9,iA,cE,h1m,bnds,Option.map_none,Option.map_some,Option.getD_none,Jax,Je,Jr,Jl];have tG:(u.os.take 1).map OSt.x=u.f.body.take 1:=by rw[←cw.x,Jaq]
  have kj:(u.os.map OSt.row).take 1=(u.os.take 1).map OSt.row:=by rw[Jaq]
  have sO:=GV u.f.body 1;have mo:Slc H14 5 ((u.os.take 1).map OSt.row) (.aw y 5 0 1):=by
   rw[←kj];refine⟨by simp only[aT,gy,Je];exact⟨trivial,ZT⟩,rfl,by simp[rowsOf,gy],?_⟩;simp only[PC,J2,Je];omega
  have pQ:SRd H14 ((u.os.take 1).map OSt.row) ((u.os.take 1).map OSt.x):=SRd.os (fun v hv=>cw.o v (Jao hv)) fun p hp=>by
   obtain⟨v,hv,hp⟩:=Jn.1 hp;exact kn.getL (Jc _ (Ja _ (Jc _ (Jn.2 ⟨u,dV,Ja _ (Jc _ (Jn.2 ⟨v,Jao hv,hp⟩))⟩))))
  refine⟨⟨ZT,ZT⟩,?_⟩;refine Id (Qj ((u.os.take 1).map OSt.x)) ((u.os.take 1).map OSt.x) _ (.aw y 5 0 1) H14 _ (Jl _) (by rw[tG];omega) rfl mo pQ fun os2 t2 Lb H15 bB gp i6 k2n=>?_;have oP:os2.length≤1:=by
   have:=congrArg List.length bB;rw[Je,Je,J2]at this;omega
  have aW:=i6.ah;have hA:obU z us=(us1.flatMap OFn.lg++(u.pl++u.os.flatMap OSt.al))++(y,.vec 5 (u.os.map OSt.row))::(us2.flatMap OFn.lg++[(z,.vec 3 (us.map OFn.row))]):=by
   conv=>lhs;rw[eU]
   rw[G6,OFn.lg,fD];have:us.map OFn.row=us1.map OFn.row++u.row::us2.map OFn.row:=Zb8
   rw[this];simp only[Jh,Jt,Ju]
  have kn:=kn.addNew k2n;have gz:H15 z=.vec 3 (us.map OFn.row):=kn.getL ZaJ;rw[hA]at kn;have kn:Kn H H15 [(R.l,R.o (k2+1+1+1+1+1+1))] ((([(x2,.st [.sl true 3 []]),(x3,.st [.aw z 3 0 us.length])]++(us1.flatMap OFn.lg++(u.pl++u.os.flatMap OSt.al)))++(us2.flatMap OFn.lg++(z,.vec 3 (us.map OFn.row))::((x6,.st [.int .i64 2,.int .i64 0,.str w,.sl true 4 []])::(os2.flatMap OSt.al++Lb))))++u.bl):=by
   rw[fD];refine Kn.lastM ?_;simpa only[Jh,Jt,Ju]using kn
  simp only[go_sem,MR,gz,hi,aY,jJ,gg,db,Je,Jr,Jl];have hubl:u.os.length≤Qj u.f.body:=by
   have:=BM u.f.body;rw[←cw.x,Je]at this;rw[←cw.x];exact this
  refine kn.aQ cw.b (Gr.slc2 i6 k2n) (fun r hr=>by
   obtain⟨v,hv,rfl⟩:=J1.1 hr;exact OSt.ai (gp v hv)) (by simp only[Je,LIM];omega) fun t3 L3 H16 nH qI kn=>?_
  have gz:H16 z=.vec 3 (us.map OFn.row):=kn.getL ZV;simp only[go_sem,MS,gz,hi,aY,jJ,gg,qI,Je,Jr,Jl];intro H17 kH;try simp only[go_sem,AE.X.next]
  obtain⟨u',cU⟩:∃u':OFn,u'=⟨⟨u.f.name,u.f.params,u.f.body++u.f.body.take 1⟩,u.pc,u.pl,u.os++os2,t3,L3⟩:=⟨_,rfl⟩;have i9:u'.ok:=by
   rw[cU];refine⟨cw.p,fun v hv=>?_,?_,by rw[Ji,cw.x,bB,tG]⟩
   ·rcases Jd.1 hv with hv|hv
    ·exact cw.o v hv
    ·exact gp v hv
   ·show Gr L3 5 ((u.os++os2).map OSt.row) t3;rw[Ji];exact nH
  have nz:(us.map OFn.row).set i [.str u.f.name,u.pc,t3]=(us1++u'::us2).map OFn.row:=by
   have:[.str u.f.name,u.pc,t3]=u'.row:=by rw[cU];rfl
   rw[this,←Jal]
   conv=>lhs;rw[eU,G5 us1 us2 u u' iM]
  rw[nz]at kH;have kn:Kn H H16 [(R.l,R.o (k2+1+1+1+1+1+1))] (([(x2,.st [.sl true 3 []]),(x3,.st [.aw z 3 0 us.length])]++((us1.flatMap OFn.lg++(u.pl++u.os.flatMap OSt.al))++us2.flatMap OFn.lg))++(z,.vec 3 (us.map OFn.row))::((x6,.st [.int .i64 2,.int .i64 0,.str w,.sl true 4 []])::((os2.flatMap OSt.al++Lb)++L3))):=by
   simpa only[Jh,Jt,Ju]using kn
  have kn:=kn.stM kH;have g2:=kn.l 0 rfl;have g3:=kn.l 1 rfl;refine Zi g2 g3 ?_;intro H18 h18;refine Zv ?_
  refine fin (us1++u'::us2) _ _ _ _ (mL u' i9) (jQ u') (mB u' Zcn ?_) ZT kn ZV (fun p hp=>?_) h18
  ·rw[cU];simp only[Cf];omega
  ·rcases Jd.1 hp with hp|hp
   ·obtain⟨v,hv,ou⟩:=Jn.1 hp;rcases Jd.1 hv with hv|hv
    ·have:p∈us1.flatMap OFn.lg:=Jn.2 ⟨v,hv,ou⟩;simp[this]
    ·rcases Jm.1 hv with rfl|hv
     ·rw[cU]at ou;simp only[OFn.lg,Jab,Jd]at ou;rcases ou with h|(h|h)|h
      ·simp only[Jd,Jm,h,true_or,or_true]
      ·simp only[Jd,Jm,h,true_or,or_true]
      ·simp only[Jd,Jm,h,true_or,or_true]
      ·simp only[Jd,Jm,h,true_or,or_true]
     ·have:p∈us2.flatMap OFn.lg:=Jn.2 ⟨v,hv,ou⟩;simp only[Jd,Jm,this,true_or,or_true]
   ·simp only[Jb]at hp;subst hp;simp
 ·refine Zf ?_
  exact last 2 0 w _ [] _ _ _ ZT kn rfl (fun H S=>FrzR.nil.sl) Zcf rfl rfl rfl rfl
end Go.AE.Y
namespace Go.AE.Y
attribute [local go_sem] cond_true cond_false Bool.not_true Bool.not_false
open Go.Proofs.Tryz
variable {H H0 F:Heap}{K:V→Heap→Prop}{E B Lg:List (Nat×Obj)}{fns:List Fn}
theorem ScOk.upd {H':Heap}{val:Nat→Int}:∀{ls:List Nat} {v:Vars},ScOk val H ls v→(∀m,H m≠.none→H' m=H m)→ScOk val H' ls v
 |[],[],_,_=>trivial
 |_::_,_::_,⟨⟨n,es,h1,h2⟩,h3⟩,hu=>⟨⟨n,es,by rw[hu _ (by rw[h1];nofun),h1],h2⟩,h3.upd hu⟩
end Go.AE.Y
namespace Go.AE.Y
def trI (b:Prop) [Decidable b]:Int:=if b then 1 else 0
def arR (op a b:Int):Option Int:=
 if op=3 then some ((a+b) % 256)else if op=4 then some ((a-b+256) % 256)else if op=5 then some (a * b % 256)
 else if op=6 then (if b=0 then none else some (a / b))else if op=7 then (if b=0 then none else some (a % b))
 else if op=8 then some (trI (a<b))else if op=9 then some (trI (a=b))else some (trI (a=0))
def byI (v:Int):Prop:=0≤v∧v≤255
open Go.Proofs.Tryz
def Qmj:=dY 0x1022383103f03110f3833120f03110f2833120f002f05a0222340f02310f3822320f02310f2822320f002f05a0221540f01510f3811520f01510f2811520f000a14f ES
def Q78:=dZ 0x741102238d01302012020551 .skip Qmj
def Qafp:=dZ 0x902202f019190231 Q78
theorem Qaff:mFn prog Qpn 2 31 Qafp Ab=true:=ZW
def Vj:=dY 0xd80049f2f03a01380f0c3
def Qapz:=dW 0x741108f081300f0001245005400571 [] [Vj] [.e (some 11) (some (9,true)) (.call VE [.t 10,.k (.c (.fn Vx []))])]
def Qay7:=dZ 0x900202f00411 Qapz
theorem Qax0:mFn prog Q64 2 14 Qay7 Ab=true:=ZW
def Qaao:=dZ 0x721101a4d200321 .skip SK
def Qakk:=dZ 0x90102f00211 Qaao
theorem Qai9:mFn prog Vx 1 6 Qakk Ac=true:=ZW
def Qayz:=dZ 0x1df0500060f901d9f076f98241f2081d3
def Qay0:=dZ 0x8706202f00f00621213
def Qay1:=dZ 0x8706203f06a0069f01942801802451233
def Qay2:=dZ 0x706203f09a0069f01a42801802751
def Qay3:=dZ 0x190923f0130066f02408022212 Qay1 [] Qay2
def Q8b:=dY 0x3f00b0062
def Q8c:=dY 0x3f07b0062
def TR:=dY 0x3f01c0062
def Qay4:=dZ 0x87062106142f2f02a0f037b40f287b00f000f0341808803a81383 .skip TR
def Qay5:=dZ 0x938f501409b0389f0a6f982439217062103142f01242801808803351313 Qay4 Q8c
def Qavn:=dZ 0x931f0501502b0319f096f982432217062103142f01442801808802c512a3 Qay5 Q8b
def Q79:=dW 0x292af050150ba02a9f086f98242b21190921f000400f024280202121d3 [Qay0,Qay3,Qavn] []
def Qavo:=dZ 0x19091df0500060e901d9f066f98241e212706203f0c90069f01009f0a401842801801961173 Qayz [] Q79
def Qavp:=dZ 0x9d0500060890179f056f98241821706203f0690069f01009f0a401009f00401142801801271103 Qavo
def Qavq:=dZ 0x960500060190109f046f7241121706203f0f80069f01009f0a401042801800c610a3 Qavp
def Qavr:=dZ 0x900500060b800a9f036f1240b21004 Qavq
def TX:=dY 0x3f05c0062
def Q8a:=dZ 0x7062102142f0f0241808804241 .skip TX
def Qavs:=dZ 0x1909050005008009112 Qavr [] Q8a
def Qavt:=dW 0x950004008f0811 [Qavs] [] [fI 8 (.mv (.k (.c (.fn SH []))))]
def Qba9:=dZ 0x9000302f00f00621 Qavt
abbrev B4:List RS:=[.tmp 6,.tmp 7]
theorem Hw:mFn prog ED 3 70 Qba9 B4=true:=ZW
theorem Qauv:mFn prog SH 1 4 IC Ac=true:=ZW
end Go.AE.Y
namespace Go.AE.Y
attribute [local go_sem] cond_true cond_false Bool.not_true Bool.not_false
open Go.Proofs.Tryz
variable {H:Heap}{K:V→Heap→Prop}
theorem C1 {b:Bool}(hK:K (.c (.int .i64 (trI (b=true)))) H):Qm prog SH [.c (.bool b)] H K:=by
 refine Qc Aa Qauv ?_;refine Za ?_;refine Qz (Qa ?_);simp only[go_sem];refine Qf (Qb rfl ?_ ?_)
 ·intro hc;subst hc;refine Za ?_;refine Zs ?_;exact hK
 ·intro hc;subst hc;refine Zc ?_
  refine Za ?_;refine Zs ?_;exact hK
theorem C2 {p:Prop} [Decidable p]:trI (decide p=true)=trI p:=by simp[trI]
def arP (op a b:Int):Int×Bool:=match arR op a b with
 |some v=>(v,true)
 |none=>(0,false)
theorem B8 {a b:Int}(h:0≤a):a.tmod b=a % b:=Int.tmod_eq_emod_of_nonneg h
theorem Ek {a b:Int}(h:0≤a):a.tdiv b=a / b:=Int.tdiv_eq_ediv_of_nonneg h
theorem Kh {op a b:Int}(ha:byI a)(hb:byI b)(h3:3≤op)(h9:op≤9)(hK:K (.tup [.c (.int .i64 (arP op a b).1),.c (.bool (arP op a b).2)]) H) :
  Qm prog ED [.c (.int .i64 op),.c (.int .i64 a),.c (.int .i64 b)] H K:=by
 obtain⟨a0,a1⟩:=ha;obtain⟨b0,b1⟩:=hb;refine Qc Aa Hw ?_;have retf:∀(v:Int) (t:Bool) (e:Env),arP op a b=(v,t)→lk 6 e=.c (.int .i64 v)→lk 7 e=.c (.bool t)→Qq B4 K .ret e H:=by
  intro v t e h1 h2 h3;simp only[go_sem,Qq,Q0,RS.op,h2,h3];rw[h1]at hK;exact hK
 refine Za ?_;refine Za ?_;refine Qz (Qa ?_);simp only[go_sem];refine Qf (Qg ?_);refine Za ?_;refine Qb rfl ?_ ?_
 ·intro hc;have ho:op=3:=of_decide_eq_true hc;subst ho;refine Za ?_;refine⟨Qv,ZT,?_⟩;refine Zn ?_;refine retf _ _ _ ?_ rfl rfl;rw[B8 ZT];rfl
 intro hc;have n3:=of_decide_eq_false hc;refine Za ?_;refine Qb rfl ?_ ?_
 ·intro hc;have ho:op=4:=of_decide_eq_true hc;subst ho;refine Za ?_;refine⟨Qv,Qv,ZT,?_⟩;refine Zn ?_;refine retf _ _ _ ?_ rfl rfl;rw[B8 ZT];rfl
 intro hc;have n4:=of_decide_eq_false hc;refine Za ?_;refine Qb rfl ?_ ?_
 ·intro hc;have ho:op=5:=of_decide_eq_true hc;subst ho;have cK:0≤a * b:=Int.mul_nonneg a0 b0;have su:a * b≤255 * 255:=Int.mul_le_mul a1 b1 b0 ZT;refine Za ?_;refine⟨Qv,ZT,?_⟩;refine Zn ?_;refine retf _ _ _ ?_ rfl rfl;rw[B8 cK];rfl
 intro hc;have n5:=of_decide_eq_false hc;refine Qz (Qa ?_);simp only[go_sem];have gH:∀(t:Bool),(t=decide (op=6∨op=7))→Q6 prog Q79 (X.inBlock 0 (X.sq prog Q8a (Qq B4 K))) [(0,.c (.int .i64 op)),(1,.c (.int .i64 a)),(2,.c (.int .i64 b)),(8,.c (.fn SH [])),(9,.c (.int .i64 op)),(29,.c (.bool t))] H:=by
  intro t ht;refine Qb rfl ?_ ?_
  ·intro h;have gH:op=6∨op=7:=by rw[ht]at h;exact of_decide_eq_true h
   refine Qz (Qa ?_);simp only[go_sem];refine Qf (Qb rfl ?_ ?_)
   ·intro hc;have hb:b=0:=of_decide_eq_true hc;subst hb;refine Za ?_;refine Zn ?_;refine retf _ _ _ ?_ rfl rfl;rcases gH with rfl|rfl <;> rfl
   intro hc;have hb:¬b=0:=of_decide_eq_false hc;refine Zc ?_
   refine Qz (Qa ?_);simp only[go_sem];refine Qf (Qb rfl ?_ ?_)
   ·intro hc;have ho:op=6:=of_decide_eq_true hc;subst ho;have hd1:0≤a / b:=Int.ediv_nonneg a0 b0;have eY:a / b≤a:=Int.ediv_le_self _ a0;refine Za ?_;refine⟨⟨hb,by rw[Ek a0];exact Qv⟩,?_⟩;refine Zn ?_;refine retf _ _ _ ?_ rfl rfl;rw[Ek a0,arP,arR];simp[hb]
   ·intro hc;have ho:op=7:=(by have:=of_decide_eq_false hc;omega);subst ho;refine Zc ?_
    refine Za ?_;refine⟨hb,?_⟩;refine Zn ?_;refine retf _ _ _ ?_ rfl rfl;rw[B8 a0,arP,arR];simp[hb]
  ·intro h;have gH:¬(op=6∨op=7):=by rw[ht]at h;exact of_decide_eq_false h
   refine Za ?_;refine Qb rfl ?_ ?_
   ·intro hc;have ho:op=8:=of_decide_eq_true hc;subst ho;refine Za ?_;refine C1 ?_;rw[C2];simp only[go_sem,Q8b];refine Zn ?_;exact retf _ _ _ rfl rfl rfl
   intro hc;have n8:=of_decide_eq_false hc;have ho:op=9:=ZT
   subst ho;refine Za ?_;refine Qb rfl ?_ (fun h=>Zaa);intro _;refine Za ?_;refine C1 ?_;rw[C2];simp only[go_sem,Q8c];refine Zn ?_;exact retf _ _ _ rfl rfl rfl
 refine Qf (Qb rfl ?_ ?_)
 ·intro hc;have ho:op=6:=of_decide_eq_true hc;refine Ze ?_;exact gH _ (by rw[hc];simp[ho])
 ·intro hc;have n6:=of_decide_eq_false hc;refine Zp ?_;exact gH _ (by simp[n6])
theorem Qa92 {a:Int}(hK:K (.tup [.c (.int .i64 (trI (a=0))),.c (.bool true)]) H) :
  Qm prog ED [.c (.int .i64 11),.c (.int .i64 a),.c (.int .i64 0)] H K:=by
 refine Qc Aa Hw ?_;refine Za ?_;refine Za ?_;refine Qz (Qa ?_);simp only[go_sem];refine Qf (Qg ?_);refine Za ?_;refine Qb rfl (fun h=>Zaa) fun _=>?_;refine Za ?_;refine Qb rfl (fun h=>Zaa) fun _=>?_;refine Za ?_;refine Qb rfl (fun h=>Zaa) fun _=>?_;refine Qz (Qa ?_);simp only[go_sem];refine Qf (Qb rfl (fun h=>Zaa) fun _=>?_);refine Zp ?_;refine Qb rfl (fun h=>Zaa) fun _=>?_;refine Za ?_;refine Qb rfl (fun h=>Zaa) fun _=>?_;refine Za ?_;refine Qb rfl (fun h=>Zaa) fun _=>?_;refine Za ?_;refine Qb rfl (fun h=>Zaa) fun _=>?_;refine Ze ?_;refine Za ?_;refine C1 ?_;rw[C2];simp only[go_sem,TX];refine ZS ?_;exact hK
theorem Qa91 {b:Int}(hK:K (.tup [.c (.int .i64 (trI (b≠0))),.c (.bool true)]) H) :
  Qm prog ED [.c (.int .i64 10),.c (.int .i64 1),.c (.int .i64 b)] H K:=by
 refine Qc Aa Hw ?_;refine Za ?_;refine Za ?_;refine Qz (Qa ?_);simp only[go_sem];refine Qf (Qg ?_);refine Za ?_;refine Qb rfl (fun h=>Zaa) fun _=>?_;refine Za ?_;refine Qb rfl (fun h=>Zaa) fun _=>?_;refine Za ?_;refine Qb rfl (fun h=>Zaa) fun _=>?_;refine Qz (Qa ?_);simp only[go_sem];refine Qf (Qb rfl (fun h=>Zaa) fun _=>?_);refine Zp ?_;refine Qb rfl (fun h=>Zaa) fun _=>?_;refine Za ?_;refine Qb rfl (fun h=>Zaa) fun _=>?_;refine Za ?_;refine Qb rfl (fun h=>Zaa) fun _=>?_;refine Za ?_;refine Qb rfl (fun _=>?_) (fun h=>Zaa);refine Za ?_;refine C1 ?_;try rw[C2]
 simp only[go_sem,TR];refine ZS ?_;have e:trI ((bif !decide ((1:Int)=0)then !decide (b=0)else false)=true)=trI (b≠0):=by simp[trI]
 first|exact hK|(rw[e];exact hK)
end Go.AE.Y
namespace Go.AE.Y
open Go.Proofs.Tryz
def Qahj:=dZ 0x872103f00211123
def Qqw:=dY 0x49381e001
def Qqx:=dY 83503542321 Qqw
def Qqz:=dY 0x189481e001 Sb
def Qq0:=dY 0x137132f049f31b20b189f790154 Qqz
def Qq1:=dY 0xe90071
def Qq2:=dY 0x1d9681e001 Qq1
def Qq3:=dY 0x137132f069f31b20b1d9fc901a4 Qq2
def V2:=dY 0x3f2a05080f585000f0003f4a04480f266
def Qom:=dY 0x3b0029f2f03a332
def Qab1:=dZ 0x872110120b5f03f6815f60f4815f60f000121f1f7805802c712b3 .skip Qom
def Qon:=dY 9109649
def Qoo:=dY 0x17b881e001 Qon
def Qop:=dY 0x137132f089f31b20b379f6b0344 Qoo
def Qoq:=dY 0xf0053b2
def Qor:=dY 6029521
def Qos:=dY 89330606081 Qor
def Qot:=dY 0x1170017432f0c9f41b30b449f3c0404 Qos
def Qou:=dY 0xbc00f1
def Qov:=dY 0x1ace84e001 Qou
def Qow:=dY 0x1170017432f0e9f41b30b4a9f9c0464 Qov
def V7:=dY 0x2f04a09f80f532
def Qab2:=dZ 0x872102f00211543
def Qab3:=dZ 0x954f003af0303810120e9f03fe849f60fc849f60f00036f03401c8124c71 Qab2 V7
def Qab4:=dZ 0x9003af120303910fa09f0130ddb8048164731 Qab3 Qow
def Qab5:=dZ 0x9003af010303910fa09f0130ddb8038164131 Qab4 Qot
def Qab6:=dZ 0x3af0303705d03c9f1fcb045520
def Qab7:=dZ 0x1909003af1030380fb00b9f0113133e310142 Qab5 [] Qab6
def Q8v:=dZ 0x9003db0003af03038010443d11 Qab7
def Qox:=dY 0xfd0029f2f02a5f2
def Qoy:=dY 0x10110b903f481b960f002f03a5b4 Qox
def Qab8:=dZ 0x72110120faf03f481af60f881af60f009805651 .skip Qoy
def Qab9:=dZ 0x19095004003af030371010cd381639212 Q8v Qoq Qab8
def Qaca:=dZ 0x90303410109d48163521 Qab9 Qop
def Qacb:=dZ 0x19092bf00003610120b4403f6814460f4814460f000131f1f7805801f712 Qab1 V2 Qaca
def Qacc:=dZ 0x90000351010ad38161b21 Qacb Qq3
def Qacd:=dZ 0x9003310109d38161621 Qacc Qq0
def Qace:=dZ 0x93110108d0801321 Qacd Qqx
def Qacf:=dW 0x190912f02008f0508010312 [Qahj,Qace] [] [cJ 18 .gtr 17 1048576]
def Qars:=dZ 0x90102f00211 Qacf
theorem Qaps:mFn prog Qvm 1 96 Qars Ac=true:=ZW
def Qp8:=dY 32849
def Qafk:=dZ 0x8721014f00211053
def Qp9:=dY 589857
def Qafl:=dZ 0x72110134d050101204331f01405016020140206b1 .skip Qp9
def Qafm:=dZ 0x19093121012cd11603212 Qafk Qp8 Qafl
def Qapw:=dZ 0x911014f0090121 Qafm
theorem Qapm:mFn prog Qve 1 17 Qapw Ac=true:=ZW
def Qxa:=dY 0x98583e001
def Qxb:=dY 0xf80031
def Qxc:=dY 0x104122f011c0e2 Qxb
def Qaqr:=dW 0x22041016bd08f080600a40d2 [] [Qxc] [fI 12 (.aslp 3 (.t 5) (some (.t 11)))]
def Qaqs:=dZ 0x22040090079f1f78041020
def Qaqt:=dW 0x19090012051000332f059f08f09210142 [Qaqr,Qaqs] [Qxa] [fI 9 (.iax 3 3 (.t 6) (.t 7))]
def Qalb:=dZ 0x90008b0022050036f0440811 Qaqt
def Qaqu:=dZ 0x7210190029f3801121
def Qaqv:=dW 0x190950040220400f008f06212 [Qalb,Qaqu] [] [fI 6 (.ldg 9 PJ PJ)]
def Qaqw:=dZ 0x9202014f00311 Qaqv
def Qazp:=dZ 0x901014f00211 Qaqw
theorem Qax6:mFn prog Q67 1 18 Qazp Ac=true:=ZW
def Qeg:=dY 0x58281e001
def Qeh:=dY 4314550353 Qeg
def Qpk:=dZ 0x7211012bd200321 .skip Qeh
def Qso:=dZ 0x9102037132f0211 Qpk
theorem Qro:mFn prog Qfj 1 6 Qso Ak=true:=ZW
def Cq:=dY 3080241
def Qwj:=dZ 0x8702210281e0371d1f0a21093 .skip Cq
def Qg3:=dY 0xc8481e001
def Qg4:=dY 83503542337 Qg3
def Qg5:=dY 1638497
def Qg6:=dY 71227793409 Qg5
def Qg7:=dY 0x137132f059f31b20b109ff800d4 Qg6
def Qg8:=dY 7929953
def Qgm:=dY 0x11581e31b20b169f590134 Qg8
def Quc:=dZ 0x8001241012fd58161420123 .skip Qgm
def Qgn:=dY 66298337
def Qgo:=dY 655409
def Qud:=dZ 0x8702211281e68048161f311e3 .skip Qgo
def Que:=dZ 0x12200481e58162120
def Quf:=dZ 0x19091ef0012510120f3403f4813460f5813460f000868018612 Qud Qgn Que
def Qug:=dZ 0x1909b00125068012112 Quc [] Quf
def Qgp:=dY 0x2a481e001
def Quh:=dZ 0x122137132f0410 .skip Qgp
def Qui:=dZ 0x922f22048162211 Quh
def Qrz:=dZ 0x1909001241012ed48160e210142 Qug Qg7 Qui
def Quj:=dZ 0x950041221012dd18160b21 Qrz Qg4
def Quk:=dZ 0x190960131012cd51607212 Qwj S8 Quj
def Q3u:=dZ 0x9012137132f090121 Quk Cq
abbrev Dh:List RS:=[.cell 2 1 true,.tmp 3]
theorem Q26:mFn prog VO 1 35 Q3u Dh=true:=ZW
def Qhi:=dY 83503542305 Cq
def Qhj:=dY 32881
def Qy6:=dZ 0x870221061e0371d1f0821073 .skip Cq
def Qhl:=dY 0xb8481e001
def Qhm:=dY 83503542337 Qhl
def Qhn:=dY 0x13f0231d0b1 Qhm
def Qho:=dY 33009
def Qhp:=dY 0x39481e001
def Qgv:=dY 0x13f0231d131 Qhp
def Qu5:=dZ 0x101312f0231d18161120 .skip Qgv
def Qu6:=dZ 0x9101300181e48161021014 Qu5
def Qsp:=dZ 0x900680f3a101410120bd18167160c312 Qu6 Qho
def HQ:=dY 4128817
def Qu7:=dZ 0x702210281e48161421 .skip HQ
def Qu8:=dZ 0x190950042101312f0231d7160921 Qsp Qhn Qu7
def Qu9:=dZ 0x1909401310130d31605212 Qy6 Qhj Qu8
def Q6n:=dZ 0x90121052f0111 Qu9 Qhi
theorem Q3a:mFn prog Qjy 1 21 Q6n Dh=true:=ZW
def Qs9:=dY 0x188381e001 GO
def Qta:=dY 0x137132f039f31b20b089f780054 Qs9
def Qtb:=dY 0xf80029f2f03a0f2
def Qaj1:=dZ 0x72110120f1703f3811760f1811760f00500a51 .skip Qtb
def Qaj2:=dZ 0x9011310109d4160621 Qaj1 Qta
def Qavj:=dZ 0x91102f0090121 Qaj2
theorem Qaur:mFn prog Q2d 1 16 Qavj Ac=true:=ZW
def MC:=dY 0xf0240c1
def MB:=dY 0xe8281e001
def Qbd1:=dZ 0x87211015cd0800d210c3 .skip MB
def MA:=dY 6769729537
def M9:=dY 83503542321 MA
def M8:=dY 4315992337 M9
def M7:=dY 4784193
def M6:=dY 0xa0059f053361a14f203
def M5:=dY 0x2b0069f07539a2a14f323
def Sh:=dY 0x3ffba2f057ea0f066f039540f09510f009520f09570f689500f07e00f2f057ea0f086f038740f08710f008720f08770f688700f07e00f0f027e40f4210f
def Oh:=dY 0x104e0f44355514f5a3
def Og:=dY 0x1015fd45514f592 Oh
def MH:=dZ 0x80010410125ed056f1f0f31c08001022076805270908030703060504030201000c0aa513 .skip Og
def MG:=dZ 0x951f1001061036f025b7e03f087e00f0003f5a036f027040f07010f007020f07070f687000f00056f0240100207680330ff1 MH Sh
def Qa67:=dZ 0x80910010510525bd050102207580080010220758027b0c0b030a090807060504030201000e0da2263 MG M5
def Qa68:=dZ 0x926f00010600f0640501022075802161 Qa67
def Qa69:=dZ 0x1040890049f1f0144801730
def Qa7a:=dZ 0x190900010510325bd05013802080013802197080701060504030201000a09a20142 Qa68 M6 Qa69
def Qa01:=dZ 0x9006816316f0010500f06448015212 Qa7a
def Of:=dY 0xf0245d1
def Oe:=dY 0xce0081
def Od:=dY 0x775f985e001
def Ob:=dY 0x157574710532f099f0127102575747105d1f08f763 Od [eI 118 (.bslm 4 [.t 117])]
def O7:=dY 0x1015fd0284742 Ob
def O6:=dY 0x1026f025bd080722 O7
def O5:=dY 0x1026f025bd080702 O6
def O4:=dY 0x101e9832015c012036f102575747105d1f014c7c5
def O3:=dY 0x104e0f14328414f863
def Qa7b:=dZ 0x800302510f15fd0198228330403010201000605a823 .skip O3
def Qa7c:=dZ 0x982f0030260066f0240198028031 Qa7b
def Qa7d:=dZ 0x8090030251096f15fd7b117a3 Qa7c O4
def O2:=dY 0x201e022875f79a3
def O1:=dY 0x106522f07f39614f993 O2 [.chk 152 none (.sli 5 (.t 150) (some (.t 151)) none)]
def O0:=dY 0x102522f07f955f9614f9859064f924 O1 [.chk 152 none (.sli 5 (.t 150) (some (.t 151)) none)]
def MF:=dW 0x22106522f8f9f18f8800102207780939f015c9856909f08f880010220778005c7808711f15141312110f0b110f090811100f0e0d0c0a0907060504030201001b16a [] [O0] [fI 142 (.sli 5 (.t 140) none (some (.t 141))),fI 152 (.sli 5 (.t 150) (some (.t 151)) none)]
def Qa7e:=dZ 0x19097af0030260076f03401980278312 Qa7d [] MF
def Qa7f:=dZ 0x900302510125ed056f066f076f31c0806d31 Qa7e O5
def Qa7g:=dZ 0x903010510625bd1f0040501022077800806581 Qa7f Oe
def Qa7h:=dZ 0x8093010404e0079f04331f014050138020138025e815d3 Qa7g
def ME:=dZ 0x72100281e38169c21
def MD:=dZ 0x19095df01041036f025bd0805b212 Qa7h Of ME
def Qa7i:=dZ 0x190950040010410125ed0f1f046f026f41c08012312 Qa01 M7 MD
def Qa7j:=dZ 0x901031015dd0800f21 Qa7i M8
def Qa7k:=dZ 0x190991031086f025bd0800a212 Qbd1 MC Qa7j
def Qbnl:=dZ 0x9102037132f0211 Qa7k
theorem Qbmk:mFn prog KE 1 157 Qbnl Ak=true:=ZW
def GU:=dY 32865
def Q73:=dZ 0x870221051e0371d1f0721063 .skip Cq
def Sy:=dY 0x198281e001 HQ
def Q74:=dW 0x7022108f6160821 [] [Sy] [eI 9 (.call S4 [.t 8,.k (.c (.fn VP []))])]
def Q75:=dZ 0x190930131012cd21604212 Q73 GU Q74
def Qafj:=dZ 0x9012137132f090121 Q75 Cq
theorem Qafd:mFn prog V0 1 10 Qafj Dh=true:=ZW
def Ng:=dY 0x88581e001
def Nf:=dY 83503542353 Ng
def MQ:=dY 0x201e02272933191214f1b4
def MP:=dY 0x201e0227e933d91e14f274
def Qbdm:=dW 0x21420169d0102201336800158026800158021da0c0b0a01090807060504030201000e0da0021410168d01022013368001580268001580211a0c0b0a01090807060504030201000e0da103 [] [MQ,MP]
def Qbdn:=dZ 0x2140f80069f1f004700e30
def Qbdo:=dZ 0x1909900215018010110142 Qbdm [] Qbdn
def Qa6p:=dZ 0x900680d36002150034405014022009512 Qbdo
def Qbdp:=dZ 0x74100481e58162921
def Qbdq:=dZ 0x190950040021400f006112 Qa6p [] Qbdp
def Qa6o:=dZ 0x9021310140d4160721 Qbdq Nf
def Qbnh:=dZ 0x91013037132f049f190221 Qa6o
abbrev El:List RS:=[.cell 4 1 true]
theorem Qbmi:mFn prog Tm 2 42 Qbnh El=true:=ZW
def Qbjb:=dZ 0x7210024e0111f102471004d1f200331
def Ir:=dZ 0x9102047100432f0211 Qbjb
theorem Qbqq:mFn prog PM 1 5 Ir Ag=true:=ZW
def Qwn:=dY 0x71e0101371d1f0b2
def Qap0:=dZ 0x741101261d319ce1f014020741 .skip Qwn
def Qap1:=dZ 0x901230011e02299e1f0621 Qap0
def Qap2:=dZ 0x90002405132f0511 Qap1
def Qay8:=dZ 0x90023037132f19190231 Qap2
theorem Qax1:mFn prog S4 2 12 Qay8 El=true:=ZW
def Qgz:=dY 0x201e0226753113
def Qwd:=dW 0x403108f010220153380080600800980 [] [Qgz] [eI 16 (.call FC [.t 15,.k (.c (.fn HC []))])]
def Qwe:=dZ 0x4030390069f1f68041320
def Qwf:=dZ 0x1909012040880039f1008210142 Qwd [] Qwe
def Qt9:=dZ 0x90007b00404010440711 Qwf
def Qwg:=dZ 0x7210490029f0801421
def Qwh:=dZ 0x19095004040300f0053004312 Qt9 [] Qwg
def Q3o:=dZ 0x901054f00211 Qwh
theorem Ql7:mFn prog VP 1 21 Q3o Ac=true:=ZW
def OO:=dY 0x88284e001
def Qa26:=dZ 0x7211019dd5460721 .skip OO
def Qa27:=dW 0x9012108f011320331 [Qa26] [Sl] [eI 5 (.call FC [.t 4,.k (.c (.fn HC []))])]
def Qbhy:=dZ 0x90121052f0111 Qa27 E5
theorem Qbgy:mFn prog HC 1 9 Qbhy Ag=true:=ZW
def Qte:=dY 0xb8585e001
def Vu:=dY 0x6900c9f2f05a162
def SS:=dY 0x1a0179f2f05a212
def Qakn:=dZ 0x8000135054f01e58422f20233
def Qako:=dZ 0x923f0001360ea0239f2f06a1f024f40f04f10f004f20f0f044f30f04f10f5824f20f00056f02401580224c1000135054f01e58322220173 Qakn
def Qakp:=dZ 0x9e00013610f029e3703f043760f0f043730f03710f5823720f00056f02401580218910160c3 Qako SS
def Ha:=dY 3866673
def Qakq:=dZ 0x800636336f002350076f0240158023431
def Qakr:=dZ 0x9000135102522f015c58563803041 Qakq Ha
def Qaks:=dZ 0x1909300013610f029e2103f042160f0f042130f02110f5822120f00066f024017020d910242 Qakp Vu Qakr
def Qafx:=dZ 0x23407b0089f1f88043720
def Qafy:=dZ 0x1909000135157574710532f059f05613530a310142 Qaks Qte Qafx
def Qaaw:=dZ 0x90009b000235010440911 Qafy
def Qafz:=dZ 0x72108b0029f3803821
def Qaf0:=dZ 0x190950040023400f0055006312 Qaaw [] Qafz
def Qaf1:=dZ 0x9202054f00311 Qaf0
def Qavw:=dZ 0x901054f00211 Qaf1
theorem Qauw:mFn prog Vb 1 57 Qavw Ac=true:=ZW
def Nj:=dY 0x59684e001
def Ni:=dY 0x101e5832192
def Nh:=dY 0x101e58421d2
def Si:=dY 788701761
def Qbdi:=dZ 0x2040101e583205c3230002040101e584205c30302f3
def Qbdj:=dZ 0x8092ff0020500f0340168122d312c3 Qbdi
def EM:=dY 8060977
def Qbdk:=dZ 0x80063a33af02040076f0240158023831
def Qbdl:=dZ 0x900204102522f015c58563803441 Qbdk EM
def Qa6f:=dZ 0x19092cf00020602f03a1f025140f05110f6805120f00056f02401580225812 Qbdj [] Qbdl
def Qa6g:=dZ 0x9801624324f00020610f02a04303f6844360f00066f0240158021e612 Qa6f Si
def Qa6h:=dZ 0x900020510168d0158421a31 Qa6g Nh
def Qa6i:=dZ 0x900020510168d0158321631 Qa6h Ni
def Qa6j:=dZ 0x9000205147100432f069f0460f0430158221251 Qa6i Nj
def Qa6k:=dZ 0x2030d80049f1f004700c30
def Qa6l:=dZ 0x190900204157574710532f059f05601534800800e510142 Qa6j Sa Qa6k
def Qa0p:=dZ 0x900680b36020400244050803008412 Qa6l
def Nk:=dZ 0x7210bb0029f3803b21
def Qa6m:=dZ 0x19095004020300f004112 Qa0p [] Nk
def Qa6n:=dZ 0x92020780039f05c0721 Qa6m
def Qbng:=dZ 0x901054f00211 Qa6n
theorem Qbmh:mFn prog KG 1 60 Qbng Ac=true:=ZW
def Qa6t:=dZ 0x90000206101a1d04601437800158226801b700342 Rl Ef
def Qa00:=dZ 0x9026818318f0000207003440501582278014512 Qa6t
def Ot:=dY 0x101e5832292
def Oq:=dY 0x101e58422d2
def Oo:=dY 1769521
def Qa6u:=dZ 0x203102522f015c58563802e40 .skip Oo
def Qa0q:=dZ 0x90020410169d0158422a31 Qa6u Oq
def Qa0r:=dZ 0x90020410169d0158322631 Qa0q Ot
def Qa0s:=dZ 0x9002040101e58226802431 Qa0r
def Qa0t:=dZ 0x19095024000020600f007112 Qa00 [] Qa0s
def Qa0u:=dZ 0x90002050390069f04c1321 Qa0t
def Qa0w:=dZ 0x190900204157574710532f059f05601534800800f510142 Qa0u Eh R6
def Qawn:=dZ 0x900680c37020400244050804009412 Qa0w
def Qa0x:=dZ 0x72102b0029f3803221
def Qa0y:=dZ 0x19095004020300f004112 Qawn [] Qa0x
def Qa0z:=dZ 0x92020880039f05c0821 Qa0y
def Qbja:=dZ 0x901054f00211 Qa0z
theorem Qbg8:mFn prog LO 1 51 Qbja Ac=true:=ZW
def Qn5:=dY 0x103142f70514f092 GO
def Qaap:=dZ 0x741101279d419ae1f5031054050400030201000706a2 .skip Qn5
def Qakl:=dZ 0x90003054f00411 Qaap
theorem Qaja:mFn prog Fq 3 10 Qakl Ab=true:=ZW
def Qir:=dY 0x57574710532f031
def Qis:=dY 69227126898
def Qit:=dY 0x101e28320c2
def Qiu:=dY 0x101e2842112
def Q0n:=dZ 0x73100385e28561221
def Q0o:=dZ 0x9022102142f0128421810d41 Q0n Qiu
def Q0p:=dZ 0x90013102142f01632610841 Q0o Qit
def Q0q:=dW 0x90013108f011220431 [Q0p] [Qis] [eI 6 (.call FC [.t 5,.k (.c (.fn HY []))])]
def Q8d:=dZ 0x900131152f0211 Q0q Qir
abbrev Qnn:List RS:=[.cell 3 5 true]
theorem Q7n:mFn prog Ql0 2 19 Q8d Qnn=true:=ZW
def Qn6:=dY 0x57171332f031
def Qn7:=dY 69227061362
def Qn8:=dY 0x101e28220c2
def Qaaq:=dZ 0x73100383e28360d21
def Qaar:=dZ 0x9022102142f01622610841 Qaaq Qn8
def Qaas:=dZ 0x9001310154d011120431 Qaar Qn7
def Qakm:=dZ 0x900131152f0211 Qaas Qn6
abbrev Qv3:List RS:=[.cell 3 3 true]
theorem Qajb:mFn prog Qs0 2 14 Qakm Qv3=true:=ZW
def Qak0:=dZ 0x872100284e18461521143
def Vt:=dY 0x1a484e0a42164ff9b942034fd91e54fc91d14fa91b14f006
def Vs:=dY 0x199384e0a42164ff9b942034fd91e54fc91d14fa91b14f8941964f0f7941834f691714f009 Vt
def Vr:=dY 0x147100432f0a42164ff9b942034fd91e54fc91d14fa91b14f8941964f0f7941834f691714f049 Vs
def Vq:=dY 0x3b02b0059faa1b70b329f1b02a5
def Vp:=dY 0x6b284e001
def Qak1:=dZ 0x8721101e1d5803521343 .skip Vp
def Qak2:=dZ 0x934f00001606803411 Qak1
def Qak3:=dZ 0x809000001610243e0d0148120138120118022b71293 Qak2 Vq
def Qw0:=dZ 0x872100284e0460f0430138324651453
def Qqj:=dY 0xec284e001
def Qagk:=dZ 0x872110f1e1d4e114d3 .skip Qqj
def Qagl:=dZ 0x872100284e38465321523
def Qagm:=dZ 0x872100284e48465621553
def Qagn:=dZ 0x955f101400f029ed38465421 Qagm
def Qago:=dZ 0x872100284e38465b215a3
def Qqk:=dY 919009
def Qql:=dY 5113377
def V5:=dY 0xce0669f2f02a6c2
def V4:=dY 0x101e2d303f384d360f00693 V5
def Ib:=dY 0x725f0669f2f02a722
def Ia:=dY 0x101e2df03f484df60f006f3 Ib
def Qagp:=dZ 0x66f01310f029ed38466d208663 .skip Ia
def SQ:=dY 0x735f284e001
def Qagq:=dZ 0x872110f1e1d7311663 .skip SQ
def Qagr:=dZ 0x190966f0001510f029ed48466721272100284e48466521623 Qagp V4 Qagq
def Qags:=dZ 0x962f0001511f029ed3846632172100284e384661215e3 Qagr Qql
def Qagt:=dZ 0x872100284e38467821773
def Qagu:=dZ 0x80977f001401f029ed48467621743 Qagt
def Qagv:=dZ 0x1974f000150755f0749f066f8b247521095ef0001511f029ed48465f210145c3 Qags Qqk Qagu
def Qagw:=dZ 0x195cf38f000160dd05c9f056f8b245d21095af001400f029ed48465921573 Qago [] Qagv
def Qagx:=dW 0x2957f38f0001608d0579f046f8b245821190952f0001500f029ed4846512124f3 [Qagl,Qagn,Qagw] []
def Qagy:=dZ 0x194ff38f0001600d04f9f036f8b245021094df01300f029ed38464c214a3 Qagk [] Qagx
def Qagz:=dZ 0x194af38f000160bc04a9f0a6f8b244b210945f001402f06a0b6f027d40f07d10f007d20f0f047d30f07d10f3837d20f000b6f0240138023bb1393 Qw0 [] Qagy
def Qag0:=dZ 0x9038f000160ab0399f0b6f1243a21004 Qagz
def SR:=dZ 0x72100284e18467921
def Qtk:=dZ 0x190938f00015001180237212 Qag0 [] SR
def Qag1:=dZ 0x190929f0001502f03a1f024b40f04b10f4804b20f001f02401380222812 Qak3 [] Qtk
def Qag2:=dZ 0x900014147100432f039f04604431f014050118320118320460f04301183216d0f0b0a0807050e0b0a0807050302010d0b0a0807050302010c0b0a09080706050403020100250da2 Qag1 Vr
def Qag3:=dZ 0x190914f013003f3a0c6f022040f02010f1802020f0003f3a0d6f021640f01610f1801620f000f024050153207e12 Qak0 [] Qag2
def Qavy:=dZ 0x9012047100432f090121 Qag3
theorem TI:mFn prog HV 1 122 Qavy Ag=true:=ZW
def Qazb:=dZ 0x7410d80049f2f04a0121140f181100f01110f611120f001f0240120205a1
def Kr:=dZ 0x901202f0049f190221 Qazb
theorem Qbax:mFn prog NW 2 14 Kr Ab=true:=ZW
theorem Ya:mFn prog CZ 2 14 Kr Ab=true:=ZW
def Qbds:=dZ 0x900014101a1d04601434800118323800d700142 Kq DS
def Qa6r:=dZ 0x900680a35000150034405015321006512 Qbds
def MO:=dY 0x99284e001
def Qbdt:=dZ 0x721101e7d18461821 .skip MO
def Qbdu:=dZ 0x90120101e18323801631 Qbdt
def Qbdv:=dZ 0x190950040001400f004112 Qa6r [] Qbdu
def Qa6q:=dZ 0x900130580039f04c0521 Qbdv
def Qbni:=dZ 0x90121052f0111 Qa6q E5
theorem Qbmj:mFn prog KF 1 26 Qbni Ag=true:=ZW
theorem Qax5:mFn prog Q66 1 5 Ir Ag=true:=ZW
def Qtc:=dY 0x58381e001
def Qtd:=dY 4851953713 Qtc
def Qaj4:=dW 0x8310012b0d08f5460730063 [] [] [fI 8 (.mkf SV [.t 3])]
def Qaj5:=dZ 0x7210a80029f610a21
def Qaj6:=dZ 0x1909211302106112 Qaj4 [] Qaj5
def Qaj7:=dW 0x9112108f2460421 [Qaj6] [Qtd] [aJ 5 SM [.t 4]]
def Qavk:=dZ 0x91102f0090121 Qaj7
theorem Qaus:mFn prog Q2e 1 11 Qavk Ac=true:=ZW
def MK:=dY 0x49384e001
def MJ:=dY 0xc9284e001
def MI:=dY 4318024129 MJ
def Qbdw:=dZ 0x8721101f1d0f0240138121841173 .skip MI
def Qbdx:=dZ 0x872100284e0460f0430138322851273
def Lh:=dZ 0x72100284e18462c21
def Qbdy:=dZ 0x190927f001402f06a0b6f024140f04110f004120f0f044130f04110f3834120f000b6f0240138021db12 Qbdx [] Lh
def Qbdz:=dZ 0x190917f001401f02401380215312 Qbdw [] Qbdy
def Qbd0:=dZ 0x8090013147100432f039f0460f0430118321151103 Qbdz MK
def Q47:=dY 33537
def Qa6v:=dZ 0x872100284e18463121303
def On:=dY 0x5b484e001
def Om:=dY 0x9b584e001
def Ol:=dY 0x6c05c0069f31b20b459f4c0425
def Ok:=dY 0xac284e001
def Qa6w:=dZ 0x87211015fd6804921483 .skip Ok
def Qa6x:=dZ 0x948f00101600f0247804721 Qa6w
def Qa6y:=dW 0x8090001016108f18464321413 [Qa6x] [Ol] [eI 68 (.call EL [.t 67,.k (.c (.sl true 1 [])),.k (.c (.sl true 1 []))])]
def So:=dY 0x2d04b9f2f02a522
def Oj:=dY 0x3d284e001
def Tz:=dY 0xe0549f2f07da03f3afa0f046f02b640f0b610f180b620f0af00f036f02af40f0af10f180af20f0057b
def Ty:=dY 0xce0549f2f03ea03f3c7a0f066f02ce40f0ce10f180ce20f0c700f056f02c740f0c710f180c720f0063b
def Qa6z:=dZ 0x54f0101511f02a0d584661208543 .skip Ty
def Tx:=dY 0x755f06e9f2f03a036f02e340f0e310f180e320f00716
def Oi:=dY 0x7c5f06e9f2f03a056f02f140f0f110f180f120f00786
def Qa60:=dZ 0x6ef0101511f02a0d4846762086e3 .skip Oi
def Dz:=dY 0x915f07e9f2f0825fa18f08f8f4 [] [gF 143 137 (.pick (.t 140) (.t 142) (.k (.c (.bool false)))),gT 144 130 (.pick (.t 137) (.k (.c (.bool true))) (.t 143))]
def EP:List Item:=gFm 140 137 139::gT 141 140 (.ld 4 true (.t 5))::.e (some 142) (some (140,true)) (.call GE [.t 141])::Dz
def HO:List Item:=gT 136 130 (.pick (.t 133) (.t 135) (.k (.c (.bool false))))::gTm 137 130 136::gF 138 137 (.ld 4 true (.t 4))::.e (some 139) (some (137,false)) (.call CZ [.t 138,kI 0])::EP
def Sn:List Item:=gTm 133 130 132::gT 134 133 (.ld 4 true (.t 4))::.e (some 135) (some (133,true)) (.call GE [.t 134])::HO
def Sm:=dY 0x925f284e001
def Qa61:=dZ 0x872110f15fd92117e3 .skip Sm
def MN:=dW 0x97ef013118f08f00056f0240118027f6172100284e58467d216e3 [Qa61] [Sn] [gT 131 130 (.ld 4 true (.t 5)),.e (some 132) (some (130,true)) (.call CZ [.t 131,kI 0])]
def Q46:=dZ 0x19096ef0101510f02a0d48466f21272100284e48466d21543 Qa60 Tx MN
def MM:=dW 0x190954f0101520f02a0d58465521272110f15fd53114b3 [Qa6z,Q46] [Oj,Tz]
def GQ:=dZ 0x72100284e18469321
def ML:=dZ 0x19094bf0101510f02a09f03f4849f60f000a6f0240118024c610042 MM So GQ
def Qa62:=dZ 0x190941f0101502f03a1f027b40f07b10f5807b20f001f0240148023a812 Qa6y [] ML
def Qa63:=dZ 0x901014147100432f059f0461f0430118323651 Qa62 Om
def Qa64:=dZ 0x91013147100432f049f0460f0430118323251 Qa63 On
def Qa65:=dZ 0x190930f01310a6f036f0380d0118022d312 Qa6v Q47 Qa64
def Qa66:=dZ 0x1909d01302f03a0b6f021940f01910f1801920f001f024050163208912 Qbd0 [] Qa65
def Qbnk:=dZ 0x9012047100432f090121 Qa66
theorem F4:mFn prog Hq 1 148 Qbnk Ag=true:=ZW
def Q77:=dZ 0x181e2f0e8a03f791da0f2f062ea0f0f033d40f03d10f013d20f1f043d30f03d10f2833d20f02e00f1f022e40f02e10f002e20f1f042e30f02e10f2832e20f01d00f2f031da0f076f032540f02510f2802520f01d00f066f031d40f01d10f2801d20f002f03a0d6f031340f01310f701320f002f03a0c6f030940f00910f200920f00110326f0
def Qafo:=dZ 0x90120190211 Q77
theorem Qafe:mFn prog SV 2 40 Qafo AJ=true:=ZW
def Qbd3:=dZ 0x872102f00211233
def M4:=dY 33553
def Qbd4:=dZ 0x872102f00211313
def Qbd5:=dZ 0x1120aa0039f1f0043802930
def Qbd6:=dW 0x190931f113108f04601433800118322b610142 [Qbd4,Qbd5] [M4] [aJ 48 GE [.t 47]]
def Qa7m:=dZ 0x9006828328f113003440501183238024512 Qbd6
def Qbd7:=dZ 0x72103f00211
def Lf:=dZ 0x1909500411200f003112 Qa7m [] Qbd7
def Qbd8:=dZ 0x190923f1202f049a03f629a0f0f023640f03610f013620f1f043630f03610f1833620f02900f1f032940f02910f002920f1f042930f02910f1832920f0003f3a076f021e40f01e10f1801e20f00066f0240118020c18f12 Qbd3 [] Lf
def Qa7l:=dZ 0x1909912003f3a0d6f020e40f00e10f600e20f000c6f0240120204812 Q3q [] Qbd8
def Qbnm:=dZ 0x91102f0090121 Qa7l
theorem Qbml:mFn prog GE 1 50 Qbnm Ac=true:=ZW
def Qaai:=dW 0x7022108f6160821 [] [Sy] [eI 9 (.call S4 [.t 8,.k (.c (.fn Vb []))])]
def Qaaj:=dZ 0x190930131012cd21604212 Q73 GU Qaai
def Qaj0:=dZ 0x9012137132f090121 Qaaj Cq
theorem Qai6:mFn prog Vy 1 10 Qaj0 Dh=true:=ZW
def Qbc7:=dZ 0x8706200f04a0069f0101138802802161203
def Qbc8:=dZ 0x400140990089f1f0048801830
def Qbc9:=dZ 0x190920f40015002240138220101138801801a7707f20242 Qbc7 [] Qbc8
def Qa6b:=dZ 0x90168173e40015002440518088014412 Qbc9
def Qbda:=dZ 0x80950144001400f00811123 Qa6b
def Qbdb:=dZ 0x9e00140390129f026f5241321706200f0190069f01381210410e3 Qbda
def Qbdc:=dZ 0x90900150f800e9f1f1240f21004 Qbdb
def Nl:=dY 0xea0da0099f5a1b70b2d9fca0255
def Qbdd:=dZ 0x8706201b00f0069fa803131303
def Qa6a:=dY 0x8b07b0069fa80383
def Qa5y:=dZ 0x87062101f1d0f0249803531343 .skip Qa6a
def Qa5z:=dZ 0x8706200c00f0069fa8040313f3
def Ow:=dY 0xac00a9f9c00b9f1c1b70b499f8c0415
def Qa50:=dZ 0x870620dc00f0069fa804d314c3
def Ov:=dY 0x4d03d0069fa80543
def Qa51:=dZ 0x87062101f1d0f034b805131503 .skip Ov
def Ou:=dY 0xbd0ad0069f11b00b5a4
def Qa52:=dW 0x7062108fb809800138025551 [] [Ou] [aJ 89 F9 [.t 86,.t 87,.t 88]]
def Qa53:=dZ 0x190950f0053500a6f0240138024e312 Qa51 [] Qa52
def Qa54:=dZ 0x19094cf0053500f034a804b212 Qa50 [] Qa53
def Nm:=dW 0x900534108f2801800461f0430138324271 [Qa54] [Ow] [aJ 72 EL [.t 69,.t 70,.t 71]]
def Qa55:=dZ 0x19093ff05001602f02a0f027940f987900f000a6f02401380239712 Qa5z [] Nm
def Qa56:=dZ 0x190934f05001600b6f02401380232312 Qa5y [] Qa55
def Qa57:=dZ 0x190930f05001600f034a802f212 Qbdd [] Qa56
def Qa58:=dW 0x9050015108f2801800460f0430138322671 [Qa57] [Nl] [aJ 44 EL [.t 41,.t 42,.t 43]]
def Qa59:=dZ 0x19099001400138020c212 Qbdc [] Qa58
def Qbnf:=dZ 0x9001300f00f0069f290331 Qa59
theorem PY:mFn prog EL 3 92 Qbnf B4=true:=ZW
end Go.AE.Y
namespace Go.AE.Y
def arN (op:Int)(a b:Nat):Option Nat:=
 if op=3 then some ((a+b) % 256)else if op=4 then some ((a+256-b) % 256)else if op=5 then some (a * b % 256)
 else if op=6 then (if b=0 then none else some (a / b))else if op=7 then (if b=0 then none else some (a % b))
 else if op=8 then some (if a<b then 1 else 0)else some (if a=b then 1 else 0)
theorem Y7 {op:Int}{a b z:Nat}(ha:a<256)(hb:b<256)(h:arN op a b=some z):z<256:=by
 unfold arN at h;split at h
 ·simp only[Jx]at h;omega
 split at h
 ·simp only[Jx]at h;omega
 split at h
 ·simp only[Jx]at h;omega
 split at h
 ·split at h
  ·cases h
  ·simp only[Jx]at h;have:=Nat.div_le_self a b;omega
 split at h
 ·split at h
  ·cases h
  ·simp only[Jx]at h;have:=Nat.mod_le a b;omega
 split at h
 ·simp only[Jx]at h;split at h <;> omega
 ·simp only[Jx]at h;split at h <;> omega
structure Ms where
 u:Nat
 s:List Nat
 c:List Nat
def setB (s:List UInt8)(n:Nat):List (List UInt8×Nat)→List (List UInt8×Nat)
 |[]=>[]
 |p::r=>if p.1=s then (s,n)::r else p::setB s n r
def setV (s:List UInt8)(n:Nat):Vars→Vars
 |[]=>[]
 |b::v=>if (b.any fun p=>decide (p.1=s))=true then setB s n b::v else b::setV s n v
inductive Tk where
 |ex (e:Ex) (v:Vars)
 |exs (l:List Ex) (v:Vars)
 |call (f:Fn) (l:List Nat)
 |blk (l:List St) (v:Vars)
 |st (x:St) (v:Vars)
 |lp (x:St) (v:Vars)
inductive Rt where
 |dn (e:Nat)
 |val (n:Nat)
 |vals (l:List Nat)
 |env (b:Option Nat) (v:Vars)
def parE (ps:List (List UInt8))(ns:List Nat):Vars:=[(ps.zip ns).reverse]
def Rt.pop:Rt→Rt
 |.env b v=>.env b v.tail
 |r=>r
def Rt.ret:Rt→Rt
 |.env (some n) _=>.val n
 |.env none _=>.val 0
 |r=>r
inductive Ev (fns:List Fn)(S:Nat):Nat→Tk→Ms→Rt→Ms→Prop
 |num {e v m}:e.op=1→0≤e.n→e.n≤255→Ev fns S 0 (.ex e v) m (.val e.n.toNat) m
 |var {e v m n}:e.op=2→v.find e.name=some n→Ev fns S 0 (.ex e v) m (.val n) m
 |call {e v m j ns m1 r m2 a b} (hj:j<fns.length):e.op=13→Ai fns e.name=some j→fns[j].params.length=e.kids.length→Ev fns S a (.exs e.kids v) m (.vals ns) m1→Ev fns S b (.call fns[j] ns) m1 r m2→Ev fns S (a+b+1) (.ex e v) m r m2
 |callS {e v m z m1 a j} (hj:j<fns.length):e.op=13→Ai fns e.name=some j→fns[j].params.length=e.kids.length→Ev fns S a (.exs e.kids v) m (.dn z) m1→Ev fns S (a+1) (.ex e v) m (.dn z) m1
 |kidS {e v m z m1 a k l}:3≤e.op→e.op≤12→e.kids=k::l→(e.op≤10→l≠[])→Ev fns S a (.ex k v) m (.dn z) m1→Ev fns S (a+1) (.ex e v) m (.dn z) m1
 |not {e v m x m1 a k}:e.op=11→e.kids=[k]→Ev fns S a (.ex k v) m (.val x) m1→Ev fns S (a+1) (.ex e v) m (.val (if x=0 then 1 else 0)) m1
 |at_ {e v m x m1 a k}:e.op=12→e.kids=[k]→Ev fns S a (.ex k v) m (.val x) m1→x<16→Ev fns S (a+1) (.ex e v) m (.val (m1.c.getD x 0)) m1
 |atS {e v m x m1 a k}:e.op=12→e.kids=[k]→Ev fns S a (.ex k v) m (.val x) m1→16≤x→Ev fns S (a+1) (.ex e v) m (.dn 2) m1
 |and0 {e v m m1 a k l}:e.op=10→e.kids=[k,l]→Ev fns S a (.ex k v) m (.val 0) m1→Ev fns S (a+1) (.ex e v) m (.val 0) m1
 |and1 {e v m x m1 y m2 a b k l}:e.op=10→e.kids=[k,l]→Ev fns S a (.ex k v) m (.val x) m1→x≠0→Ev fns S b (.ex l v) m1 (.val y) m2→Ev fns S (a+b+1) (.ex e v) m (.val (if y=0 then 0 else 1)) m2
 |andS {e v m x m1 z m2 a b k l}:e.op=10→e.kids=[k,l]→Ev fns S a (.ex k v) m (.val x) m1→x≠0→Ev fns S b (.ex l v) m1 (.dn z) m2→Ev fns S (a+b+1) (.ex e v) m (.dn z) m2
 |ar {e v m x m1 y m2 w a b k l}:3≤e.op→e.op≤9→e.kids=[k,l]→Ev fns S a (.ex k v) m (.val x) m1→Ev fns S b (.ex l v) m1 (.val y) m2→arN e.op x y=some w→Ev fns S (a+b+1) (.ex e v) m (.val w) m2
 |arD {e v m x m1 y m2 a b k l}:3≤e.op→e.op≤9→e.kids=[k,l]→Ev fns S a (.ex k v) m (.val x) m1→Ev fns S b (.ex l v) m1 (.val y) m2→arN e.op x y=none→Ev fns S (a+b+1) (.ex e v) m (.dn 1) m2
 |arS {e v m x m1 z m2 a b k l}:3≤e.op→e.op≤9→e.kids=[k,l]→Ev fns S a (.ex k v) m (.val x) m1→Ev fns S b (.ex l v) m1 (.dn z) m2→Ev fns S (a+b+1) (.ex e v) m (.dn z) m2
 |nil {v m}:Ev fns S 0 (.exs [] v) m (.vals []) m
 |cons {x l v m n m1 ns m2 a b}:Ev fns S a (.ex x v) m (.val n) m1→Ev fns S b (.exs l v) m1 (.vals ns) m2→Ev fns S (a+b+1) (.exs (x::l) v) m (.vals (n::ns)) m2
 |consS {x l v m z m1 a}:Ev fns S a (.ex x v) m (.dn z) m1→Ev fns S (a+1) (.exs (x::l) v) m (.dn z) m1
 |consS2 {x l v m n m1 z m2 a b}:Ev fns S a (.ex x v) m (.val n) m1→Ev fns S b (.exs l v) m1 (.dn z) m2→Ev fns S (a+b+1) (.exs (x::l) v) m (.dn z) m2
 |body {f ns m r m1 a}:Ev fns S a (.blk f.body (parE f.params ns)) m r m1→Ev fns S (a+1) (.call f ns) m r.ret m1
 |done {v m}:Ev fns S 0 (.blk [] v) m (.env none v) m
 |fuel {x l v m}:m.u=S→Ev fns S 0 (.blk (x::l) v) m (.dn 3) m
 |next {x l v m v1 m1 r m2 a b}:m.u<S→Ev fns S a (.st x v) ⟨m.u+1,m.s,m.c⟩ (.env none v1) m1→Ev fns S b (.blk l v1) m1 r m2→Ev fns S (a+b+1) (.blk (x::l) v) m r m2
 |back {x l v m n v1 m1 a}:m.u<S→Ev fns S a (.st x v) ⟨m.u+1,m.s,m.c⟩ (.env (some n) v1) m1→Ev fns S (a+1) (.blk (x::l) v) m (.env (some n) v1) m1
 |stS {x l v m z m1 a}:m.u<S→Ev fns S a (.st x v) ⟨m.u+1,m.s,m.c⟩ (.dn z) m1→Ev fns S (a+1) (.blk (x::l) v) m (.dn z) m1
 |loop {x v m r m1 a}:x.op=6→Ev fns S a (.lp x v) m r m1→Ev fns S (a+1) (.st x v) m r m1
 |argS {x v m z m1 a k l}:x.op≠6→x.args=k::l→(x.op=4→l≠[])→Ev fns S a (.ex k v) m (.dn z) m1→Ev fns S (a+1) (.st x v) m (.dn z) m1
 |let_ {x v m n m1 a k}:x.op=1→x.args=[k]→Ev fns S a (.ex k v) m (.val n) m1→Ev fns S (a+1) (.st x v) m (.env none (A8 v x.name n)) m1
 |set {x v m n m1 a k}:x.op=2→x.args=[k]→(v.find x.name).isSome=true→Ev fns S a (.ex k v) m (.val n) m1→Ev fns S (a+1) (.st x v) m (.env none (setV x.name n v)) m1
 |say {x v m n m1 a k}:x.op=3→x.args=[k]→Ev fns S a (.ex k v) m (.val n) m1→Ev fns S (a+1) (.st x v) m (.env none v) ⟨m1.u,m1.s++[n],m1.c⟩
 |put {x v m n m1 y m2 a b k l}:x.op=4→x.args=[k,l]→Ev fns S a (.ex k v) m (.val n) m1→Ev fns S b (.ex l v) m1 (.val y) m2→n<16→Ev fns S (a+b+1) (.st x v) m (.env none v) ⟨m2.u,m2.s,m2.c.set n y⟩
 |putC {x v m n m1 y m2 a b k l}:x.op=4→x.args=[k,l]→Ev fns S a (.ex k v) m (.val n) m1→Ev fns S b (.ex l v) m1 (.val y) m2→16≤n→Ev fns S (a+b+1) (.st x v) m (.dn 2) m2
 |putS {x v m n m1 z m2 a b k l}:x.op=4→x.args=[k,l]→Ev fns S a (.ex k v) m (.val n) m1→Ev fns S b (.ex l v) m1 (.dn z) m2→Ev fns S (a+b+1) (.st x v) m (.dn z) m2
 |ift {x v m n m1 r m2 a b k}:x.op=5→x.args=[k]→Ev fns S a (.ex k v) m (.val n) m1→n≠0→Ev fns S b (.blk x.body ([]::v)) m1 r m2→Ev fns S (a+b+1) (.st x v) m r.pop m2
 |iff_ {x v m m1 r m2 a b k}:x.op=5→x.args=[k]→Ev fns S a (.ex k v) m (.val 0) m1→Ev fns S b (.blk x.els ([]::v)) m1 r m2→Ev fns S (a+b+1) (.st x v) m r.pop m2
 |bck {x v m n m1 a k}:x.op=7→x.args=[k]→Ev fns S a (.ex k v) m (.val n) m1→Ev fns S (a+1) (.st x v) m (.env (some n) v) m1
 |do_ {x v m n m1 a k}:x.op=8→x.args=[k]→Ev fns S a (.ex k v) m (.val n) m1→Ev fns S (a+1) (.st x v) m (.env none v) m1
 |lpS {x v m z m1 a k}:x.args=[k]→Ev fns S a (.ex k v) m (.dn z) m1→Ev fns S (a+1) (.lp x v) m (.dn z) m1
 |lp0 {x v m m1 a k}:x.args=[k]→Ev fns S a (.ex k v) m (.val 0) m1→Ev fns S (a+1) (.lp x v) m (.env none v) m1
 |lpB {x v m n m1 z v1 m2 a b k}:x.args=[k]→Ev fns S a (.ex k v) m (.val n) m1→n≠0→Ev fns S b (.blk x.body ([]::v)) m1 (.env (some z) v1) m2→Ev fns S (a+b+1) (.lp x v) m (.env (some z) v1.tail) m2
 |lpD {x v m n m1 z m2 a b k}:x.args=[k]→Ev fns S a (.ex k v) m (.val n) m1→n≠0→Ev fns S b (.blk x.body ([]::v)) m1 (.dn z) m2→Ev fns S (a+b+1) (.lp x v) m (.dn z) m2
 |lpF {x v m n m1 v1 m2 a b k}:x.args=[k]→Ev fns S a (.ex k v) m (.val n) m1→n≠0→Ev fns S b (.blk x.body ([]::v)) m1 (.env none v1) m2→m2.u=S→Ev fns S (a+b+1) (.lp x v) m (.dn 3) m2
 |lpN {x v m n m1 v1 m2 r m3 a b c k}:x.args=[k]→Ev fns S a (.ex k v) m (.val n) m1→n≠0→Ev fns S b (.blk x.body ([]::v)) m1 (.env none v1) m2→m2.u<S→Ev fns S c (.lp x v1.tail) ⟨m2.u+1,m2.s,m2.c⟩ r m3→Ev fns S (a+b+c+1) (.lp x v) m r m3
variable {fns:List Fn}{S:Nat}
def vBy (v:Vars):Prop:=∀p∈v.flatten,p.2<256
def Tk.by:Tk→Prop
 |.ex _ v=>vBy v
 |.exs _ v=>vBy v
 |.call _ l=>∀x∈l,x<256
 |.blk _ v=>vBy v
 |.st _ v=>vBy v
 |.lp _ v=>vBy v
def Tk.sl:Tk→Nat
 |.st _ _=>1
 |_=>0
def Rt.by:Rt→Prop
 |.dn e=>1≤e∧e≤3
 |.val n=>n<256
 |.vals l=>∀x∈l,x<256
 |.env b v=>(∀z,b=some z→z<256)∧vBy v
structure Ms.by (m:Ms):Prop where
 c:m.c.length=16
 cb:∀x∈m.c,x<256
 sb:∀x∈m.s,x<256
theorem vBy.find {v:Vars}(h:vBy v){s:List UInt8}{n:Nat}(hf:v.find s=some n):n<256:=by
 rw[Vars.find,Option.map_eq_some_iff]at hf;obtain⟨p,hp,rfl⟩:=hf;exact h p (List.mem_of_find?_eq_some hp)
theorem vBy.put {v:Vars}(h:vBy v)(s:List UInt8){n:Nat}(hn:n<256):vBy (A8 v s n):=by
 intro p hp;simp only[A8,List.flatten_cons,Jt,Jm,Jd]at hp;rcases hp with rfl|hp|hp
 ·exact hn
 ·cases v with
  |nil=>simp at hp
  |cons b v=>exact h p (by simp only[List.headD_cons]at hp;simp[hp])
 ·cases v with
  |nil=>simp at hp
  |cons b v=>exact h p Zbs
theorem P2 {s:List UInt8}{n:Nat}:∀{b:List (List UInt8×Nat)} {p:List UInt8×Nat},p∈setB s n b→p∈b∨p.2=n
 |[],p,h=>by simp[setB]at h
 |q::r,p,h=>by
  simp only[setB]at h;split at h
  ·rcases Jm.1 h with rfl|h
   ·exact .inr rfl
   ·exact .inl (Js _ h)
  ·rcases Jm.1 h with rfl|h
   ·exact .inl Jy
   ·rcases P2 h with h|h
    ·exact .inl (Js _ h)
    ·exact .inr h
theorem P1 {s:List UInt8}{n:Nat}:∀{v:Vars} {p:List UInt8×Nat},p∈(setV s n v).flatten→p∈v.flatten∨p.2=n
 |[],p,h=>by simp[setV]at h
 |b::v,p,h=>by
  simp only[setV]at h;split at h
  ·rw[List.flatten_cons]at h⊢;rcases Jd.1 h with h|h
   ·rcases P2 h with h|h
    ·exact .inl (Jc _ h)
    ·exact .inr h
   ·exact .inl (Ja _ h)
  ·rw[List.flatten_cons]at h⊢;rcases Jd.1 h with h|h
   ·exact .inl (Jc _ h)
   ·rcases P1 h with h|h
    ·exact .inl (Ja _ h)
    ·exact .inr h
theorem vBy.set {v:Vars}(h:vBy v)(s:List UInt8){n:Nat}(hn:n<256):vBy (setV s n v):=fun p hp=>by
 rcases P1 hp with h1|h1
 ·exact h p h1
 ·omega
theorem vBy.push {v:Vars}(h:vBy v):vBy ([]::v):=by simpa[vBy]using h
theorem vBy.pop {v:Vars}(h:vBy v):vBy v.tail:=by
 cases v with
 |nil=>exact h
 |cons b v=>exact fun p hp=>h p Zbs
theorem Rt.by.pop {r:Rt}(h:r.by):r.pop.by:=by
 cases r with
 |env b v=>exact⟨h.1,h.2.pop⟩
 |_=>exact h
theorem Rt.by.ret {r:Rt}(h:r.by):r.ret.by:=by
 cases r with
 |env b v=>
  cases b with
  |none=>show 0<256;omega
  |some z=>exact h.1 z rfl
 |_=>exact h
theorem Gn {ps:List (List UInt8)}{ns:List Nat}(h:∀x∈ns,x<256):vBy (parE ps ns):=by
 intro p hp;simp only[parE,List.flatten_cons,List.flatten_nil,J4,List.mem_reverse]at hp;exact h _ (List.of_mem_zip hp).2
theorem Ms.by.tick {m:Ms}(h:m.by)(n:Nat):Ms.by ⟨n,m.s,m.c⟩:=⟨h.c,h.cb,h.sb⟩
theorem Ev.by {h:Nat}{t:Tk}{m:Ms}{r:Rt}{m':Ms}(bg:Ev fns S h t m r m'):t.by→m.by→r.by∧m'.by∧m.u≤m'.u∧m'.s.length+m.u≤m.s.length+m'.u+t.sl∧(m.u≤S→m'.u≤S):=by
 induction bg with
 |num h1 h2 h3=>exact fun ht hm=>⟨by show _<256;omega,hm,Jl _,by simp only[Tk.sl];omega,id⟩
 |var h1 h2=>exact fun ht hm=>⟨vBy.find ht h2,hm,Jl _,by simp only[Tk.sl];omega,id⟩
 |call hj h1 h2 h3 e1 e2 i1 i2=>
  intro ht hm;obtain⟨a1,a2,a3,a4,a5⟩:=i1 ht hm;obtain⟨b1,b2,b3,b4,b5⟩:=i2 a1 a2;simp only[Tk.sl]at *;exact⟨b1,b2,ZT,ZT,fun h=>b5 (a5 h)⟩
 |callS hj h1 h2 h3 e1 i1=>exact i1
 |kidS h1 h2 h3 h4 e1 i1=>exact i1
 |not h1 h2 e1 i1=>
  intro ht hm;obtain⟨a1,a2,a3,a4,a5⟩:=i1 ht hm;exact⟨by show (if _ then 1 else 0)<256;split <;> omega,a2,a3,a4,a5⟩
 |at_ h1 h2 e1 h3 i1=>
  intro ht hm;obtain⟨a1,a2,a3,a4,a5⟩:=i1 ht hm;refine⟨?_,a2,a3,a4,a5⟩;show List.getD _ _ 0<256;have hc:=a2.c;rw[Jv,List.getElem?_eq_getElem ZT,Jax];exact a2.cb _ (Jj _)
 |atS h1 h2 e1 h3 i1=>
  intro ht hm;obtain⟨a1,a2,a3,a4,a5⟩:=i1 ht hm;exact⟨⟨ZT,ZT⟩,a2,a3,a4,a5⟩
 |and0 h1 h2 e1 i1=>exact i1
 |and1 h1 h2 e1 h3 e2 i1 i2=>
  intro ht hm;obtain⟨a1,a2,a3,a4,a5⟩:=i1 ht hm;obtain⟨b1,b2,b3,b4,b5⟩:=i2 ht a2;simp only[Tk.sl]at *;exact⟨by show (if _ then 0 else 1)<256;split <;> omega,b2,ZT,ZT,fun h=>b5 (a5 h)⟩
 |andS h1 h2 e1 h3 e2 i1 i2=>
  intro ht hm;obtain⟨a1,a2,a3,a4,a5⟩:=i1 ht hm;obtain⟨b1,b2,b3,b4,b5⟩:=i2 ht a2;simp only[Tk.sl]at *;exact⟨b1,b2,ZT,ZT,fun h=>b5 (a5 h)⟩
 |ar h1 h2 h3 e1 e2 h4 i1 i2=>
  intro ht hm;obtain⟨a1,a2,a3,a4,a5⟩:=i1 ht hm;obtain⟨b1,b2,b3,b4,b5⟩:=i2 ht a2;simp only[Tk.sl]at *;exact⟨Y7 a1 b1 h4,b2,ZT,ZT,fun h=>b5 (a5 h)⟩
 |arD h1 h2 h3 e1 e2 h4 i1 i2=>
  intro ht hm;obtain⟨a1,a2,a3,a4,a5⟩:=i1 ht hm;obtain⟨b1,b2,b3,b4,b5⟩:=i2 ht a2;simp only[Tk.sl]at *;exact⟨⟨ZT,ZT⟩,b2,ZT,ZT,fun h=>b5 (a5 h)⟩
 |arS h1 h2 h3 e1 e2 i1 i2=>
  intro ht hm;obtain⟨a1,a2,a3,a4,a5⟩:=i1 ht hm;obtain⟨b1,b2,b3,b4,b5⟩:=i2 ht a2;simp only[Tk.sl]at *;exact⟨b1,b2,ZT,ZT,fun h=>b5 (a5 h)⟩
 |nil=>exact fun ht hm=>⟨by simp[Rt.by],hm,Jl _,by simp only[Tk.sl];omega,id⟩
 |cons e1 e2 i1 i2=>
  intro ht hm;obtain⟨a1,a2,a3,a4,a5⟩:=i1 ht hm;obtain⟨b1,b2,b3,b4,b5⟩:=i2 ht a2;simp only[Tk.sl]at *;refine⟨fun x hx=>?_,b2,ZT,ZT,fun h=>b5 (a5 h)⟩;rcases Jm.1 hx with rfl|hx
  ·exact a1
  ·exact b1 x hx
 |consS e1 i1=>exact i1
 |consS2 e1 e2 i1 i2=>
  intro ht hm;obtain⟨a1,a2,a3,a4,a5⟩:=i1 ht hm;obtain⟨b1,b2,b3,b4,b5⟩:=i2 ht a2;simp only[Tk.sl]at *;exact⟨b1,b2,ZT,ZT,fun h=>b5 (a5 h)⟩
 |body e1 i1=>
  intro ht hm;obtain⟨a1,a2,a3,a4,a5⟩:=i1 (Gn ht) hm;exact⟨a1.ret,a2,a3,a4,a5⟩
 |done=>exact fun ht hm=>⟨⟨ZV,ht⟩,hm,Jl _,by simp only[Tk.sl];omega,id⟩
 |fuel h1=>exact fun ht hm=>⟨⟨ZT,ZT⟩,hm,Jl _,by simp only[Tk.sl];omega,id⟩
 |next h1 e1 e2 i1 i2=>
  intro ht hm;obtain⟨a1,a2,a3,a4,a5⟩:=i1 ht (hm.tick _);obtain⟨b1,b2,b3,b4,b5⟩:=i2 a1.2 a2;simp only[Tk.sl]at *;exact⟨b1,b2,ZT,ZT,fun h=>b5 (a5 ZT)⟩
 |back h1 e1 i1=>
  intro ht hm;obtain⟨a1,a2,a3,a4,a5⟩:=i1 ht (hm.tick _);simp only[Tk.sl]at *;exact⟨a1,a2,ZT,ZT,fun h=>a5 ZT⟩
 |stS h1 e1 i1=>
  intro ht hm;obtain⟨a1,a2,a3,a4,a5⟩:=i1 ht (hm.tick _);simp only[Tk.sl]at *;exact⟨a1,a2,ZT,ZT,fun h=>a5 ZT⟩
 |loop h1 e1 i1=>
  intro ht hm;obtain⟨a1,a2,a3,a4,a5⟩:=i1 ht hm;simp only[Tk.sl]at *;exact⟨a1,a2,a3,ZT,a5⟩
 |argS h1 h2 h3 e1 i1=>
  intro ht hm;obtain⟨a1,a2,a3,a4,a5⟩:=i1 ht hm;simp only[Tk.sl]at *;exact⟨a1,a2,a3,ZT,a5⟩
 |let_ h1 h2 e1 i1=>
  intro ht hm;obtain⟨a1,a2,a3,a4,a5⟩:=i1 ht hm;simp only[Tk.sl]at *;exact⟨⟨ZV,vBy.put ht _ a1⟩,a2,a3,ZT,a5⟩
 |set h1 h2 h3 e1 i1=>
  intro ht hm;obtain⟨a1,a2,a3,a4,a5⟩:=i1 ht hm;simp only[Tk.sl]at *;exact⟨⟨ZV,vBy.set ht _ a1⟩,a2,a3,ZT,a5⟩
 |say h1 h2 e1 i1=>
  intro ht hm;obtain⟨a1,a2,a3,a4,a5⟩:=i1 ht hm;simp only[Tk.sl]at *;refine⟨⟨ZV,ht⟩,⟨a2.c,a2.cb,fun x hx=>?_⟩,a3,by simp only[Jaf,Jf,Jg];omega,a5⟩;rcases Jd.1 hx with hx|hx
  ·exact a2.sb x hx
  ·simp only[Jb]at hx;subst hx;exact a1
 |put h1 h2 e1 e2 h3 i1 i2=>
  intro ht hm;obtain⟨a1,a2,a3,a4,a5⟩:=i1 ht hm;obtain⟨b1,b2,b3,b4,b5⟩:=i2 ht a2;simp only[Tk.sl]at *;refine⟨⟨ZV,ht⟩,⟨by simp[b2.c],fun x hx=>?_,b2.sb⟩,ZT,ZT,fun h=>b5 (a5 h)⟩;rcases J7 hx with hx|rfl
  ·exact b2.cb x hx
  ·exact b1
 |putC h1 h2 e1 e2 h3 i1 i2=>
  intro ht hm;obtain⟨a1,a2,a3,a4,a5⟩:=i1 ht hm;obtain⟨b1,b2,b3,b4,b5⟩:=i2 ht a2;simp only[Tk.sl]at *;exact⟨⟨ZT,ZT⟩,b2,ZT,ZT,fun h=>b5 (a5 h)⟩
 |putS h1 h2 e1 e2 i1 i2=>
  intro ht hm;obtain⟨a1,a2,a3,a4,a5⟩:=i1 ht hm;obtain⟨b1,b2,b3,b4,b5⟩:=i2 ht a2;simp only[Tk.sl]at *;exact⟨b1,b2,ZT,ZT,fun h=>b5 (a5 h)⟩
 |ift h1 h2 e1 h3 e2 i1 i2=>
  intro ht hm;obtain⟨a1,a2,a3,a4,a5⟩:=i1 ht hm;obtain⟨b1,b2,b3,b4,b5⟩:=i2 (vBy.push ht) a2;simp only[Tk.sl]at *;exact⟨b1.pop,b2,ZT,ZT,fun h=>b5 (a5 h)⟩
 |iff_ h1 h2 e1 e2 i1 i2=>
  intro ht hm;obtain⟨a1,a2,a3,a4,a5⟩:=i1 ht hm;obtain⟨b1,b2,b3,b4,b5⟩:=i2 (vBy.push ht) a2;simp only[Tk.sl]at *;exact⟨b1.pop,b2,ZT,ZT,fun h=>b5 (a5 h)⟩
 |bck h1 h2 e1 i1=>
  intro ht hm;obtain⟨a1,a2,a3,a4,a5⟩:=i1 ht hm;simp only[Tk.sl]at *;exact⟨⟨fun z hz=>by cases hz;exact a1,ht⟩,a2,a3,ZT,a5⟩
 |do_ h1 h2 e1 i1=>
  intro ht hm;obtain⟨a1,a2,a3,a4,a5⟩:=i1 ht hm;simp only[Tk.sl]at *;exact⟨⟨ZV,ht⟩,a2,a3,ZT,a5⟩
 |lpS h1 e1 i1=>exact i1
 |lp0 h1 e1 i1=>
  intro ht hm;obtain⟨a1,a2,a3,a4,a5⟩:=i1 ht hm;exact⟨⟨ZV,ht⟩,a2,a3,a4,a5⟩
 |lpB h1 e1 h2 e2 i1 i2=>
  intro ht hm;obtain⟨a1,a2,a3,a4,a5⟩:=i1 ht hm;obtain⟨b1,b2,b3,b4,b5⟩:=i2 (vBy.push ht) a2;simp only[Tk.sl]at *;exact⟨⟨b1.1,b1.2.pop⟩,b2,ZT,ZT,fun h=>b5 (a5 h)⟩
 |lpD h1 e1 h2 e2 i1 i2=>
  intro ht hm;obtain⟨a1,a2,a3,a4,a5⟩:=i1 ht hm;obtain⟨b1,b2,b3,b4,b5⟩:=i2 (vBy.push ht) a2;simp only[Tk.sl]at *;exact⟨b1,b2,ZT,ZT,fun h=>b5 (a5 h)⟩
 |lpF h1 e1 h2 e2 h3 i1 i2=>
  intro ht hm;obtain⟨a1,a2,a3,a4,a5⟩:=i1 ht hm;obtain⟨b1,b2,b3,b4,b5⟩:=i2 (vBy.push ht) a2;simp only[Tk.sl]at *;exact⟨⟨ZT,ZT⟩,b2,ZT,ZT,fun h=>b5 (a5 h)⟩
 |lpN h1 e1 h2 e2 h3 e3 i1 i2 i3=>
  intro ht hm;obtain⟨a1,a2,a3,a4,a5⟩:=i1 ht hm;obtain⟨b1,b2,b3,b4,b5⟩:=i2 (vBy.push ht) a2;obtain⟨c1,c2,c3,c4,c5⟩:=i3 b1.2.pop (b2.tick _);simp only[Tk.sl]at *;exact⟨c1,c2,ZT,ZT,fun h=>c5 ZT⟩
end Go.AE.Y
