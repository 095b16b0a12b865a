/- Part 4 of the proof: the engine, codes, walks and plain laws, each named where it stands. -/
import Derived.Test.YthnafimjdcihlaaGreatDoorZC
import Derived.Laws.Runes
import Derived.ProofKit
import Derived.Shelf.Sort.Plain
import Derived.Shelf.Sort.So_math_bits_LenIn
import Derived.WalkLawsBesides
import Derived.WalkSmall
open Nat (reduceEqDiff reduceAdd reduceLeDiff reduceLT)
set_option linter.unusedVariables false
set_option linter.unusedSimpArgs false
set_option maxRecDepth 4000
set_option maxHeartbeats 4000000
namespace Go.AE
variable {H0 H H' F:Heap}{E L B A M:List (Nat×Obj)}{p:Nat×Obj}
theorem Kn.stM2 {x:Nat}{o o':Obj}(kn:Kn H0 H E (A++p::(x,o)::B))(h1:H'=H.set x o')(ho:o'≠.none:=by nofun):Kn H0 H' E (A++p::(x,o')::B):=by
 have k2:Kn H0 H E ((A++[p])++(x,o)::B):=by rw[List.append_assoc];exact kn
 have k3:=k2.stM h1 ho
 rw[List.append_assoc]at k3
 exact k3
theorem Kn.getM2 {x:Nat}{o:Obj}(kn:Kn H0 H E (A++p::(x,o)::B)):H x=o:=(kn.get (x,o) (by simp)).1
end Go.AE
namespace Go.AE.Y
attribute [local go_sem] cond_true cond_false Bool.not_true Bool.not_false
open Go.Proofs.Tryz
variable {H H0 F:Heap}{K:V→Heap→Prop}{E E' L:List (Nat×Obj)}
theorem Qbjw (l:List Fn)(s:List UInt8)(k:Nat):decide (ixI (Qkv l s)=(k:Int))=decide (Qkv l s=some k):=by
 rw[decide_eq_decide]
 cases Qkv l s with
 |none=>simp only[ixI];constructor
        ·intro h;omega
        ·intro h;cases h
 |some j=>simp only[ixI,Option.some.injEq];omega
theorem Qbjx {fns:List Fn}{fl:Bool}{k:Nat}(hk:k<fns.length)(hb:Qj fns[k].body≤2^36)(hp:fns[k].params.length≤2^30)
  (hK:∀(f':Fn) (cnt:Nat) H',Upd H H' []→K (.tup [.ag f'.cells,.c (.int .i64 (fnCk fns k).c),.c (.int .i64 cnt)]) H'):Ql prog Qaxq [.ag [.sl fl 3 (Qn fns)],.c (.int .i64 k)] H K:=by
 obtain⟨f,hfe⟩:∃f,fns[k]=f:=⟨_,rfl⟩
 have hfc:fnCk fns k=Qam fns k f.body (Qtz f.params ⟨[[]],ixC fns k f.name,0⟩):=by
  rw[fnCk,List.getElem?_eq_getElem hk,hfe];rfl
 rw[hfe]at hb hp
 obtain⟨s0,hs0⟩:∃s0:Ck,(⟨[[]],ixC fns k f.name,0⟩:Ck)=s0:=⟨_,rfl⟩
 rw[hs0]at hfc
 have hs0v:s0.v=[[]]:=by rw[←hs0]
 have hs0n:s0.n=0:=by rw[←hs0]
 have hs0c:s0.c=ixC fns k f.name:=by rw[←hs0]
 refine Qab ?_
 refine Qc Qah Qbj5 ?_
 refine Qa ?_
 simp only[go_sem]
 intro x4 hx4 H1 h1
 have kn:=(Kn.start0 H).al hx4 h1
 simp only[go_sem,Qave]
 refine Qa ?_
 simp only[go_sem]
 intro w hw H2 h2
 have kn:=kn.al hw h2
 simp only[go_sem,Qavf]
 refine Qa ?_
 simp only[go_sem,hk,Qw,Qal _ _ hk,hfe,Fn.cells]
 intro x8 hx8 H3 h3
 have kn:=kn.al hx8 h3
 have g8:=kn.l 2 rfl
 simp only[go_sem,Qavg,g8]
 intro H4 h4
 have kn:=kn.stL 2 rfl h4
 have kn:Kn H H4 [] (((w,wO fl fns k (.sl true 3 []) 0 0)::[])++(x4,.st [.str [],.sl true 1 [],.sl true 5 []])::(x8,fnO f)::[]):=kn.perm (.swap _ _ _)
 have g8:=kn.getM2
 refine Qu ?_
 refine Qa ?_
 simp only[go_sem,g8]
 refine Qa31 ?_
 have hix:=Qbjw fns f.name k
 simp only[go_sem,Qavh,hix]
 have two:∀(H1:Heap) (e1:Env),Kn H H1 [] (((w,wO fl fns k (.sl true 3 []) 0 (ixC fns k f.name))::[])++(x4,.st [.str [],.sl true 1 [],.sl true 5 []])::(x8,fnO f)::[])→lk 4 e1=.c (.ptr x4 0)→lk 7 e1=.c (.ptr w 0)→lk 8 e1=.c (.ptr x8 0)→
   Qae prog Qavd (Qq Qbai (unK H K)) e1 H1:=by
  intro H1 e1 kn f4 f7 f8
  have kn:Kn H H1 [] (((w,wO fl fns k (.sl true 3 []) s0.n s0.c)::[])++(x4,.st [.str [],.sl true 1 [],.sl true 5 []])::(x8,fnO f)::[]):=by rw[hs0n,hs0c];exact kn
  refine Qa ?_
  simp only[go_sem,f4,f7,f8]
  refine Qu ?_
  refine Qa ?_
  simp only[go_sem]
  refine Qe (Qf (Qy (fun m e2 H2=>∃(j:Nat) (ps:List (List UInt8)) (Lg Lp:List (Nat×Obj)) (vc t:C) (bj:List (List UInt8×Nat)),m=f.params.length-j∧j≤f.params.length∧(Qtz (f.params.take j) s0).v=[bj]∧(Qtz (f.params.take j) s0).n=j∧(Qbd [bj]).length≤j∧
   Gp Lg 3 (Qbd [bj]) vc∧Gr Lp 1 (Q1 ps) t∧ps.length=j∧
   Kn H H2 [] (((w,wO fl fns k vc (Qtz (f.params.take j) s0).n (Qtz (f.params.take j) s0).c)::Lg)++(x4,.st [.str [],.sl true 1 [],.sl true 5 []])::(x8,fnO f)::Lp)∧
   e2=[(4,.c (.ptr x4 0)),(7,.c (.ptr w 0)),(8,.c (.ptr x8 0)),(9,.c t),(10,.c (.int .i64 j))]) f.params.length ?_ ?_))
  ·exact⟨0,[],[],[],.sl true 3 [],.sl true 1 [],[],by omega,by omega,hs0v,hs0n,by simp[Qbd,vT],.nil 3,.nil 1,rfl,kn,rfl⟩
  ·clear kn
   rintro m e2 H2 ⟨j,ps,Lg,Lp,vc,t,bj,hm,hj,hvj,hnj,hrj,hg,hgp,hps,kn,rfl⟩
   obtain⟨sj,hsj⟩:∃sj,Qtz (f.params.take j) s0=sj:=⟨_,rfl⟩
   rw[hsj]at hvj kn hnj
   have hto:=hgp.isOw
   have g8:=kn.getM2
   refine Qu ?_
   refine Qa ?_
   simp only[go_sem,g8,hto,Qv]
   intro hl
   simp only[LIM]at hl
   refine Qe (Qb rfl ?_ ?_)
   ·intro hc
    have hlt:j<f.params.length:=by simpa using hc
    obtain⟨p,hpe⟩:∃p,f.params[j]=p:=⟨_,rfl⟩
    have hpd:f.params.getD j []=p:=by simp[List.getD_eq_getElem?_getD,hlt,hpe]
    have htk:=Qat0 hlt s0
    rw[hsj,hpe,hvj]at htk
    refine Qd ?_
    try simp only[go_sem]
    refine Qe (Qf ?_)
    refine Qp ?_
    simp only[go_sem,g8,hto,hlt,Qv,Qbc _ _ hlt,hpd]
    obtain⟨F',kn',back⟩:=kn.side
    refine Qbcl (r:=[]) hg kn' (by omega) (by simp only[LIM];omega) fun t2 H5 vc' Lg' hg' kn=>?_
    have kn:=back _ _ kn
    simp only[go_sem,Qavj,hto]
    have kn:Kn H H5 [] ((((w,wO fl fns k vc' (sj.n+1) (Qcm sj.c (if Qen [bj] p then 2 else 0)))::Lg')++[(x4,.st [.str [],.sl true 1 [],.sl true 5 []]),(x8,fnO f)])++Lp):=by rw[List.append_assoc];exact kn
    refine kn.growR hgp (.mk' _ true 1 _) (by simp[noOw,C.isOw]) (by simp only[Qv,List.length_cons,List.length_nil,LIM];omega) fun t' Lp' H6 hgp' hto' kn=>?_
    rw[Q2s]at hgp'
    simp only[go_sem,Qavi,hto']
    refine Qp ?_
    simp only[go_sem,AE.X.next,hto']
    refine⟨Qr (by omega) (by omega),f.params.length-(j+1),by omega,j+1,ps++[t2],Lg',Lp',vc',t',(p,sj.n)::bj,rfl,by omega,?_,?_,?_,hg',hgp',by simp[hps],?_,rfl⟩
    ·rw[htk];simp[Qe6]
    ·rw[htk];simp[hnj]
    ·rw[Qajo];simp only[List.length_append,List.length_singleton];omega
    ·rw[htk];rw[List.append_assoc]at kn;exact kn
   ·intro hc
    have hge:f.params.length≤j:=by simpa using hc
    rw[List.take_of_length_le hge]at hsj
    rw[hsj]at hfc
    refine Qt ?_
    simp only[go_sem,AE.X.next]
    refine Qa ?_
    simp only[go_sem,g8,hto]
    intro H5 h5
    have kn:=kn.stM2 h5
    have g8:=kn.getM2
    refine Qa ?_
    simp only[go_sem,g8,hto]
    obtain⟨F',kn',back⟩:=kn.side
    refine Qbcm w k fl fns (Qj f.body) f.body false bj [] sj vc Lg F' H5 _ (Nat.le_refl _) hvj (fun h=>absurd rfl h) hg kn' (by omega) (by omega) (by simp only[List.length_nil];omega) fun out H6 vc' Lg' _ _ kn=>?_
    have kn:=back _ _ kn
    rw[←hfc]at kn
    have g8:=kn.getM2
    simp only[go_sem,Qaoi,g8,hto]
    intro H7 h7
    have kn:=kn.stM2 h7
    have g8:=kn.getM2
    have g4:=kn.getM
    have gw:=kn.l 0 rfl
    refine Qbg ?_
    simp only[go_sem,g8,g4,gw,hto]
    intro H8 h8
    have kn:=kn.stM h8
    have g8:=kn.getM2
    have g4:=kn.getM
    have gw:=kn.l 0 rfl
    simp only[go_sem,Qaoj,g8,g4,gw,hto]
    refine Qg ?_
    simp only[go_sem,Qq,Qz,Qbai,List.forall_mem_cons,List.not_mem_nil,RS.op,g4,hto]
    have kn2:Kn H H8 [] ((((w,wO fl fns k vc' (fnCk fns k).n (fnCk fns k).c)::Lg')++[(x4,.st [.str f.name,t,.sl false 5 (Qk out)]),(x8,.st [.str f.name,t,.sl false 5 (Qk out)])])++Lp):=by rw[List.append_assoc];exact kn
    refine⟨fun _=>trivial,.tup [.ag (Fn.cells ⟨f.name,ps,out⟩),.c (.int .i64 (fnCk fns k).c),.c (.int .i64 (fnCk fns k).n)],.tup _ _ rfl (fun j x x' h1 h2=>?_),hK ⟨f.name,ps,out⟩ _ _ kn.fin⟩
    rcases j with _|_|_|j
    ·simp only[List.getElem?_cons_zero,Option.some.injEq]at h1 h2
     subst h1 h2
     exact (FrzL.cons (Qi rfl) (.cons (hgp.frz kn2 (Qry _)) (.cons (Qi rfl) .nil))).ag
    ·simp only[List.getElem?_cons_succ,List.getElem?_cons_zero,Option.some.injEq]at h1 h2
     subst h1 h2
     exact .c _ _ (Qi rfl)
    ·simp only[List.getElem?_cons_succ,List.getElem?_cons_zero,Option.some.injEq]at h1 h2
     subst h1 h2
     exact .c _ _ (Qi rfl)
    ·simp at h1
 refine Qe (Qb rfl ?_ ?_)
 ·intro hc
  have hne:¬Qkv fns f.name=some k:=by simpa using hc
  rw[ixC,if_neg hne]at two
  refine Qp ?_
  simp only[go_sem]
  refine Q44 rfl (kn.l 0 rfl) fun H5 hu=>?_
  have kn:=kn.callL 0 rfl hu (by nofun)
  simp only[go_sem,AE.X.next]
  exact two _ _ kn rfl rfl rfl
 ·intro hc
  have he:Qkv fns f.name=some k:=by simpa using hc
  rw[ixC,if_pos he]at two
  refine Qd ?_
  simp only[go_sem,AE.X.next]
  exact two _ _ kn rfl rfl rfl
theorem Qbb0 {l:List Fn}{fl:Bool}(hf:Qs l≤2^36)(hK:∀H',Upd H H' []→K (.c (.int .i64 (Qaai l))) H'):Ql prog Qgo [.ag [.sl fl 3 (Qn l)]] H K:=by
 refine Qab ?_
 refine Qc Qah Q51 ?_
 have retf:∀(b:Int) (e:Env) (H':Heap) (L:List (Nat×Obj)),Qaai l=b→Kn H H' [] L→lk 2 e=.c (.int .i64 b)→Qq Qic (unK H K) .ret e H':=by
  intro b e H' L hf kn h4
  simp only[go_sem,Qq,Qz,Qic,List.mem_singleton,forall_eq,RS.op,h4]
  refine⟨_,.c _ _ (Qi rfl),?_⟩
  rw[←hf];exact hK _ kn.fin
 have kn:=Kn.start0 H
 refine Qa ?_
 simp only[go_sem]
 refine Qu ?_
 refine Qa ?_
 simp only[go_sem]
 refine Qaee (by omega) ?_
 simp only[go_sem,Qll]
 refine Qe (Qb rfl ?_ ?_)
 ·intro hc
  have hb:Qmn l=false:=by simpa using hc
  refine Qa ?_
  simp only[go_sem]
  refine Qg ?_
  simp only[go_sem,AE.X.next]
  exact retf 1 _ _ _ (by rw[Qaai,hb];rfl) kn rfl
 intro hc
 have hb:Qmn l=true:=by simpa using hc
 have hpc:Qaai l=ckK l l.length:=by rw[Qaai,if_pos hb]
 have hv:=hb
 simp only[Qmn,Bool.and_eq_true,decide_eq_true_eq,List.all_eq_true]at hv
 refine Qd ?_
 try simp only[go_sem]
 refine Qu ?_
 refine Qa ?_
 simp only[go_sem]
 refine Qe (Qf (Qy (fun m e1 H1=>∃(i:Nat),m=l.length-i∧i≤l.length∧Kn H H1 [] []∧ckK l i=0∧e1=[(1,.c (.pp [.sl fl 3 (Qn l)])),(3,.c (.int .i64 i))]) l.length ?_ ?_))
 ·exact⟨0,by omega,by omega,kn,rfl,rfl⟩
 ·clear kn
  rintro m e1 H1 ⟨i,hm,hi,kn,hc0,rfl⟩
  refine Qu ?_
  refine Qa ?_
  simp only[go_sem,Qw]
  intro hl
  simp only[LIM]at hl
  refine Qe (Qb rfl ?_ ?_)
  ·intro hc
   have hlt:i<l.length:=by simpa using hc
   have hms:=Qco (List.getElem_mem hlt)
   have hfm:=hv.1.2 _ (List.getElem_mem hlt)
   have hpl:l[i].params.length≤3:=by
    rw[Fn.form]at hfm
    simp only[Bool.and_eq_true,decide_eq_true_eq]at hfm
    exact hfm.1.2
   have hsu:=Qao1 l i
   rw[hc0]at hsu
   refine Qd ?_
   try simp only[go_sem]
   refine Qe (Qf ?_)
   refine Qa ?_
   simp only[go_sem]
   refine Qbjx hlt (by omega) (by omega) fun f' cnt H2 hu=>?_
   have kn:=kn.call0 hu
   simp only[go_sem,Qlo,List.getD_cons_zero,List.getD_cons_succ,Fn.cells]
   intro x4 hx4 H3 h3
   have kn:=kn.al hx4 h3
   have g4:=kn.l 0 rfl
   simp only[go_sem,Qln,g4,Fn.cells]
   intro H4 h4
   have kn:=kn.stL 0 rfl h4
   simp only[go_sem,Qlm]
   refine Qa ?_
   simp only[go_sem]
   refine Qb rfl ?_ ?_
   ·intro hc2
    have hne:(fnCk l i).c≠0:=by simpa using hc2
    refine Qa ?_
    simp only[go_sem]
    refine Qg ?_
    simp only[go_sem,AE.X.next]
    refine retf _ _ _ _ ?_ kn rfl
    rw[hpc]
    exact Qbc0 l (by rw[hsu,Qcm,if_pos rfl]) hne _ (by omega)
   ·intro hc2
    have he:(fnCk l i).c=0:=by simpa using hc2
    refine Qd ?_
    try simp only[go_sem]
    refine Qp ?_
    simp only[go_sem,AE.X.next]
    refine⟨Qr (by omega) (by omega),l.length-(i+1),by omega,i+1,rfl,by omega,Kn.drop (A:=[]) kn,?_,rfl⟩
    rw[hsu,he];rfl
  ·intro hc
   have hge:l.length≤i:=by simpa using hc
   have hil:i=l.length:=by omega
   subst hil
   refine Qt ?_
   simp only[go_sem,AE.X.next]
   refine Qa ?_
   simp only[go_sem]
   refine Qg ?_
   exact retf 0 _ _ _ (by rw[hpc,hc0]) kn rfl
theorem Qbfq {l:List Fn}{fl:Bool}(hf:Qs l≤2^36)(hK:∀H',Upd H H' []→K (.c (.bool (Qz3 l))) H'):Ql prog Qaev [.ag [.sl fl 3 (Qn l)]] H K:=by
 refine Qc Qah Qbep ?_
 refine Qa ?_
 simp only[go_sem]
 refine Qa ?_
 simp only[go_sem]
 refine Qbb0 hf fun H1 hu=>?_
 simp only[go_sem,Qahq]
 refine Qg ?_
 simp only[go_sem,Qq,Qz,Qic,List.mem_singleton,forall_eq,RS.op]
 exact hK _ hu
end Go.AE.Y

namespace Go.AE.Y
structure InsD where
 op:Int
 to:Int
 args:List Int
 n:Int
def InsD.cells (x:InsD):List C:=[.int .i64 x.op,.int .i64 x.to,.sl false 1 (Qha x.args),.int .i64 x.n]
structure PhiD where
 to:Int
 args:List Int
def PhiD.cells (x:PhiD):List C:=[.int .i64 x.to,.sl false 1 (Qha x.args)]
def Qbhx (l:List InsD):List (List C):=l.map InsD.cells
def Qbj9 (l:List PhiD):List (List C):=l.map PhiD.cells
structure BlkD where
 phis:List PhiD
 ins:List InsD
 jump:Int
 on:Int
 next:List Int
def BlkD.cells (x:BlkD):List C:=[.sl false 2 (Qbj9 x.phis),.sl false 4 (Qbhx x.ins),.int .i64 x.jump,.int .i64 x.on,.sl false 1 (Qha x.next)]
def Qbjd (l:List BlkD):List (List C):=l.map BlkD.cells
structure CodeD where
 params:Int
 regs:Int
 blocks:List BlkD
def CodeD.cells (x:CodeD):List C:=[.int .i64 x.params,.int .i64 x.regs,.sl false 5 (Qbjd x.blocks)]
def Qa76 (l:List CodeD):List (List C):=l.map CodeD.cells
theorem Qa4x (l:List InsD):∀r∈Qbhx l,noOw r=true:=by intro r hr;obtain⟨x,_,rfl⟩:=List.mem_map.1 hr;rfl
variable {H:Heap}{S:Nat→Bool}
theorem Gr.frzM {Lg:List (Nat×Obj)}{sz:Nat}{rows rows':List (List C)}{c:C}(h:Gr Lg sz rows c)(hm:∀p∈Lg,H p.1=p.2∧S p.1=true)(hr:FrzR H S rows rows'):FrzC H S c (.sl false sz rows'):=by
 rcases h with ⟨rfl,rfl,rfl⟩|⟨y,rfl,rfl⟩
 ·cases hr;exact FrzR.nil.sl
 ·obtain⟨h1,h2⟩:=hm (y,.vec sz rows) (by simp)
  exact hr.vsl h2 h1 rfl
def CodeD.fits (c:CodeD):Prop:=∀b∈c.blocks,b.ins.length≤2^38∧b.phis.length≤2^38
end Go.AE.Y

namespace Go.AE
variable {H0 H H':Heap}{E L N B:List (Nat×Obj)}
end Go.AE
namespace Go.AE.Y
structure OInts where
 ns:List Int
 y:Nat
def OInts.c (x:OInts):C:=.vsl x.y 1 0 x.ns.length
def OInts.lg (x:OInts):List (Nat×Obj):=[(x.y,.vec 1 (Qha x.ns))]
structure OPhi where
 to:Int
 ns:List Int
 ac:C
 lg:List (Nat×Obj)
def OPhi.row (x:OPhi):List C:=[.int .i64 x.to,x.ac]
def OPhi.ok (x:OPhi):Prop:=(∃y,x.ac=.vsl y 1 0 x.ns.length∧x.lg=[(y,.vec 1 (Qha x.ns))])∨(∃fl,x.ac=.sl fl 1 (Qha x.ns)∧x.lg=[])
def OPhi.own (x:OPhi):Prop:=∃y,x.ac=.vsl y 1 0 x.ns.length∧x.lg=[(y,.vec 1 (Qha x.ns))]
structure OIns where
 op:Int
 to:Int
 a:OInts
 n:Int
def OIns.row (x:OIns):List C:=[.int .i64 x.op,.int .i64 x.to,x.a.c,.int .i64 x.n]
def OIns.lg (x:OIns):List (Nat×Obj):=x.a.lg
structure OBlk where
 phis:List OPhi
 pc:C
 pl:List (Nat×Obj)
 ins:List OIns
 ic:C
 il:List (Nat×Obj)
 jump:Int
 on:Int
 nx:OInts
def OBlk.row (x:OBlk):List C:=[x.pc,x.ic,.int .i64 x.jump,.int .i64 x.on,x.nx.c]
def OBlk.lg (x:OBlk):List (Nat×Obj):=x.nx.lg++(x.phis.flatMap OPhi.lg++(x.pl++(x.ins.flatMap OIns.lg++x.il)))
structure OBlk.ok (x:OBlk):Prop where
 p:Gr x.pl 2 (x.phis.map OPhi.row) x.pc
 i:Gr x.il 4 (x.ins.map OIns.row) x.ic
 a:∀p∈x.phis,p.ok
structure OCode where
 params:Int
 regs:Int
 blocks:List OBlk
 bc:C
 bl:List (Nat×Obj)
def OCode.row (x:OCode):List C:=[.int .i64 x.params,.int .i64 x.regs,x.bc]
def OCode.lg (x:OCode):List (Nat×Obj):=x.blocks.flatMap OBlk.lg++x.bl
structure OCode.ok (x:OCode):Prop where
 b:Gr x.bl 5 (x.blocks.map OBlk.row) x.bc
 bs:∀b∈x.blocks,b.ok
def OPhi.d (x:OPhi):PhiD:=⟨x.to,x.ns⟩
def OIns.d (x:OIns):InsD:=⟨x.op,x.to,x.a.ns,x.n⟩
def OBlk.d (x:OBlk):BlkD:=⟨x.phis.map OPhi.d,x.ins.map OIns.d,x.jump,x.on,x.nx.ns⟩
def OCode.d (x:OCode):CodeD:=⟨x.params,x.regs,x.blocks.map OBlk.d⟩
theorem OPhi.noOw (x:OPhi)(h:x.ok):Go.AE.noOw x.row=true:=by
 rcases h with ⟨y,h,_⟩|⟨fl,h,_⟩ <;> simp only[Go.AE.noOw,OPhi.row,h] <;> rfl
theorem OIns.noOw (x:OIns):Go.AE.noOw x.row=true:=rfl
theorem OBlk.noOw (x:OBlk)(h:x.ok):Go.AE.noOw x.row=true:=by
 simp only[Go.AE.noOw,OBlk.row,OInts.c,List.all_cons,List.all_nil,h.p.isOw,h.i.isOw];rfl
theorem OCode.noOw (x:OCode)(h:x.ok):Go.AE.noOw x.row=true:=by
 simp only[Go.AE.noOw,OCode.row,List.all_cons,List.all_nil,h.b.isOw];rfl
variable {H:Heap}{S:Nat→Bool}
def Held (H:Heap)(S:Nat→Bool)(l:List (Nat×Obj)):Prop:=∀p∈l,H p.1=p.2∧S p.1=true
theorem Held.l {a b:List (Nat×Obj)}(h:Held H S (a++b)):Held H S a:=fun p hp=>h p (List.mem_append_left _ hp)
theorem Held.r {a b:List (Nat×Obj)}(h:Held H S (a++b)):Held H S b:=fun p hp=>h p (List.mem_append_right _ hp)
theorem Held.m {α:Type}{f:α→List (Nat×Obj)}{l:List α}(h:Held H S (l.flatMap f)){x:α}(hx:x∈l):Held H S (f x):=fun p hp=>h p (List.mem_flatMap.2 ⟨x,hx,hp⟩)
theorem OInts.frz (x:OInts)(h:Held H S x.lg):FrzC H S x.c (.sl false 1 (Qha x.ns)):=by
 obtain⟨h1,h2⟩:=h (x.y,.vec 1 (Qha x.ns)) (by simp[OInts.lg])
 exact (FrzR.same (Qmj _)).vsl h2 h1 (by simp[Qha])
theorem OPhi.frz (x:OPhi)(hok:x.ok)(h:Held H S x.lg):FrzL H S x.row (PhiD.mk x.to x.ns).cells:=by
 refine .cons (Qi rfl) (.cons ?_ .nil)
 rcases hok with ⟨y,h1,h2⟩|⟨fl,h1,h2⟩
 ·obtain⟨h3,h4⟩:=h (y,.vec 1 (Qha x.ns)) (by rw[h2];simp)
  rw[h1];exact (FrzR.same (Qmj _)).vsl h4 h3 (by simp[Qha])
 ·rw[h1];exact (FrzR.same (Qmj _)).sl
theorem OIns.frz (x:OIns)(h:Held H S x.lg):FrzL H S x.row (InsD.mk x.op x.to x.a.ns x.n).cells:=.cons (Qi rfl) (.cons (Qi rfl) (.cons (x.a.frz h) (.cons (Qi rfl) .nil)))
theorem Qaxx {α β:Type}{f:α→List C}{g:β→List C}:∀(l:List α),(∀x∈l,∃y,FrzL H S (f x) (g y))→∃l':List β,FrzR H S (l.map f) (l'.map g)∧l'.length=l.length
 |[],_=>⟨[],.nil,rfl⟩
 |x::l,h=>by
  obtain⟨y,hy⟩:=h x List.mem_cons_self
  obtain⟨l',hl',hn⟩:=Qaxx l fun z hz=>h z (List.mem_cons_of_mem _ hz)
  exact⟨y::l',.cons hy hl',by simp[hn]⟩
theorem Q26 {α β:Type}{P:β→Prop}{f:α→List C}{g:β→List C}:∀(l:List α),(∀x∈l,∃y,FrzL H S (f x) (g y)∧P y)→∃l':List β,FrzR H S (l.map f) (l'.map g)∧l'.length=l.length∧∀y∈l',P y
 |[],_=>⟨[],.nil,rfl,by simp⟩
 |x::l,h=>by
  obtain⟨y,hy,hp⟩:=h x List.mem_cons_self
  obtain⟨l',hl',hn,hps⟩:=Q26 l fun z hz=>h z (List.mem_cons_of_mem _ hz)
  refine⟨y::l',.cons hy hl',by simp[hn],fun z hz=>?_⟩
  rcases List.mem_cons.1 hz with rfl|hz
  ·exact hp
  ·exact hps z hz
theorem OBlk.frz (x:OBlk)(hok:x.ok)(h:Held H S x.lg):∃d:BlkD,FrzL H S x.row d.cells∧d.next=x.nx.ns∧d.ins.length=x.ins.length∧d.phis.length=x.phis.length:=by
 obtain⟨ps,hps,hpn⟩:=Qaxx (H:=H) (S:=S) (f:=OPhi.row) (g:=PhiD.cells) x.phis fun p hp=>⟨_,p.frz (hok.a p hp) (h.r.l.m hp)⟩
 obtain⟨is,his,hin⟩:=Qaxx (H:=H) (S:=S) (f:=OIns.row) (g:=InsD.cells) x.ins fun p hp=>⟨_,p.frz (h.r.r.r.l.m hp)⟩
 exact⟨⟨ps,is,x.jump,x.on,x.nx.ns⟩,.cons (Gr.frzM hok.p h.r.r.l hps) (.cons (Gr.frzM hok.i h.r.r.r.r his) (.cons (Qi rfl) (.cons (Qi rfl) (.cons (x.nx.frz h.l) .nil)))),rfl,hin,hpn⟩
end Go.AE.Y

namespace Go.AE.Y
structure BlkD.sm (b:BlkD):Prop where
 n:b.next.length≤2
 i:b.ins.length≤1000
 p:b.phis.length≤1000
 ia:∀x∈b.ins,x.args.length≤1000
 pa:∀x∈b.phis,x.args.length≤1000
structure CodeD.sm (c:CodeD):Prop where
 b0:0<c.blocks.length
 b:c.blocks.length≤160
 bs:∀b∈c.blocks,b.sm
 p0:0≤c.params
 p1:c.params≤1000
structure OBlk.sm (b:OBlk)(N:Nat):Prop where
 n:b.nx.ns.length≤2
 i:b.ins.length≤1000
 p:b.phis.length≤N
 ia:∀x∈b.ins,x.a.ns.length≤N
 pa:∀x∈b.phis,x.ns.length≤N
structure OCode.sm (c:OCode)(N:Nat):Prop where
 b0:0<c.blocks.length
 b:c.blocks.length≤160
 bs:∀b∈c.blocks,b.sm N
 p0:0≤c.params
 p1:c.params≤1000
theorem OBlk.sm.mono {b:OBlk}{N M:Nat}(h:b.sm N)(hm:N≤M):b.sm M:=⟨h.n,h.i,by have:=h.p;omega,fun x hx=>by have:=h.ia x hx;omega,fun x hx=>by have:=h.pa x hx;omega⟩
theorem OCode.sm.mono {c:OCode}{N M:Nat}(h:c.sm N)(hm:N≤M):c.sm M:=⟨h.b0,h.b,fun b hb=>(h.bs b hb).mono hm,h.p0,h.p1⟩
structure BlkD.sg (b:BlkD):Prop where
 n:b.next.length≤1000000
 i:b.ins.length≤1000000
 p:b.phis.length≤1000000
 ia:∀x∈b.ins,x.args.length≤1000000
 pa:∀x∈b.phis,x.args.length≤1000000
structure CodeD.sg (c:CodeD):Prop where
 b:c.blocks.length≤1000000
 bs:∀b∈c.blocks,b.sg
theorem BlkD.sm.sg {b:BlkD}(h:b.sm):b.sg:=⟨by have:=h.n;omega,by have:=h.i;omega,by have:=h.p;omega,fun x hx=>by have:=h.ia x hx;omega,fun x hx=>by have:=h.pa x hx;omega⟩
theorem CodeD.sm.sg {c:CodeD}(h:c.sm):c.sg:=⟨by have:=h.b;omega,fun b hb=>(h.bs b hb).sg⟩
structure CodeD.gd (c:CodeD):Prop where
 b0:0<c.blocks.length
 b1:c.blocks.length≤160
 n:∀b∈c.blocks,b.next.length≤2
 f:c.fits
 s:c.sg
theorem CodeD.sm.fits {c:CodeD}(h:c.sm):c.fits:=fun b hb=>⟨by have:=(h.bs b hb).i;omega,by have:=(h.bs b hb).p;omega⟩
theorem CodeD.sm.gd {c:CodeD}(h:c.sm):c.gd:=⟨h.b0,h.b,fun b hb=>(h.bs b hb).n,h.fits,h.sg⟩
theorem BlkD.sm.o {o:OBlk}(h:o.d.sm):o.sm 1000:=
 ⟨h.n,by have:=h.i;simp only[OBlk.d,List.length_map]at this;exact this,by have:=h.p;simp only[OBlk.d,List.length_map]at this;exact this,fun x hx=>h.ia x.d (List.mem_map.2 ⟨x,hx,rfl⟩),fun x hx=>h.pa x.d (List.mem_map.2 ⟨x,hx,rfl⟩)⟩
theorem CodeD.sm.o {o:OCode}(h:o.d.sm):o.sm 1000:=
 ⟨by have:=h.b0;simp only[OCode.d,List.length_map]at this;exact this,by have:=h.b;simp only[OCode.d,List.length_map]at this;exact this,fun b hb=>(h.bs b.d (List.mem_map.2 ⟨b,hb,rfl⟩)).o,h.p0,h.p1⟩
variable {H:Heap}{S:Nat→Bool}
theorem Qad7 {α β:Type}{f:α→List C}{g:β→List C}{d:α→β}:∀(l:List α),(∀x∈l,FrzL H S (f x) (g (d x)))→FrzR H S (l.map f) ((l.map d).map g)
 |[],_=>.nil
 |x::l,h=>.cons (h x List.mem_cons_self) (Qad7 l fun z hz=>h z (List.mem_cons_of_mem _ hz))
theorem OBlk.frzD (x:OBlk)(hok:x.ok)(h:Held H S x.lg):FrzL H S x.row x.d.cells:=by
 have hps:=Qad7 (H:=H) (S:=S) (f:=OPhi.row) (g:=PhiD.cells) (d:=OPhi.d) x.phis fun p hp=>p.frz (hok.a p hp) (h.r.l.m hp)
 have his:=Qad7 (H:=H) (S:=S) (f:=OIns.row) (g:=InsD.cells) (d:=OIns.d) x.ins fun p hp=>p.frz (h.r.r.r.l.m hp)
 exact .cons (Gr.frzM hok.p h.r.r.l hps) (.cons (Gr.frzM hok.i h.r.r.r.r his) (.cons (Qi rfl) (.cons (Qi rfl) (.cons (x.nx.frz h.l) .nil))))
theorem OCode.frz (x:OCode){N:Nat}(hN:N≤100000)(hok:x.ok)(hs:x.sm N)(h:Held H S x.lg):∃d:CodeD,FrzL H S x.row d.cells∧d.gd:=by
 have hbs:=Qad7 (H:=H) (S:=S) (f:=OBlk.row) (g:=BlkD.cells) (d:=OBlk.d) x.blocks fun b hb=>b.frzD (hok.bs b hb) (h.l.m hb)
 have hb0:=hs.b0
 have hb1:=hs.b
 have hd:∀d∈x.blocks.map OBlk.d,d.next.length≤2∧d.ins.length≤1000∧d.phis.length≤N∧(∀i∈d.ins,i.args.length≤N)∧∀i∈d.phis,i.args.length≤N:=fun d hd=>by
  obtain⟨b,hb,rfl⟩:=List.mem_map.1 hd
  have hsb:=hs.bs b hb
  refine⟨hsb.n,by simpa[OBlk.d]using hsb.i,by simpa[OBlk.d]using hsb.p,fun i hi=>?_,fun i hi=>?_⟩
  ·obtain⟨y,hy,rfl⟩:=List.mem_map.1 hi
   exact hsb.ia y hy
  ·obtain⟨y,hy,rfl⟩:=List.mem_map.1 hi
   exact hsb.pa y hy
 refine⟨⟨x.params,x.regs,x.blocks.map OBlk.d⟩,.cons (Qi rfl) (.cons (Qi rfl) (.cons (Gr.frzM hok.b h.r hbs) .nil)),by simpa using hb0,by simpa using hb1,fun b hb=>(hd b hb).1,fun b hb=>?_,by simp only[List.length_map];omega,fun b hb=>?_⟩
 ·obtain⟨h1,h2,h3,h4,h5⟩:=hd b hb
  omega
 ·obtain⟨h1,h2,h3,h4,h5⟩:=hd b hb
  exact⟨by omega,by omega,by omega,fun i hi=>by have:=h4 i hi;omega,fun i hi=>by have:=h5 i hi;omega⟩
theorem OCodes.frz {N:Nat}(hN:N≤100000){us:List OCode}{cc:C}{cl:List (Nat×Obj)}(hg:Gr cl 3 (us.map OCode.row) cc)(hu:∀u∈us,u.ok∧u.sm N)(h:Held H S (us.flatMap OCode.lg++cl)) :
  ∃cs:List CodeD,FrzC H S cc (.sl false 3 (Qa76 cs))∧cs.length=us.length∧∀c∈cs,c.gd:=by
 obtain⟨cs,h1,h2,h3⟩:=Q26 (H:=H) (S:=S) (P:=CodeD.gd) (f:=OCode.row) (g:=CodeD.cells) us fun u hu2=>u.frz hN (hu u hu2).1 (hu u hu2).2 (h.l.m hu2)
 exact⟨cs,Gr.frzM hg h.r h1,h2,h3⟩
end Go.AE.Y

namespace Go.AE
variable {P:Program}
end Go.AE
namespace Go.AE.Y
structure UPhi where
 to:Int
 ns:List Int
 ac:C
 al:List (Nat×Obj)
def UPhi.row (x:UPhi):List C:=[.int .i64 x.to,x.ac]
structure UBlk where
 phis:List UPhi
 pc:C
 pl:List (Nat×Obj)
 ins:List InsD
 ic:C
 il:List (Nat×Obj)
 jump:Int
 on:Int
 nfl:Bool
 next:List Int
def UBlk.row (x:UBlk):List C:=[x.pc,x.ic,.int .i64 x.jump,.int .i64 x.on,.sl x.nfl 1 (Qha x.next)]
def UBlk.lg (x:UBlk):List (Nat×Obj):=x.il++(x.phis.flatMap UPhi.al++x.pl)
structure UBlk.ok (x:UBlk):Prop where
 p:Gr x.pl 2 (x.phis.map UPhi.row) x.pc
 i:Gr x.il 4 (Qbhx x.ins) x.ic
 a:∀p∈x.phis,Gr p.al 1 (Qha p.ns) p.ac
structure UBlk.sm (b:UBlk)(N:Nat):Prop where
 n:b.next.length≤2
 i:b.ins.length≤1000
 p:b.phis.length≤N
 ia:∀x∈b.ins,x.args.length≤1000
 pa:∀x∈b.phis,x.ns.length≤1000
structure UCode where
 params:Int
 regs:Int
 blocks:List UBlk
 bc:C
 bl:List (Nat×Obj)
def UCode.row (x:UCode):List C:=[.int .i64 x.params,.int .i64 x.regs,x.bc]
def UCode.lg (x:UCode):List (Nat×Obj):=x.blocks.flatMap UBlk.lg++x.bl
structure UCode.ok (x:UCode):Prop where
 b:Gr x.bl 5 (x.blocks.map UBlk.row) x.bc
 bs:∀b∈x.blocks,b.ok
 p0:0≤x.params
 p1:x.params≤3
structure UCode.sm (c:UCode)(N:Nat):Prop where
 b0:0<c.blocks.length
 b:c.blocks.length≤160
 bs:∀b∈c.blocks,b.sm N
theorem UPhi.noOw (x:UPhi)(h:Gr x.al 1 (Qha x.ns) x.ac):Go.AE.noOw x.row=true:=by
 simp only[Go.AE.noOw,UPhi.row,List.all_cons,List.all_nil,h.isOw];rfl
theorem UBlk.noOw (x:UBlk)(h:x.ok):Go.AE.noOw x.row=true:=by
 simp only[Go.AE.noOw,UBlk.row,List.all_cons,List.all_nil,h.p.isOw,h.i.isOw];rfl
theorem UCode.noOw (x:UCode)(h:x.ok):Go.AE.noOw x.row=true:=by
 simp only[Go.AE.noOw,UCode.row,List.all_cons,List.all_nil,h.b.isOw];rfl
theorem UBlk.sm.mono {b:UBlk}{N M:Nat}(h:b.sm N)(hm:N≤M):b.sm M:=⟨h.n,h.i,by have:=h.p;omega,h.ia,h.pa⟩
theorem UCode.sm.mono {c:UCode}{N M:Nat}(h:c.sm N)(hm:N≤M):c.sm M:=⟨h.b0,h.b,fun b hb=>(h.bs b hb).mono hm⟩
variable {H:Heap}{S:Nat→Bool}
theorem UBlk.frz (x:UBlk){N:Nat}(hN:N≤1000)(hok:x.ok)(hs:x.sm N)(h:Held H S x.lg):∃d:BlkD,FrzL H S x.row d.cells∧d.sm:=by
 obtain⟨ps,hps,hpn,hpp⟩:=Q26 (H:=H) (S:=S) (P:=fun p:PhiD=>p.args.length≤1000) (f:=UPhi.row) (g:=PhiD.cells) x.phis fun p hp=>
  ⟨⟨p.to,p.ns⟩,.cons (Qi rfl) (.cons (Gr.frzM (hok.a p hp) (h.r.l.m hp) (FrzR.same (Qmj _))) .nil),hs.pa p hp⟩
 have h1:=hs.n
 have h2:=hs.i
 have h3:=hs.p
 exact⟨⟨ps,x.ins,x.jump,x.on,x.next⟩,.cons (Gr.frzM hok.p h.r.r hps) (.cons (Gr.frzM hok.i h.l (FrzR.same (Qa4x _))) (.cons (Qi rfl) (.cons (Qi rfl) (.cons (FrzR.same (Qmj _)).sl .nil)))),
  h1,h2,by show ps.length≤_;omega,hs.ia,hpp⟩
theorem UCode.frz (x:UCode){N:Nat}(hN:N≤1000)(hok:x.ok)(hs:x.sm N)(h:Held H S x.lg):∃d:CodeD,FrzL H S x.row d.cells∧d.sm:=by
 obtain⟨bs,hbs,hbn,hbp⟩:=Q26 (H:=H) (S:=S) (P:=BlkD.sm) (f:=UBlk.row) (g:=BlkD.cells) x.blocks fun b hb=>b.frz hN (hok.bs b hb) (hs.bs b hb) (h.l.m hb)
 have hb0:=hs.b0
 have hb1:=hs.b
 exact⟨⟨x.params,x.regs,bs⟩,.cons (Qi rfl) (.cons (Qi rfl) (.cons (Gr.frzM hok.b h.r hbs) .nil)),by show 0<bs.length;omega,by show bs.length≤_;omega,hbp,hok.p0,by have:=hok.p1;show x.params≤_;omega⟩
theorem UCodes.frz {us:List UCode}{N:Nat}(hN:N≤1000){cc:C}{cl:List (Nat×Obj)}(hg:Gr cl 3 (us.map UCode.row) cc)(hu:∀u∈us,u.ok∧u.sm N)(h:Held H S (us.flatMap UCode.lg++cl)) :
  ∃cs:List CodeD,FrzC H S cc (.sl false 3 (Qa76 cs))∧cs.length=us.length∧∀c∈cs,c.sm:=by
 obtain⟨cs,h1,h2,h3⟩:=Q26 (H:=H) (S:=S) (P:=CodeD.sm) (f:=UCode.row) (g:=CodeD.cells) us fun u hu2=>u.frz hN (hu u hu2).1 (hu u hu2).2 (h.l.m hu2)
 exact⟨cs,Gr.frzM hg h.r h1,h2,h3⟩
end Go.AE.Y

namespace Go.AE.Y
def UCode.put (u:UCode)(bi:Nat)(b:UBlk)(bl:List (Nat×Obj)):UCode:={ u with blocks:=u.blocks.set bi b,bl:=bl }
end Go.AE.Y

namespace Go.AE.Y
open Go.Proofs.Tryz
variable {H:Heap}{K:V→Heap→Prop}
end Go.AE.Y

namespace Go.AE.Y
open Go.Proofs.Tryz
variable {H:Heap}{K:V→Heap→Prop}
end Go.AE.Y

namespace Go.AE.Y
open Go.Proofs.Tryz
variable {H:Heap}{K:V→Heap→Prop}
theorem InsD.take4 (x:InsD):x.cells.take 4=x.cells:=rfl
theorem InsD.allOw (x:InsD):(x.cells.all fun c=>!c.isOw)=true:=rfl
end Go.AE.Y

namespace Go.AE.Y
open Go.Proofs.Tryz
variable {H:Heap}{K:V→Heap→Prop}
end Go.AE.Y

namespace Go.AE.Y
open Go.Proofs.Tryz
variable {H:Heap}{K:V→Heap→Prop}
theorem BlkD.allOw (x:BlkD):(x.cells.all fun c=>!c.isOw)=true:=rfl
theorem CodeD.allOw (x:CodeD):(x.cells.all fun c=>!c.isOw)=true:=rfl
end Go.AE.Y

namespace Go.AE.Y
open Go.Proofs.Tryz
variable {H:Heap}{K:V→Heap→Prop}
end Go.AE.Y

namespace Go.AE.Y
open Go.Proofs.Tryz
variable {H:Heap}{K:V→Heap→Prop}
end Go.AE.Y

namespace Go.AE.Y
open Go.Proofs.Tryz
variable {H:Heap}{K:V→Heap→Prop}
end Go.AE.Y
namespace Go.AE
open Go.AE.Y
open Go.Proofs.Tryz
variable {H:Heap}{K:V→Heap→Prop}
theorem Gr.slc {H0 H:Heap}{E B Lg:List (Nat×Obj)}{sz:Nat}{rows:List (List C)}{c:C}(h:Gr Lg sz rows c)(kn:Kn H0 H E (B++Lg)):Slc H sz rows c:=by
 obtain⟨h1,h2⟩:=h.get kn
 exact⟨h1,h.elemSz,h2,h.lenC⟩
end Go.AE
namespace Go.AE.Y
open Go.Proofs.Tryz
variable {H:Heap}{K:V→Heap→Prop}
end Go.AE.Y
namespace Go.AE
open Go.AE.Y
open Go.Proofs.Tryz
variable {H:Heap}{K:V→Heap→Prop}
theorem Gr.ne {H0 H:Heap}{E B Lg:List (Nat×Obj)}{sz:Nat}{rows:List (List C)}{c:C}{r:Nat}{o:Obj}(h:Gr Lg sz rows c)(kn:Kn H0 H E (B++Lg))(hr:(r,o)∈E):∀l a d n,c=.vsl l a d n→l≠r:=by
 intro l a d n hc hh
 rcases h with ⟨h1,_⟩|⟨y,h1,h2⟩
 ·rw[h1]at hc;simp at hc
 ·rw[h1]at hc
  have hy:y=l:=by injection hc
  have:=kn.loc (y,.vec sz rows) (by rw[h2];simp)
  exact kn.ext (r,o) hr (by rw[←hh,←hy];exact this)
end Go.AE
namespace Go.AE.Y
open Go.Proofs.Tryz
variable {H:Heap}{K:V→Heap→Prop}
end Go.AE.Y

namespace Go.AE.Y
open Go.Proofs.Tryz
variable {H:Heap}{K:V→Heap→Prop}
end Go.AE.Y

namespace Go.AE.Y
open Go.Proofs.Tryz
end Go.AE.Y

namespace Go.AE.Y
open Go.Proofs.Tryz
variable {H:Heap}{K:V→Heap→Prop}
end Go.AE.Y

namespace Go.AE.Y
open Go.Proofs.Tryz
variable {H:Heap}{K:V→Heap→Prop}
end Go.AE.Y

namespace Go.AE.Y
open Go.Proofs.Tryz
variable {H H0:Heap}{K:V→Heap→Prop}
end Go.AE.Y

namespace Go.AE.Y
open Go.Proofs.Tryz
variable {H H0:Heap}{K:V→Heap→Prop}
end Go.AE.Y

namespace Go.AE.Y
open Go.Proofs.Tryz
variable {H H0:Heap}{K:V→Heap→Prop}
end Go.AE.Y

namespace Go.AE.Y
attribute [local instance] Classical.propDecidable
variable {g:Nat→List Nat}{n h:Nat}
variable {O W:List Nat}{b:Nat}
end Go.AE.Y

namespace Go.AE.Y
open Go.Proofs.Tryz
variable {H H0:Heap}{K:V→Heap→Prop}
end Go.AE.Y

namespace Go.AE.Y
open Go.Proofs.Tryz
variable {H H0:Heap}{K:V→Heap→Prop}
end Go.AE.Y

namespace Go.AE.Y
open Go.Proofs.Tryz
variable {H H0:Heap}{K:V→Heap→Prop}
end Go.AE.Y

namespace Go.AE.Y
variable {P:Program}{H:Heap}{g:G}{w:World}
end Go.AE.Y

namespace Go.Proofs
open Go.Shelf
end Go.Proofs

namespace Go.AE.Y
open Go.Proofs.Tryz
variable {H H0:Heap}{K:V→Heap→Prop}{E B Lg:List (Nat×Obj)}
end Go.AE.Y

namespace Go.AE.Y
open Go.Proofs.Tryz
variable {H H0:Heap}{K:V→Heap→Prop}
end Go.AE.Y

namespace Go.AE.Y
open Go.Proofs.Tryz
variable {H H0:Heap}{K:V→Heap→Prop}{E B Lg:List (Nat×Obj)}
end Go.AE.Y

namespace Go.AE.Y
attribute [local go_sem] cond_true cond_false Bool.not_true Bool.not_false
open Go.Proofs.Tryz
variable {H H0 F:Heap}{K:V→Heap→Prop}{E E' L:List (Nat×Obj)}
end Go.AE.Y

namespace Go.AE.Y
open Go.Proofs.Tryz
end Go.AE.Y

namespace Go.AE.Y
attribute [local go_sem] cond_true cond_false Bool.not_true Bool.not_false
attribute [local instance] Classical.propDecidable
open Go.Proofs.Tryz
variable {H H0:Heap}{K:V→Heap→Prop}{E B Lg:List (Nat×Obj)}{fns:List Fn}
end Go.AE.Y

namespace Go.AE.Y
attribute [local go_sem] cond_true cond_false Bool.not_true Bool.not_false
open Go.Proofs.Tryz
variable {H H0 F:Heap}{K:V→Heap→Prop}{E B Lg:List (Nat×Obj)}{fns:List Fn}
theorem Qa36 {S:Nat→Bool}{rows:List (List C)}{fl:Bool}(hr:∀r∈rows,noOw r=true)(b:Bool):FrzV H S (.tup [.ag [.sl fl 3 rows],.c (.bool b)]) (.tup [.ag [.sl false 3 rows],.c (.bool b)]):=by
 refine .tup _ _ rfl fun j x x' h1 h2=>?_
 rcases j with _|_|j
 ·simp only[List.getElem?_cons_zero,Option.some.injEq]at h1 h2
  subst h1 h2
  exact (FrzL.cons (FrzR.same hr).sl .nil).ag
 ·simp only[List.getElem?_cons_succ,List.getElem?_cons_zero,Option.some.injEq]at h1 h2
  subst h1 h2
  exact .c _ _ (Qi rfl)
 ·simp at h1
theorem Qat3 (h:Qmn fns=true):∀f∈fns,f.params.length≤3:=by
 intro f hf
 simp only[Qmn,Bool.and_eq_true,decide_eq_true_eq,List.all_eq_true]at h
 have:=h.1.2 f hf
 rw[Fn.form]at this
 simp only[Bool.and_eq_true,decide_eq_true_eq]at this
 exact this.1.2
end Go.AE.Y

namespace Go.AE.Y
attribute [local go_sem] cond_true cond_false Bool.not_true Bool.not_false
open Go.Proofs.Tryz
variable {H H0 F:Heap}{K:V→Heap→Prop}{E B Lg:List (Nat×Obj)}{fns:List Fn}
end Go.AE.Y

namespace Go.AE.Y
open Go.Proofs.Tryz
def Qld:List Item:=[fI 6 (.bld [.sl true 3 []] [(0,1,.t 5)]),sJ 1 2 6]
def Q0x:SC:=sR (fJ 3 0 1::lJ 4 3::eI 5 (.call Qdu [.t 4,.k (.c (.fn Qql []))])::Qld) [2] .ret
def Q6n:SC:=sR [vJ 1 0,eI 2 (.alloc [.sl true 3 []])] [1,2] Q0x
theorem Q5u:mFn prog Qgd 1 7 Q6n Qa3u=true:=by kernel_rfl
def Qdf:List Item:=[mJ 3 16]
def Qly:SC:=cT 18 (sR [fB 2 true] [2] .ret) .skip
def Qdg:List Item:=[mJ 5 24]
def Qdh:List Item:=sJ 1 4 23::Qdg
def Qdi:List Item:=mJ 19 22::fI 23 (.ext (.t 19) 0)::fI 24 (.ext (.t 19) 1)::eI 4 (.alloc [.sl true 3 []])::Qdh
def Qdj:List Item:=aJ 22 Qez [.t 21]::Qdi
def Qdk:List Item:=[sJ 1 6 26]
def Qdl:List Item:=eI 6 (.alloc [.sl true 3 []])::Qdk
def Qdm:List Item:=[mJ 8 31]
def Qdn:List Item:=sJ 1 7 30::Qdm
def Qcp:List Item:=mJ 27 29::fI 30 (.ext (.t 27) 0)::fI 31 (.ext (.t 27) 1)::eI 7 (.alloc [.sl true 3 []])::Qdn
def Qcq:List Item:=[oJ 35 34,mJ 36 35,gFm 37 36 8,gFm 38 36 5,gF 39 36 (.bin 1 .neq (.t 37) (.t 38)),pT 40 36 39]
def Qjx:SC:=cT 40 (sR [fB 2 false] [2] .ret) .skip
def Qcr:List Item:=[oJ 45 44]
def Qcs:List Item:=.chk 41 none (.ld 1 true (.t 6))::aJ 44 Qcg [.t 41,.t 43]::Qcr
def Qjy:SC:=cT 45 (sR [fB 2 false] [2] .ret) .skip
def Qct:List Item:=[mJ 9 48]
def Qcu:List Item:=[gF 55 51 (.not (.t 54)),pT 56 51 55,mJ 57 56,gFm 58 57 8,gFm 59 57 5,gF 60 57 (.bin 1 .neq (.t 58) (.t 59)),pT 61 57 60]
def Qjz:SC:=cT 61 (sR [fB 2 false] [2] .ret) .skip
def Qcv:List Item:=[mJ 10 64]
def Qcw:List Item:=[mJ 11 67]
def Qj0:SC:=cT 69 (sR [fB 2 false] [2] .ret) .skip
def Qj1:SC:=cT 72 (sR [fB 2 false] [2] .ret) .skip
def Qcx:List Item:=[mJ 13 78]
def Qcy:List Item:=sJ 1 12 77::Qcx
def Qcz:List Item:=mJ 73 76::fI 77 (.ext (.t 73) 0)::fI 78 (.ext (.t 73) 1)::eI 12 (.alloc [.sl true 3 []])::Qcy
def Qc0:List Item:=aJ 76 Qbe [.t 75]::Qcz
def Qc1:List Item:=[oJ 82 81,mJ 83 82,gFm 84 83 13,gFm 85 83 5,gF 86 83 (.bin 1 .neq (.t 84) (.t 85)),pT 87 83 86]
def Qj2:SC:=cT 87 (sR [fB 2 false] [2] .ret) .skip
def Qc2:List Item:=[mJ 11 90]
def Qj3:SC:=cT 92 (sR [fB 2 false] [2] .ret) .skip
def Qj4:SC:=cT 95 (sR [fB 2 false] [2] .ret) .skip
def Qj5:SC:=sR [fB 2 true] [2] .ret
def Qj6:SC:=.seq (sR [mJ 93 11,mJ 94 10,bJ 95 .neq 93 94] [95] Qj4) Qj5
def Qj7:SC:=.seq (sR [mJ 91 11,cJ 92 .lss 91 0] [10,11,92] Qj3) Qj6
def Qj8:SC:=sR (tJ 88 1 7::mJ 89 11::aJ 90 Qel [.t 88,.t 89]::Qc2) [10,11] Qj7
def Qj9:SC:=sR [zJ 11 1] [7,10,11] Qj8
def Qka:SC:=.seq (sR (tJ 79 1 12::tJ 80 1 4::aJ 81 Qcg [.t 79,.t 80]::Qc1) [7,10,87] Qj2) Qj9
def Qkb:SC:=sR (tJ 74 1 1::aJ 75 Qbv [.t 74]::Qc0) [4,5,7,10,12,13] Qka
def Qkc:SC:=.seq (sR [mJ 70 11,mJ 71 10,bJ 72 .neq 70 71] [1,4,5,7,10,72] Qj1) Qkb
def Qkd:SC:=.seq (sR [mJ 68 11,cJ 69 .lss 68 0] [1,4,5,7,10,11,69] Qj0) Qkc
def Qke:SC:=sR (tJ 65 1 7::mJ 66 11::aJ 67 Qel [.t 65,.t 66]::Qcw) [1,4,5,7,10,11] Qkd
def Qkf:SC:=sR [zJ 11 1] [1,4,5,7,10,11] Qke
def Qkg:SC:=sR (tJ 62 1 7::mJ 63 10::aJ 64 Qem [.t 62,.t 63]::Qcv) [1,4,5,7,10] Qkf
def Qkh:SC:=sR [zJ 10 1] [1,4,5,7,10] Qkg
def Qki:SC:=.seq (sR (mJ 49 9::cJ 50 .lss 49 0::mJ 51 50::gF 52 51 (.ld 1 true (.t 7))::gF 53 51 (.ld 1 true (.t 4))::.e (some 54) (some (51,false)) (.call Qcg [.t 52,.t 53])::Qcu) [1,4,5,7,61] Qjz) Qkh
def Qkj:SC:=sR (tJ 46 1 6::mJ 47 9::aJ 48 Qem [.t 46,.t 47]::Qct) [1,4,5,7,8,9] Qki
def Qkk:SC:=sR [zJ 9 1] [1,4,5,6,7,8,9] Qkj
def Qkl:SC:=.seq (.seq (.dreg 5 [0,1,2,0,3,4] ( tJ 41 1 6::tJ 42 1 1::aJ 43 Qbv [.t 42]::Qcs) [1,4,5,6,7,8,45]) Qjy) Qkk
def Qkm:SC:=.seq (sR (tJ 32 1 7::tJ 33 1 4::aJ 34 Qcg [.t 32,.t 33]::Qcq) [1,4,5,6,7,8,40] Qjx) Qkl
def Qkn:SC:=sR (tJ 28 1 6::aJ 29 Qbe [.t 28]::Qcp) [1,4,5,6,7,8] Qkm
def Qko:SC:=sR (tJ 25 1 1::aJ 26 Qbv [.t 25]::Qdl) [1,4,5,6] Qkn
def Qkp:SC:=sR (tJ 20 1 1::aJ 21 Qbv [.t 20]::Qdj) [1,4,5] Qko
def Qkq:SC:=.seq (sR [mJ 17 3,cJ 18 .lss 17 0] [1,18] Qly) Qkp
def Qkr:SC:=sR (tJ 14 1 1::mJ 15 3::aJ 16 Qd7 [.t 14,.t 15]::Qdf) [1,3] Qkq
def Qks:SC:=sR [zJ 3 1048576] [1,3] Qkr
def Qm9:SC:=sR [vJ 1 0,fB 2 false] [1] Qks
theorem Qm8:mFn prog Qbu 1 96 Qm9 Qic=true:=by kernel_rfl
def Qaq3:SC:=cT 9 (sR [fB 4 false] [4] .ret) .skip
def Qaq4:SC:=cT 14 (sR [fB 4 false] [4] .ret) .skip
def Qaq5:SC:=cT 19 (sR [fB 4 false] [4] .ret) .skip
def Qzk:List Item:=[oJ 25 24]
def Qaq6:SC:=cT 25 (sR [fB 4 false] [4] .ret) .skip
def Qaq7:SC:=sR [fB 4 true] [4] .ret
def Qaq8:SC:=.seq (sR (fJ 20 3 2::lJ 21 20::fJ 22 3 3::lJ 23 22::aJ 24 Qlv [.t 21,.t 23]::Qzk) [25] Qaq6) Qaq7
def Qaq9:SC:=.seq (sR [fJ 15 2 2,lJ 16 15,fJ 17 2 3,lJ 18 17,bJ 19 .neq 16 18] [2,3,19] Qaq5) Qaq8
def Qara:SC:=.seq (sR [fJ 10 1 2,lJ 11 10,fJ 12 1 3,lJ 13 12,bJ 14 .neq 11 13] [2,3,14] Qaq4) Qaq9
def Qarb:SC:=.seq (sR [fJ 5 0 2,lJ 6 5,fJ 7 0 3,lJ 8 7,bJ 9 .neq 6 8] [2,3,9] Qaq3) Qara
def Qa1u:SC:=sR [vJ 2 0,vJ 3 1,fB 4 false] [2,3] Qarb
theorem Qaye:mFn prog Qnd 2 26 Qa1u Qat4=true:=by kernel_rfl
def Qalg:SC:=cT 10 (sR [fB 4 false] [4] .ret) .skip
def Qvt:List Item:=[oJ 26 25]
def Qalh:SC:=cT 26 (sR [fB 4 false] [4] .ret) .skip
def Qali:SC:=.reg [mJ 15 5,cJ 16 .add 15 1,mJ 5 16] [0,1,5]
def Qalj:SC:=.seq (.block 1 (.seq (.dreg 10 [0,1,2,3,4,5,6,7,8,9] ( mJ 17 0::mJ 18 5::iJ 19 4 17 18::tJ 20 4 19::mJ 21 1::mJ 22 5::iJ 23 4 21 22::tJ 24 4 23::aJ 25 Qnd [.t 20,.t 24]::Qvt) [0,1,5,26]) Qalh)) Qali
def Qain:SC:=.seq (sR [mJ 11 5,mJ 12 0,nJ 13 12,bJ 14 .lss 11 13] [0,1,5,14] (cT 14 .skip (.exit 0))) Qalj
def Qalk:SC:=sR [fB 4 true] [4] .ret
def Qall:SC:=.seq (sR [zJ 5 0] [0,1,5] (bL 0 Qain)) Qalk
def Qalm:SC:=.seq (sR [mJ 6 0,nJ 7 6,mJ 8 1,nJ 9 8,bJ 10 .neq 7 9] [0,1,10] Qalg) Qall
def Qav6:SC:=sR [fB 4 false] [0,1] Qalm
theorem Qats:mFn prog Qlv 2 27 Qav6 Qat4=true:=by kernel_rfl
def Qa1v:SC:=cT 9 (sR [fB 4 false] [4] .ret) .skip
def Q92:List Item:=[oJ 15 14]
def Qa1w:SC:=cT 15 (sR [fB 4 false] [4] .ret) .skip
def Q93:List Item:=[oJ 21 20]
def Qa1x:SC:=cT 21 (sR [fB 4 false] [4] .ret) .skip
def Qa1y:SC:=sR [fB 4 true] [4] .ret
def Qa1z:SC:=.seq (sR (fJ 16 2 2::lJ 17 16::fJ 18 2 3::lJ 19 18::aJ 20 Qgg [.t 17,.t 19]::Q93) [21] Qa1x) Qa1y
def Qa10:SC:=.seq (sR (fJ 10 1 2::lJ 11 10::fJ 12 1 3::lJ 13 12::aJ 14 Qmg [.t 11,.t 13]::Q92) [2,3,15] Qa1w) Qa1z
def Qa11:SC:=.seq (sR [fJ 5 0 2,lJ 6 5,fJ 7 0 3,lJ 8 7,bJ 9 .neq 6 8] [2,3,9] Qa1v) Qa10
def Qbbw:SC:=sR [vJ 2 0,vJ 3 1,fB 4 false] [2,3] Qa11
theorem Qa90:mFn prog Qxg 2 22 Qbbw Qat4=true:=by kernel_rfl
def Qav7:SC:=cT 10 (sR [fB 4 false] [4] .ret) .skip
def Q35:List Item:=[oJ 26 25]
def Qav8:SC:=cT 26 (sR [fB 4 false] [4] .ret) .skip
def Qav9:SC:=.reg [mJ 15 5,cJ 16 .add 15 1,mJ 5 16] [0,1,5]
def Qawa:SC:=.seq (.block 1 (.seq (.dreg 10 [0,1,2,3,4,5,6,7,8,9] ( mJ 17 0::mJ 18 5::iJ 19 3 17 18::tJ 20 3 19::mJ 21 1::mJ 22 5::iJ 23 3 21 22::tJ 24 3 23::aJ 25 Qxg [.t 20,.t 24]::Q35) [0,1,5,26]) Qav8)) Qav9
def Qarc:SC:=.seq (sR [mJ 11 5,mJ 12 0,nJ 13 12,bJ 14 .lss 11 13] [0,1,5,14] (cT 14 .skip (.exit 0))) Qawa
def Qawb:SC:=sR [fB 4 true] [4] .ret
def Qawc:SC:=.seq (sR [zJ 5 0] [0,1,5] (bL 0 Qarc)) Qawb
def Qawd:SC:=.seq (sR [mJ 6 0,nJ 7 6,mJ 8 1,nJ 9 8,bJ 10 .neq 7 9] [0,1,10] Qav7) Qawc
def Qa7c:SC:=sR [fB 4 false] [0,1] Qawd
theorem Qa44:mFn prog Qz5 2 27 Qa7c Qat4=true:=by kernel_rfl
def Qpp:List Item:=[oJ 10 9]
def Qab9:SC:=cT 10 (sR [fB 4 false] [4] .ret) .skip
def Qaca:SC:=sR [fB 4 true] [4] .ret
def Qacb:SC:=.seq (sR (fJ 5 0 2::lJ 6 5::fJ 7 0 3::lJ 8 7::aJ 9 Qz5 [.t 6,.t 8]::Qpp) [10] Qab9) Qaca
def Qaln:SC:=sR [vJ 2 0,vJ 3 1,fB 4 false] [2,3] Qacb
theorem Qajx:mFn prog Qcg 2 11 Qaln Qat4=true:=by kernel_rfl
def Qard:SC:=cT 9 (sR [fB 4 false] [4] .ret) .skip
def Qare:SC:=cT 14 (sR [fB 4 false] [4] .ret) .skip
def Qzl:List Item:=[oJ 20 19]
def Qarf:SC:=cT 20 (sR [fB 4 false] [4] .ret) .skip
def Qzm:List Item:=[oJ 26 25]
def Qarg:SC:=cT 26 (sR [fB 4 false] [4] .ret) .skip
def Qzn:List Item:=[oJ 32 31]
def Qarh:SC:=cT 32 (sR [fB 4 false] [4] .ret) .skip
def Qari:SC:=sR [fB 4 true] [4] .ret
def Qarj:SC:=.seq (sR (fJ 27 4 2::lJ 28 27::fJ 29 4 3::lJ 30 29::aJ 31 Qgg [.t 28,.t 30]::Qzn) [32] Qarh) Qari
def Qalv:SC:=.seq (sR (fJ 21 3 2::lJ 22 21::fJ 23 3 3::lJ 24 23::aJ 25 Qgg [.t 22,.t 24]::Qzm) [2,3,26] Qarg) Qarj
def Qalw:SC:=.seq (sR (fJ 15 2 2::lJ 16 15::fJ 17 2 3::lJ 18 17::aJ 19 Qlv [.t 16,.t 18]::Qzl) [2,3,20] Qarf) Qalv
def Qalx:SC:=.seq (sR [fJ 10 1 2,lJ 11 10,fJ 12 1 3,lJ 13 12,bJ 14 .neq 11 13] [2,3,14] Qare) Qalw
def Qaly:SC:=.seq (sR [fJ 5 0 2,lJ 6 5,fJ 7 0 3,lJ 8 7,bJ 9 .neq 6 8] [2,3,9] Qard) Qalx
def Qa12:SC:=sR [vJ 2 0,vJ 3 1,fB 4 false] [2,3] Qaly
theorem Qayf:mFn prog Qne 2 33 Qa12 Qat4=true:=by kernel_rfl
def Qalo:SC:=cT 10 (sR [fB 4 false] [4] .ret) .skip
def Qvu:List Item:=[oJ 26 25]
def Qalp:SC:=cT 26 (sR [fB 4 false] [4] .ret) .skip
def Qalq:SC:=.reg [mJ 15 5,cJ 16 .add 15 1,mJ 5 16] [0,1,5]
def Qalr:SC:=.seq (.block 1 (.seq (.dreg 10 [0,1,2,3,4,5,6,7,8,9] ( mJ 17 0::mJ 18 5::iJ 19 5 17 18::tJ 20 5 19::mJ 21 1::mJ 22 5::iJ 23 5 21 22::tJ 24 5 23::aJ 25 Qne [.t 20,.t 24]::Qvu) [0,1,5,26]) Qalp)) Qalq
def Qaio:SC:=.seq (sR [mJ 11 5,mJ 12 0,nJ 13 12,bJ 14 .lss 11 13] [0,1,5,14] (cT 14 .skip (.exit 0))) Qalr
def Qals:SC:=sR [fB 4 true] [4] .ret
def Qalt:SC:=.seq (sR [zJ 5 0] [0,1,5] (bL 0 Qaio)) Qals
def Qalu:SC:=.seq (sR [mJ 6 0,nJ 7 6,mJ 8 1,nJ 9 8,bJ 10 .neq 7 9] [0,1,10] Qalo) Qalt
def Qawe:SC:=sR [fB 4 false] [0,1] Qalu
theorem Qatt:mFn prog Qgg 2 27 Qawe Qat4=true:=by kernel_rfl
def Qacc:SC:=cT 10 (sR [fB 4 false] [4] .ret) .skip
def Qacd:SC:=cT 25 (sR [fB 4 false] [4] .ret) .skip
def Qace:SC:=.reg [mJ 15 5,cJ 16 .add 15 1,mJ 5 16] [0,1,5]
def Qacf:SC:=.seq (.block 1 (.seq (.dreg 9 [0,1,2,3,4,5,6,7,8] ( mJ 17 0::mJ 18 5::iJ 19 1 17 18::lJ 20 19::mJ 21 1::mJ 22 5::iJ 23 1 21 22::lJ 24 23::bJ 25 .neq 20 24::[]) [0,1,5,25]) Qacd)) Qace
def Q7f:SC:=.seq (sR [mJ 11 5,mJ 12 0,nJ 13 12,bJ 14 .lss 11 13] [0,1,5,14] (cT 14 .skip (.exit 0))) Qacf
def Qacg:SC:=sR [fB 4 true] [4] .ret
def Qach:SC:=.seq (sR [zJ 5 0] [0,1,5] (bL 0 Q7f)) Qacg
def Qaci:SC:=.seq (sR [mJ 6 0,nJ 7 6,mJ 8 1,nJ 9 8,bJ 10 .neq 7 9] [0,1,10] Qacc) Qach
def Qalz:SC:=sR [fB 4 false] [0,1] Qaci
theorem Qajy:mFn prog Qmg 2 26 Qalz Qat4=true:=by kernel_rfl
def Qacj:SC:=cT 18 (sR [zJ 4 (-1)] [4] .ret) .skip
def Qack:SC:=cT 27 (sR [zJ 4 (-1)] [4] .ret) .skip
def Qpq:List Item:=[.chk 32 none (.iad 4 (.t 30) (.t 31)),hJ 34 33,bJ 37 .neq 34 36]
def Qacl:SC:=cT 37 (sR [zJ 4 (-1)] [4] .ret) .skip
def Qpr:List Item:=[mJ 1 46]
def Qacm:SC:=cT 48 (sR [zJ 4 (-1)] [4] .ret) .skip
def Qacn:SC:=sR [mJ 47 1,cJ 48 .lss 47 0] [0,1,5,48] Qacm
def Qaco:SC:=sR (mJ 40 0::mJ 41 5::iJ 42 4 40 41::fJ 43 3 42::lJ 44 43::mJ 45 1::aJ 46 Qgh [.t 44,.t 45]::Qpr) [0,1,5] Qacn
def Qacp:SC:=sR [mJ 38 1,cJ 39 .add 38 1,mJ 1 39] [0,1,5] Qaco
def Qacq:SC:=.seq (.seq (.dreg 8 [0,1,2,3,4,5,6,2,4,7] ( mJ 30 0::mJ 31 5::iJ 32 4 30 31::fJ 33 2 32::lJ 34 33::mJ 35 1::aJ 36 Qax [.t 35]::Qpq) [0,1,5,37]) Qacl) Qacp
def Q7g:SC:=sR [mJ 28 1,cJ 29 .add 28 1,mJ 1 29] [0,1,5] Qacq
def Q7h:SC:=.seq (sR [mJ 21 0,mJ 22 5,iJ 23 4 21 22,fJ 24 1 23,lJ 25 24,mJ 26 1,bJ 27 .neq 25 26] [0,1,5,27] Qack) Q7g
def Q7i:SC:=sR [mJ 19 1,cJ 20 .add 19 1,mJ 1 20] [0,1,5] Q7h
def Q7j:SC:=.reg [mJ 10 5,cJ 11 .add 10 1,mJ 5 11] [0,1,5]
def Q7k:SC:=.seq (.block 1 (.seq (sR [mJ 12 0,mJ 13 5,iJ 14 4 12 13,fJ 15 0 14,lJ 16 15,mJ 17 1,bJ 18 .neq 16 17] [0,1,5,18] Qacj) Q7i)) Q7j
def Q36:SC:=.seq (sR [mJ 6 5,mJ 7 0,nJ 8 7,bJ 9 .lss 6 8] [0,1,5,9] (cT 9 .skip (.exit 0))) Q7k
def Q7l:SC:=sR [mJ 49 1,mJ 4 49] [4] .ret
def Q7m:SC:=.seq (sR [zJ 5 0] [0,1,5] (bL 0 Q36)) Q7l
def Qal0:SC:=sR [zJ 4 0] [0,1] Q7m
theorem Qajz:mFn prog Qgh 2 50 Qal0 Qat4=true:=by kernel_rfl
def Qvv:List Item:=[.chk 14 none (.iad 3 (.t 12) (.t 13)),hJ 16 15,bJ 19 .neq 16 18]
def Qal1:SC:=cT 19 (sR [zJ 4 (-1)] [4] .ret) .skip
def Qvw:List Item:=[mJ 1 28]
def Qal2:SC:=cT 30 (sR [zJ 4 (-1)] [4] .ret) .skip
def Qvx:List Item:=[mJ 1 37]
def Qal3:SC:=cT 39 (sR [zJ 4 (-1)] [4] .ret) .skip
def Qal4:SC:=sR [mJ 38 1,cJ 39 .lss 38 0] [0,1,5,39] Qal3
def Qal5:SC:=sR (mJ 31 0::mJ 32 5::iJ 33 3 31 32::fJ 34 2 33::lJ 35 34::mJ 36 1::aJ 37 Qd5 [.t 35,.t 36]::Qvx) [0,1,5] Qal4
def Qal6:SC:=.seq (sR [mJ 29 1,cJ 30 .lss 29 0] [0,1,5,30] Qal2) Qal5
def Qal7:SC:=sR (mJ 22 0::mJ 23 5::iJ 24 3 22 23::fJ 25 1 24::lJ 26 25::mJ 27 1::aJ 28 Qh9 [.t 26,.t 27]::Qvw) [0,1,5] Qal6
def Qaip:SC:=sR [mJ 20 1,cJ 21 .add 20 1,mJ 1 21] [0,1,5] Qal7
def Qaiq:SC:=.reg [mJ 10 5,cJ 11 .add 10 1,mJ 5 11] [0,1,5]
def Qair:SC:=.seq (.block 1 (.seq (.seq (.dreg 8 [0,1,2,3,4,5,6,2,4,7] ( mJ 12 0::mJ 13 5::iJ 14 3 12 13::fJ 15 0 14::lJ 16 15::mJ 17 1::aJ 18 Qax [.t 17]::Qvv) [0,1,5,19]) Qal1) Qaip)) Qaiq
def Qacr:SC:=.seq (sR [mJ 6 5,mJ 7 0,nJ 8 7,bJ 9 .lss 6 8] [0,1,5,9] (cT 9 .skip (.exit 0))) Qair
def Qais:SC:=sR [mJ 40 1,mJ 4 40] [4] .ret
def Qait:SC:=.seq (sR [zJ 5 0] [0,1,5] (bL 0 Qacr)) Qais
def Qawf:SC:=sR [zJ 4 0] [0,1] Qait
theorem Qatu:mFn prog Qqo 2 41 Qawf Qat4=true:=by kernel_rfl
def Qm2:List Item:=[mJ 1 8]
def Q37:SC:=cT 10 (sR [zJ 4 (-1)] [4] .ret) .skip
def Q38:SC:=sR [mJ 11 1,mJ 4 11] [4] .ret
def Q39:SC:=.seq (sR [mJ 9 1,cJ 10 .lss 9 0] [1,10] Q37) Q38
def Q4a:SC:=sR (fJ 5 0 2::lJ 6 5::mJ 7 1::aJ 8 Qqo [.t 6,.t 7]::Qm2) [1] Q39
def Qacs:SC:=sR [vJ 2 0,zJ 4 0] [1,2] Q4a
theorem Qaaf:mFn prog Qel 2 12 Qacs Qat4=true:=by kernel_rfl
def Qact:SC:=cT 18 (sR [zJ 4 (-1)] [4] .ret) .skip
def Qps:List Item:=[.chk 23 none (.iad 5 (.t 21) (.t 22)),hJ 25 24,bJ 28 .neq 25 27]
def Qacu:SC:=cT 28 (sR [zJ 4 (-1)] [4] .ret) .skip
def Qpt:List Item:=[mJ 1 37]
def Qacv:SC:=cT 39 (sR [zJ 4 (-1)] [4] .ret) .skip
def Qpu:List Item:=[mJ 1 46]
def Qacw:SC:=cT 48 (sR [zJ 4 (-1)] [4] .ret) .skip
def Qpv:List Item:=[mJ 1 55]
def Qacx:SC:=cT 57 (sR [zJ 4 (-1)] [4] .ret) .skip
def Qacy:SC:=sR [mJ 56 1,cJ 57 .lss 56 0] [0,1,5,57] Qacx
def Q7n:SC:=sR (mJ 49 0::mJ 50 5::iJ 51 5 49 50::fJ 52 4 51::lJ 53 52::mJ 54 1::aJ 55 Qd5 [.t 53,.t 54]::Qpv) [0,1,5] Qacy
def Q7o:SC:=.seq (sR [mJ 47 1,cJ 48 .lss 47 0] [0,1,5,48] Qacw) Q7n
def Q7p:SC:=sR (mJ 40 0::mJ 41 5::iJ 42 5 40 41::fJ 43 3 42::lJ 44 43::mJ 45 1::aJ 46 Qd5 [.t 44,.t 45]::Qpu) [0,1,5] Q7o
def Q7q:SC:=.seq (sR [mJ 38 1,cJ 39 .lss 38 0] [0,1,5,39] Qacv) Q7p
def Q7r:SC:=sR (mJ 31 0::mJ 32 5::iJ 33 5 31 32::fJ 34 2 33::lJ 35 34::mJ 36 1::aJ 37 Qgh [.t 35,.t 36]::Qpt) [0,1,5] Q7q
def Q7s:SC:=sR [mJ 29 1,cJ 30 .add 29 1,mJ 1 30] [0,1,5] Q7r
def Q7t:SC:=.seq (.seq (.dreg 8 [0,1,2,3,4,5,6,2,4,7] ( mJ 21 0::mJ 22 5::iJ 23 5 21 22::fJ 24 1 23::lJ 25 24::mJ 26 1::aJ 27 Qax [.t 26]::Qps) [0,1,5,28]) Qacu) Q7s
def Q7u:SC:=sR [mJ 19 1,cJ 20 .add 19 1,mJ 1 20] [0,1,5] Q7t
def Q7v:SC:=.reg [mJ 10 5,cJ 11 .add 10 1,mJ 5 11] [0,1,5]
def Q7w:SC:=.seq (.block 1 (.seq (sR [mJ 12 0,mJ 13 5,iJ 14 5 12 13,fJ 15 0 14,lJ 16 15,mJ 17 1,bJ 18 .neq 16 17] [0,1,5,18] Qact) Q7u)) Q7v
def Q4b:SC:=.seq (sR [mJ 6 5,mJ 7 0,nJ 8 7,bJ 9 .lss 6 8] [0,1,5,9] (cT 9 .skip (.exit 0))) Q7w
def Q7x:SC:=sR [mJ 58 1,mJ 4 58] [4] .ret
def Q7y:SC:=.seq (sR [zJ 5 0] [0,1,5] (bL 0 Q4b)) Q7x
def Qal8:SC:=sR [zJ 4 0] [0,1] Q7y
theorem Qaj0:mFn prog Qd5 2 59 Qal8 Qat4=true:=by kernel_rfl
def Qm3:List Item:=[.chk 14 none (.iad 1 (.t 12) (.t 13)),hJ 15 14,bJ 18 .neq 15 17]
def Q4c:SC:=cT 18 (sR [zJ 4 (-1)] [4] .ret) .skip
def Q4d:SC:=.reg [mJ 19 1,cJ 20 .add 19 1,mJ 1 20] [0,1,5]
def Q4e:SC:=.reg [mJ 10 5,cJ 11 .add 10 1,mJ 5 11] [0,1,5]
def Q4f:SC:=.seq (.block 1 (.seq (.seq (.dreg 7 [0,1,2,3,4,5,2,3,6] ( mJ 12 0::mJ 13 5::iJ 14 1 12 13::lJ 15 14::mJ 16 1::aJ 17 Qax [.t 16]::Qm3) [0,1,5,18]) Q4c) Q4d)) Q4e
def Q09:SC:=.seq (sR [mJ 6 5,mJ 7 0,nJ 8 7,bJ 9 .lss 6 8] [0,1,5,9] (cT 9 .skip (.exit 0))) Q4f
def Q4g:SC:=sR [mJ 21 1,mJ 4 21] [4] .ret
def Q4h:SC:=.seq (sR [zJ 5 0] [0,1,5] (bL 0 Q09)) Q4g
def Qacz:SC:=sR [zJ 4 0] [0,1] Q4h
theorem Qaag:mFn prog Qh9 2 22 Qacz Qat4=true:=by kernel_rfl
def Qpw:List Item:=[iJ 30 4 26 27,fJ 31 2 30,sJ 1 31 29]
def Qpx:List Item:=[mJ 1 40]
def Qac0:SC:=.reg (mJ 34 0::mJ 35 5::iJ 36 4 34 35::fJ 37 3 36::lJ 38 37::mJ 39 1::aJ 40 Qgi [.t 38,.t 39]::Qpx) [0,1,5]
def Qac1:SC:=sR [mJ 32 1,cJ 33 .add 32 1,mJ 1 33] [0,1,5] Qac0
def Qac2:SC:=sR (mJ 26 0::mJ 27 5::mJ 28 1::aJ 29 Qax [.t 28]::Qpw) [0,1,5] Qac1
def Qac3:SC:=sR [mJ 24 1,cJ 25 .add 24 1,mJ 1 25] [0,1,5] Qac2
def Qac4:SC:=sR [mJ 19 0,mJ 20 5,mJ 21 1,iJ 22 4 19 20,fJ 23 1 22,sJ 1 23 21] [0,1,5] Qac3
def Qac5:SC:=sR [mJ 17 1,cJ 18 .add 17 1,mJ 1 18] [0,1,5] Qac4
def Qac6:SC:=.reg [mJ 10 5,cJ 11 .add 10 1,mJ 5 11] [0,1,5]
def Qac7:SC:=.seq (.block 1 (sR [mJ 12 0,mJ 13 5,mJ 14 1,iJ 15 4 12 13,fJ 16 0 15,sJ 1 16 14] [0,1,5] Qac5)) Qac6
def Q4i:SC:=.seq (sR [mJ 6 5,mJ 7 0,nJ 8 7,bJ 9 .lss 6 8] [0,1,5,9] (cT 9 .skip (.exit 0))) Qac7
def Q7z:SC:=sR [mJ 41 1,mJ 4 41] [4] .ret
def Q70:SC:=.seq (sR [zJ 5 0] [0,1,5] (bL 0 Q4i)) Q7z
def Qal9:SC:=sR [zJ 4 0] [0,1] Q70
theorem Qy1:mFn prog Qgi 2 42 Qal9 Qat4=true:=by kernel_rfl
def Qvy:List Item:=[iJ 16 3 12 13,fJ 17 0 16,sJ 1 17 15]
def Qvz:List Item:=[mJ 1 26]
def Qv0:List Item:=[mJ 1 33]
def Qama:SC:=.reg (mJ 27 0::mJ 28 5::iJ 29 3 27 28::fJ 30 2 29::lJ 31 30::mJ 32 1::aJ 33 Qd6 [.t 31,.t 32]::Qv0) [0,1,5]
def Qamb:SC:=sR (mJ 20 0::mJ 21 5::iJ 22 3 20 21::fJ 23 1 22::lJ 24 23::mJ 25 1::aJ 26 Qia [.t 24,.t 25]::Qvz) [0,1,5] Qama
def Qamc:SC:=sR [mJ 18 1,cJ 19 .add 18 1,mJ 1 19] [0,1,5] Qamb
def Qamd:SC:=.reg [mJ 10 5,cJ 11 .add 10 1,mJ 5 11] [0,1,5]
def Qame:SC:=.seq (.block 1 (sR (mJ 12 0::mJ 13 5::mJ 14 1::aJ 15 Qax [.t 14]::Qvy) [0,1,5] Qamc)) Qamd
def Qaiv:SC:=.seq (sR [mJ 6 5,mJ 7 0,nJ 8 7,bJ 9 .lss 6 8] [0,1,5,9] (cT 9 .skip (.exit 0))) Qame
def Qamf:SC:=sR [mJ 34 1,mJ 4 34] [4] .ret
def Qaiu:SC:=.seq (sR [zJ 5 0] [0,1,5] (bL 0 Qaiv)) Qamf
def Qawg:SC:=sR [zJ 4 0] [0,1] Qaiu
theorem Q8p:mFn prog Qqp 2 35 Qawg Qat4=true:=by kernel_rfl
def Qm4:List Item:=[mJ 1 8]
def Q4j:SC:=sR [mJ 9 1,mJ 4 9] [4] .ret
def Q4k:SC:=sR (fJ 5 0 2::lJ 6 5::mJ 7 1::aJ 8 Qqp [.t 6,.t 7]::Qm4) [1] Q4j
def Qac8:SC:=sR [vJ 2 0,zJ 4 0] [1,2] Q4k
theorem Qaah:mFn prog Qem 2 10 Qac8 Qat4=true:=by kernel_rfl
def Qpy:List Item:=[iJ 23 5 19 20,fJ 24 1 23,sJ 1 24 22]
def Qpz:List Item:=[mJ 1 33]
def Qp0:List Item:=[mJ 1 40]
def Qp1:List Item:=[mJ 1 47]
def Qac9:SC:=.reg (mJ 41 0::mJ 42 5::iJ 43 5 41 42::fJ 44 4 43::lJ 45 44::mJ 46 1::aJ 47 Qd6 [.t 45,.t 46]::Qp1) [0,1,5]
def Qada:SC:=sR (mJ 34 0::mJ 35 5::iJ 36 5 34 35::fJ 37 3 36::lJ 38 37::mJ 39 1::aJ 40 Qd6 [.t 38,.t 39]::Qp0) [0,1,5] Qac9
def Qadb:SC:=sR (mJ 27 0::mJ 28 5::iJ 29 5 27 28::fJ 30 2 29::lJ 31 30::mJ 32 1::aJ 33 Qgi [.t 31,.t 32]::Qpz) [0,1,5] Qada
def Qadc:SC:=sR [mJ 25 1,cJ 26 .add 25 1,mJ 1 26] [0,1,5] Qadb
def Qadd:SC:=sR (mJ 19 0::mJ 20 5::mJ 21 1::aJ 22 Qax [.t 21]::Qpy) [0,1,5] Qadc
def Qade:SC:=sR [mJ 17 1,cJ 18 .add 17 1,mJ 1 18] [0,1,5] Qadd
def Q71:SC:=.reg [mJ 10 5,cJ 11 .add 10 1,mJ 5 11] [0,1,5]
def Q72:SC:=.seq (.block 1 (sR [mJ 12 0,mJ 13 5,mJ 14 1,iJ 15 5 12 13,fJ 16 0 15,sJ 1 16 14] [0,1,5] Qade)) Q71
def Q4l:SC:=.seq (sR [mJ 6 5,mJ 7 0,nJ 8 7,bJ 9 .lss 6 8] [0,1,5,9] (cT 9 .skip (.exit 0))) Q72
def Q73:SC:=sR [mJ 48 1,mJ 4 48] [4] .ret
def Q74:SC:=.seq (sR [zJ 5 0] [0,1,5] (bL 0 Q4l)) Q73
def Qamg:SC:=sR [zJ 4 0] [0,1] Q74
theorem Qy2:mFn prog Qd6 2 49 Qamg Qat4=true:=by kernel_rfl
def Qm5:List Item:=[iJ 16 1 12 13,sJ 1 16 15]
def Q4m:SC:=.reg [mJ 17 1,cJ 18 .add 17 1,mJ 1 18] [0,1,5]
def Q4n:SC:=.reg [mJ 10 5,cJ 11 .add 10 1,mJ 5 11] [0,1,5]
def Q4o:SC:=.seq (.block 1 (sR (mJ 12 0::mJ 13 5::mJ 14 1::aJ 15 Qax [.t 14]::Qm5) [0,1,5] Q4m)) Q4n
def Q1a:SC:=.seq (sR [mJ 6 5,mJ 7 0,nJ 8 7,bJ 9 .lss 6 8] [0,1,5,9] (cT 9 .skip (.exit 0))) Q4o
def Q4p:SC:=sR [mJ 19 1,mJ 4 19] [4] .ret
def Q4q:SC:=.seq (sR [zJ 5 0] [0,1,5] (bL 0 Q1a)) Q4p
def Qadf:SC:=sR [zJ 4 0] [0,1] Q4q
theorem Qr8:mFn prog Qia 2 20 Qadf Qat4=true:=by kernel_rfl
def Qaiw:SC:=cT 5 (sR [fI 2 (.mv (.k (.c (.str [109,48]))))] [2] .ret) .skip
def Qaix:SC:=.reg [mJ 16 0,cJ 17 .quo 16 10,mJ 0 17] [0,3]
def Qaiy:SC:=.block 1 (sR [mJ 8 0,cJ 9 .rem 8 10,fI 10 (.bin 0 .add (kI 48) (.t 9)),fI 11 (.cvt .u8 (.t 10)),fI 12 (.bsl 1 [.t 11]),fI 13 (.b2s (.t 12)),mJ 14 3,bJ 15 .add 13 14,mJ 3 15] [0,3] Qaix)
def Qadg:SC:=.seq (sR [mJ 6 0,cJ 7 .gtr 6 0] [0,3,7] (cT 7 .skip (.exit 0))) Qaiy
def Qaiz:SC:=sR [mJ 18 3,fI 19 (.bin 0 .add (.k (.c (.str [109]))) (.t 18)),mJ 2 19] [2] .ret
def Qai0:SC:=sR [fI 3 (.mv (.k (.c (.str []))))] [0,3] (.seq (bL 0 Qadg) Qaiz)
def Qai1:SC:=.seq (sR [mJ 4 0,cJ 5 .leq 4 0] [0,5] Qaiw) Qai0
def Qark:SC:=sR [fI 2 (.mv (.k (.c (.str []))))] [0] Qai1
theorem Qapy:mFn prog Qax 1 20 Qark Qic=true:=by kernel_rfl
def Qarl:SC:=cT 11 (sR [zJ 4 (-1)] [4] .ret) .skip
def Qzo:List Item:=[mJ 1 15]
def Qarm:SC:=cT 17 (sR [zJ 4 (-1)] [4] .ret) .skip
def Qarn:SC:=sR [mJ 18 1,mJ 4 18] [4] .ret
def Qaro:SC:=.seq (sR [mJ 16 1,cJ 17 .lss 16 0] [1,17] Qarm) Qarn
def Qarp:SC:=sR (fJ 12 3 2::lJ 13 12::mJ 14 1::aJ 15 Qbj [.t 13,.t 14]::Qzo) [1] Qaro
def Qarq:SC:=.seq (sR [mJ 10 1,cJ 11 .lss 10 0] [1,2,11] Qarl) Qarp
def Qarr:SC:=sR [mJ 5 1,fJ 6 2 2,lJ 7 6,fI 8 (.lensx (.t 7)),bJ 9 .sub 5 8,mJ 1 9] [1,2] Qarq
def Qa13:SC:=sR [vJ 2 0,zJ 4 0] [1,2] Qarr
theorem Qayg:mFn prog Qfr 2 19 Qa13 Qat4=true:=by kernel_rfl
def Qamh:SC:=cT 11 (sR [zJ 4 (-1)] [4] .ret) .skip
def Qv1:List Item:=[mJ 1 23]
def Qami:SC:=cT 25 (sR [zJ 4 (-1)] [4] .ret) .skip
def Qamj:SC:=sR [mJ 24 1,cJ 25 .lss 24 0] [0,1,5,25] Qami
def Qamk:SC:=.reg [mJ 16 5,cJ 17 .add 16 1,mJ 5 17] [0,1,5]
def Qaml:SC:=.seq (.block 1 (sR (mJ 18 0::mJ 19 5::iJ 20 4 18 19::tJ 21 4 20::mJ 22 1::aJ 23 Qfr [.t 21,.t 22]::Qv1) [0,1,5] Qamj)) Qamk
def Qai3:SC:=.seq (sR [mJ 12 5,mJ 13 0,fI 14 (.lenx (.t 13)),bJ 15 .lss 12 14] [0,1,5,15] (cT 15 .skip (.exit 0))) Qaml
def Qamm:SC:=sR [mJ 26 1,mJ 4 26] [4] .ret
def Qamn:SC:=.seq (sR [zJ 5 0] [0,1,5] (bL 0 Qai3)) Qamm
def Qamo:SC:=.seq (sR [mJ 10 1,cJ 11 .lss 10 0] [0,1,11] Qamh) Qamn
def Qai2:SC:=sR [mJ 6 1,mJ 7 0,fI 8 (.lenx (.t 7)),bJ 9 .sub 6 8,mJ 1 9] [0,1] Qamo
def Qawh:SC:=sR [zJ 4 0] [0,1] Qai2
theorem Q8q:mFn prog Qbj 2 27 Qawh Qat4=true:=by kernel_rfl
def Qa14:SC:=cT 11 (sR [zJ 4 (-1)] [4] .ret) .skip
def Q94:List Item:=[mJ 1 15]
def Qa15:SC:=cT 17 (sR [zJ 4 (-1)] [4] .ret) .skip
def Q95:List Item:=[mJ 1 21]
def Qa16:SC:=cT 23 (sR [zJ 4 (-1)] [4] .ret) .skip
def Qa17:SC:=sR [mJ 24 1,mJ 4 24] [4] .ret
def Qa18:SC:=.seq (sR [mJ 22 1,cJ 23 .lss 22 0] [1,23] Qa16) Qa17
def Qa19:SC:=sR (fJ 18 2 2::lJ 19 18::mJ 20 1::aJ 21 Qaz [.t 19,.t 20]::Q95) [1] Qa18
def Qa2a:SC:=.seq (sR [mJ 16 1,cJ 17 .lss 16 0] [1,2,17] Qa15) Qa19
def Qa2b:SC:=sR (fJ 12 1 2::lJ 13 12::mJ 14 1::aJ 15 Qch [.t 13,.t 14]::Q94) [1,2] Qa2a
def Qawq:SC:=.seq (sR [mJ 10 1,cJ 11 .lss 10 0] [1,2,11] Qa14) Qa2b
def Qawr:SC:=sR [mJ 5 1,fJ 6 0 2,lJ 7 6,fI 8 (.lensx (.t 7)),bJ 9 .sub 5 8,mJ 1 9] [1,2] Qawq
def Qbbx:SC:=sR [vJ 2 0,zJ 4 0] [1,2] Qawr
theorem Qa91:mFn prog Qoq 2 25 Qbbx Qat4=true:=by kernel_rfl
def Qawi:SC:=cT 11 (sR [zJ 4 (-1)] [4] .ret) .skip
def Q4r:List Item:=[mJ 1 23]
def Qawj:SC:=cT 25 (sR [zJ 4 (-1)] [4] .ret) .skip
def Qawk:SC:=sR [mJ 24 1,cJ 25 .lss 24 0] [0,1,5,25] Qawj
def Qawl:SC:=.reg [mJ 16 5,cJ 17 .add 16 1,mJ 5 17] [0,1,5]
def Qawm:SC:=.seq (.block 1 (sR (mJ 18 0::mJ 19 5::iJ 20 3 18 19::tJ 21 3 20::mJ 22 1::aJ 23 Qoq [.t 21,.t 22]::Q4r) [0,1,5] Qawk)) Qawl
def Qart:SC:=.seq (sR [mJ 12 5,mJ 13 0,fI 14 (.lenx (.t 13)),bJ 15 .lss 12 14] [0,1,5,15] (cT 15 .skip (.exit 0))) Qawm
def Qawn:SC:=sR [mJ 26 1,mJ 4 26] [4] .ret
def Qawo:SC:=.seq (sR [zJ 5 0] [0,1,5] (bL 0 Qart)) Qawn
def Qawp:SC:=.seq (sR [mJ 10 1,cJ 11 .lss 10 0] [0,1,11] Qawi) Qawo
def Qars:SC:=sR [mJ 6 1,mJ 7 0,fI 8 (.lenx (.t 7)),bJ 9 .sub 6 8,mJ 1 9] [0,1] Qawp
def Qa7d:SC:=sR [zJ 4 0] [0,1] Qars
theorem Qan4:mFn prog Qib 2 27 Qa7d Qat4=true:=by kernel_rfl
def Qp2:List Item:=[mJ 1 8]
def Qadh:SC:=cT 10 (sR [zJ 4 (-1)] [4] .ret) .skip
def Qadi:SC:=sR [mJ 11 1,mJ 4 11] [4] .ret
def Qadj:SC:=.seq (sR [mJ 9 1,cJ 10 .lss 9 0] [1,10] Qadh) Qadi
def Qadk:SC:=sR (fJ 5 0 2::lJ 6 5::mJ 7 1::aJ 8 Qib [.t 6,.t 7]::Qp2) [1] Qadj
def Qamp:SC:=sR [vJ 2 0,zJ 4 0] [1,2] Qadk
theorem Qaj1:mFn prog Qd7 2 12 Qamp Qat4=true:=by kernel_rfl
def Qaru:SC:=cT 11 (sR [zJ 4 (-1)] [4] .ret) .skip
def Qzp:List Item:=[mJ 1 15]
def Qarv:SC:=cT 17 (sR [zJ 4 (-1)] [4] .ret) .skip
def Qzq:List Item:=[mJ 1 21]
def Qarw:SC:=cT 23 (sR [zJ 4 (-1)] [4] .ret) .skip
def Qzr:List Item:=[mJ 1 27]
def Qarx:SC:=cT 29 (sR [zJ 4 (-1)] [4] .ret) .skip
def Qary:SC:=sR [mJ 30 1,mJ 4 30] [4] .ret
def Qarz:SC:=.seq (sR [mJ 28 1,cJ 29 .lss 28 0] [1,29] Qarx) Qary
def Qar0:SC:=sR (fJ 24 4 2::lJ 25 24::mJ 26 1::aJ 27 Qaz [.t 25,.t 26]::Qzr) [1] Qarz
def Qamy:SC:=.seq (sR [mJ 22 1,cJ 23 .lss 22 0] [1,2,23] Qarw) Qar0
def Qamz:SC:=sR (fJ 18 3 2::lJ 19 18::mJ 20 1::aJ 21 Qaz [.t 19,.t 20]::Qzq) [1,2] Qamy
def Qam0:SC:=.seq (sR [mJ 16 1,cJ 17 .lss 16 0] [1,2,17] Qarv) Qamz
def Qam1:SC:=sR (fJ 12 2 2::lJ 13 12::mJ 14 1::aJ 15 Qbj [.t 13,.t 14]::Qzp) [1,2] Qam0
def Qam2:SC:=.seq (sR [mJ 10 1,cJ 11 .lss 10 0] [1,2,11] Qaru) Qam1
def Qam3:SC:=sR [mJ 5 1,fJ 6 1 2,lJ 7 6,fI 8 (.lensx (.t 7)),bJ 9 .sub 5 8,mJ 1 9] [1,2] Qam2
def Qa2c:SC:=sR [vJ 2 0,zJ 4 0] [1,2] Qam3
theorem Qayh:mFn prog Qfs 2 31 Qa2c Qat4=true:=by kernel_rfl
def Qamq:SC:=cT 11 (sR [zJ 4 (-1)] [4] .ret) .skip
def Qv2:List Item:=[mJ 1 23]
def Qamr:SC:=cT 25 (sR [zJ 4 (-1)] [4] .ret) .skip
def Qams:SC:=sR [mJ 24 1,cJ 25 .lss 24 0] [0,1,5,25] Qamr
def Qamt:SC:=.reg [mJ 16 5,cJ 17 .add 16 1,mJ 5 17] [0,1,5]
def Qamu:SC:=.seq (.block 1 (sR (mJ 18 0::mJ 19 5::iJ 20 5 18 19::tJ 21 5 20::mJ 22 1::aJ 23 Qfs [.t 21,.t 22]::Qv2) [0,1,5] Qams)) Qamt
def Qai5:SC:=.seq (sR [mJ 12 5,mJ 13 0,fI 14 (.lenx (.t 13)),bJ 15 .lss 12 14] [0,1,5,15] (cT 15 .skip (.exit 0))) Qamu
def Qamv:SC:=sR [mJ 26 1,mJ 4 26] [4] .ret
def Qamw:SC:=.seq (sR [zJ 5 0] [0,1,5] (bL 0 Qai5)) Qamv
def Qamx:SC:=.seq (sR [mJ 10 1,cJ 11 .lss 10 0] [0,1,11] Qamq) Qamw
def Qai4:SC:=sR [mJ 6 1,mJ 7 0,fI 8 (.lenx (.t 7)),bJ 9 .sub 6 8,mJ 1 9] [0,1] Qamx
def Qaws:SC:=sR [zJ 4 0] [0,1] Qai4
theorem Q8r:mFn prog Qaz 2 27 Qaws Qat4=true:=by kernel_rfl
def Qadl:SC:=cT 11 (sR [zJ 4 (-1)] [4] .ret) .skip
def Qadm:SC:=cT 26 (sR [zJ 4 (-1)] [4] .ret) .skip
def Qadn:SC:=sR [mJ 25 1,cJ 26 .lss 25 0] [0,1,5,26] Qadm
def Qado:SC:=.reg [mJ 16 5,cJ 17 .add 16 1,mJ 5 17] [0,1,5]
def Qadp:SC:=.seq (.block 1 (sR [mJ 18 1,mJ 19 0,mJ 20 5,iJ 21 1 19 20,lJ 22 21,fI 23 (.lensx (.t 22)),bJ 24 .sub 18 23,mJ 1 24] [0,1,5] Qadn)) Qado
def Q75:SC:=.seq (sR [mJ 12 5,mJ 13 0,fI 14 (.lenx (.t 13)),bJ 15 .lss 12 14] [0,1,5,15] (cT 15 .skip (.exit 0))) Qadp
def Qadq:SC:=sR [mJ 27 1,mJ 4 27] [4] .ret
def Qadr:SC:=.seq (sR [zJ 5 0] [0,1,5] (bL 0 Q75)) Qadq
def Qads:SC:=.seq (sR [mJ 10 1,cJ 11 .lss 10 0] [0,1,11] Qadl) Qadr
def Qadt:SC:=sR [mJ 6 1,mJ 7 0,fI 8 (.lenx (.t 7)),bJ 9 .sub 6 8,mJ 1 9] [0,1] Qads
def Qam4:SC:=sR [zJ 4 0] [0,1] Qadt
theorem Qy3:mFn prog Qch 2 28 Qam4 Qat4=true:=by kernel_rfl
def Qzs:List Item:=[fJ 16 3 3,sJ 1 16 15]
def Qar1:SC:=sR [tJ 17 4 3,sJ 4 2 17] [2] .ret
def Qar2:SC:=sR (fJ 13 3 1::lJ 14 13::aJ 15 Qlw [.t 14]::Qzs) [2,3] Qar1
def Qar3:SC:=sR [fJ 10 2 1,lJ 11 10,fJ 12 2 3,sJ 1 12 11] [1,2,3] Qar2
def Qar4:SC:=sR [fJ 7 1 1,lJ 8 7,fJ 9 1 3,sJ 1 9 8] [1,2,3] Qar3
def Qar5:SC:=sR [fJ 4 0 1,lJ 5 4,fJ 6 0 3,sJ 1 6 5] [1,2,3] Qar4
def Qar6:SC:=sR [eI 3 (.alloc [.int .i64 0,.int .i64 0,.str [],.sl true 4 []])] [1,2,3] Qar5
def Qa2d:SC:=sR [vJ 1 0,eI 2 (.alloc [.int .i64 0,.int .i64 0,.str [],.sl true 4 []])] [1,2] Qar6
theorem Qayi:mFn prog Qnf 1 18 Qa2d Qy7=true:=by kernel_rfl
def Qv3:List Item:=[mJ 3 7]
def Qv4:List Item:=[iJ 21 4 14 15,sJ 4 21 20]
def Qam5:SC:=.reg [mJ 12 4,cJ 13 .add 12 1,mJ 4 13] [0,3,4]
def Qam6:SC:=.seq (.block 1 (.reg (mJ 14 3::mJ 15 4::mJ 16 0::mJ 17 4::iJ 18 4 16 17::tJ 19 4 18::aJ 20 Qnf [.t 19]::Qv4) [0,3,4])) Qam5
def Qai6:SC:=.seq (sR [mJ 8 4,mJ 9 0,nJ 10 9,bJ 11 .lss 8 10] [0,3,4,11] (cT 11 .skip (.exit 0))) Qam6
def Qam7:SC:=sR [mJ 22 3,mJ 2 22] [2] .ret
def Qam8:SC:=.seq (sR [zJ 4 0] [0,3,4] (bL 0 Qai6)) Qam7
def Qam9:SC:=sR (mJ 5 0::nJ 6 5::eI 7 (.mks 4 [.int .i64 0,.int .i64 0,.str [],.sl true 4 []] (.t 6))::Qv3) [0,3] Qam8
def Qawt:SC:=sR [fI 2 (.mv (.k (.c (.sl true 4 []))))] [0] Qam9
theorem Qatv:mFn prog Qlw 1 23 Qawt Qic=true:=by kernel_rfl
def Q96:List Item:=[fJ 10 1 3,sJ 1 10 9]
def Q97:List Item:=[fJ 14 2 3,sJ 1 14 13]
def Qa2e:SC:=sR [tJ 15 3 3,sJ 3 2 15] [2] .ret
def Qa2f:SC:=sR (fJ 11 2 1::lJ 12 11::aJ 13 Qgj [.t 12]::Q97) [2,3] Qa2e
def Qa2g:SC:=sR (fJ 7 1 1::lJ 8 7::aJ 9 Qmh [.t 8]::Q96) [1,2,3] Qa2f
def Qa2h:SC:=sR [fJ 4 0 1,lJ 5 4,fJ 6 0 3,sJ 1 6 5] [1,2,3] Qa2g
def Qa2i:SC:=sR [eI 3 (.alloc [.str [],.sl true 1 [],.sl true 5 []])] [1,2,3] Qa2h
def Qbby:SC:=sR [vJ 1 0,eI 2 (.alloc [.str [],.sl true 1 [],.sl true 5 []])] [1,2] Qa2i
theorem Qa92:mFn prog Qxh 1 16 Qbby Q8x=true:=by kernel_rfl
def Q4s:List Item:=[mJ 3 7]
def Q4t:List Item:=[iJ 21 3 14 15,sJ 3 21 20]
def Qawu:SC:=.reg [mJ 12 4,cJ 13 .add 12 1,mJ 4 13] [0,3,4]
def Qawv:SC:=.seq (.block 1 (.reg (mJ 14 3::mJ 15 4::mJ 16 0::mJ 17 4::iJ 18 3 16 17::tJ 19 3 18::aJ 20 Qxh [.t 19]::Q4t) [0,3,4])) Qawu
def Qar7:SC:=.seq (sR [mJ 8 4,mJ 9 0,nJ 10 9,bJ 11 .lss 8 10] [0,3,4,11] (cT 11 .skip (.exit 0))) Qawv
def Qaww:SC:=sR [mJ 22 3,mJ 2 22] [2] .ret
def Qawx:SC:=.seq (sR [zJ 4 0] [0,3,4] (bL 0 Qar7)) Qaww
def Qawy:SC:=sR (mJ 5 0::nJ 6 5::eI 7 (.mks 3 [.str [],.sl true 1 [],.sl true 5 []] (.t 6))::Q4s) [0,3] Qawx
def Qa7e:SC:=sR [fI 2 (.mv (.k (.c (.sl true 3 []))))] [0] Qawy
theorem Qa45:mFn prog Qz6 1 23 Qa7e Qic=true:=by kernel_rfl
def Qp3:List Item:=[fJ 7 0 3,sJ 1 7 6]
def Qadu:SC:=sR [tJ 8 1 3,sJ 1 2 8] [2] .ret
def Qadv:SC:=sR (fJ 4 0 1::lJ 5 4::aJ 6 Qz6 [.t 5]::Qp3) [2,3] Qadu
def Qadw:SC:=sR [eI 3 (.alloc [.sl true 3 []])] [1,2,3] Qadv
def Qana:SC:=sR [vJ 1 0,eI 2 (.alloc [.sl true 3 []])] [1,2] Qadw
theorem Qaj2:mFn prog Qbv 1 9 Qana Qa3u=true:=by kernel_rfl
def Qzt:List Item:=[fJ 13 2 3,sJ 1 13 12]
def Qzu:List Item:=[fJ 17 3 3,sJ 1 17 16]
def Qzv:List Item:=[fJ 21 4 3,sJ 1 21 20]
def Qar8:SC:=sR [tJ 22 5 3,sJ 5 2 22] [2] .ret
def Qar9:SC:=sR (fJ 18 4 1::lJ 19 18::aJ 20 Qgj [.t 19]::Qzv) [2,3] Qar8
def Qasa:SC:=sR (fJ 14 3 1::lJ 15 14::aJ 16 Qgj [.t 15]::Qzu) [1,2,3] Qar9
def Qasb:SC:=sR (fJ 10 2 1::lJ 11 10::aJ 12 Qlw [.t 11]::Qzt) [1,2,3] Qasa
def Qasc:SC:=sR [fJ 7 1 1,lJ 8 7,fJ 9 1 3,sJ 1 9 8] [1,2,3] Qasb
def Qasd:SC:=sR [fJ 4 0 1,lJ 5 4,fJ 6 0 3,sJ 1 6 5] [1,2,3] Qasc
def Qase:SC:=sR [eI 3 (.alloc [.int .i64 0,.str [],.sl true 4 [],.sl true 5 [],.sl true 5 []])] [1,2,3] Qasd
def Qa2j:SC:=sR [vJ 1 0,eI 2 (.alloc [.int .i64 0,.str [],.sl true 4 [],.sl true 5 [],.sl true 5 []])] [1,2] Qase
theorem Qayj:mFn prog Qng 1 23 Qa2j Qy8=true:=by kernel_rfl
def Qv5:List Item:=[mJ 3 7]
def Qv6:List Item:=[iJ 21 5 14 15,sJ 5 21 20]
def Qanb:SC:=.reg [mJ 12 4,cJ 13 .add 12 1,mJ 4 13] [0,3,4]
def Qanc:SC:=.seq (.block 1 (.reg (mJ 14 3::mJ 15 4::mJ 16 0::mJ 17 4::iJ 18 5 16 17::tJ 19 5 18::aJ 20 Qng [.t 19]::Qv6) [0,3,4])) Qanb
def Qai7:SC:=.seq (sR [mJ 8 4,mJ 9 0,nJ 10 9,bJ 11 .lss 8 10] [0,3,4,11] (cT 11 .skip (.exit 0))) Qanc
def Qand:SC:=sR [mJ 22 3,mJ 2 22] [2] .ret
def Qane:SC:=.seq (sR [zJ 4 0] [0,3,4] (bL 0 Qai7)) Qand
def Qanf:SC:=sR (mJ 5 0::nJ 6 5::eI 7 (.mks 5 [.int .i64 0,.str [],.sl true 4 [],.sl true 5 [],.sl true 5 []] (.t 6))::Qv5) [0,3] Qane
def Qawz:SC:=sR [fI 2 (.mv (.k (.c (.sl true 5 []))))] [0] Qanf
theorem Qatw:mFn prog Qgj 1 23 Qawz Qic=true:=by kernel_rfl
def Qp4:List Item:=[mJ 3 7]
def Qadx:SC:=.reg [mJ 12 4,cJ 13 .add 12 1,mJ 4 13] [0,3,4]
def Qady:SC:=.seq (.block 1 (.reg [mJ 14 3,mJ 15 4,mJ 16 0,mJ 17 4,iJ 18 1 16 17,lJ 19 18,iJ 20 1 14 15,sJ 1 20 19] [0,3,4])) Qadx
def Q76:SC:=.seq (sR [mJ 8 4,mJ 9 0,nJ 10 9,bJ 11 .lss 8 10] [0,3,4,11] (cT 11 .skip (.exit 0))) Qady
def Qadz:SC:=sR [mJ 21 3,mJ 2 21] [2] .ret
def Qad0:SC:=.seq (sR [zJ 4 0] [0,3,4] (bL 0 Q76)) Qadz
def Qad1:SC:=sR (mJ 5 0::nJ 6 5::eI 7 (.mks 1 [.str []] (.t 6))::Qp4) [0,3] Qad0
def Qang:SC:=sR [fI 2 (.mv (.k (.c (.sl true 1 []))))] [0] Qad1
theorem Qaj3:mFn prog Qmh 1 22 Qang Qic=true:=by kernel_rfl
end Go.AE.Y

namespace Go.AE
theorem Qasj {dn:List (List C)}{i n:Nat}{zr cs:List C}(hd:dn.length=i)(hi:i<n)(hl:cs.length=zr.length) :
  (dn++List.replicate (n-i) zr).set (0+i) (cs++List.drop cs.length ((dn++List.replicate (n-i) zr).getD (0+i) []))=(dn++[cs])++List.replicate (n-(i+1)) zr:=by
 obtain⟨m,hm⟩:∃m,n-i=m+1:=⟨n-i-1,by omega⟩
 have hm2:n-(i+1)=m:=by omega
 have hr:(dn++List.replicate (n-i) zr).getD i []=zr:=by
  rw[List.getD_eq_getElem?_getD,List.getElem?_append_right (by omega),hm]
  simp[hd]
 rw[Nat.zero_add,hr,hl,List.drop_length,List.append_nil,hm2,hm,List.replicate_succ,List.set_append_right _ _ (by omega)]
 simp[hd]
end Go.AE
namespace Go.AE.Y
attribute [local go_sem] cond_true cond_false Bool.not_true Bool.not_false
open Go.Proofs.Tryz
variable {H H0 F:Heap}{K:V→Heap→Prop}{E B Lg:List (Nat×Obj)}{fns:List Fn}
theorem Qaw9 {l:List Ex}{fl:Bool}(hf:∀x∈l,∀(H1:Heap) (K':V→Heap→Prop),(∀H2 L cs,Kn H1 H2 [] L→OwL L cs x.cells→K' (.ag cs) H2)→Ql prog Qnf [.ag x.cells] H1 K')
  (hK:∀H' L t,Kn H H' [] L→OwS L 4 (Qm l) t→K (.c t) H'):Ql prog Qlw [.c (.sl fl 4 (Qm l))] H K:=by
 refine Qc Qah Qatv ?_
 refine Qa ?_
 simp only[go_sem]
 refine Qa ?_
 simp only[go_sem,Qh]
 intro hl
 simp only[LIM]at hl
 refine⟨by simp only[LIM];omega,fun y hy H1 h1=>?_⟩
 have kn:=(Kn.start0 H).al hy h1
 simp only[go_sem,Qv3]
 refine Qu ?_
 refine Qa ?_
 simp only[go_sem]
 refine Qe (Qf (Qy (fun m e1 H1=>∃(i:Nat) (M:List (Nat×Obj)) (dn:List (List C)),m=l.length-i∧i≤l.length∧dn.length=i∧(∀r∈dn,r.length=4)∧OwL M dn.flatten (Qm (l.take i)).flatten∧
  Kn H H1 [] ([(y,.vec 4 (dn++List.replicate (l.length-i) ([.int .i64 0,.int .i64 0,.str [],.sl true 4 []]:List C)))]++M)∧
  e1=[(0,.c (.sl fl 4 (Qm l))),(3,.c (.vsl y 4 0 l.length)),(4,.c (.int .i64 i))]) l.length ?_ ?_))
 ·exact⟨0,[],[],by omega,by omega,rfl,by simp,.nil,kn,rfl⟩
 ·rintro m e1 H1 ⟨i,M,dn,hm,hi,hdn,hr4,how,kn,rfl⟩
  refine Qu ?_
  refine Qa ?_
  simp only[go_sem,Qh]
  intro _
  refine Qe (Qb rfl ?_ ?_)
  ·intro hc
   have hlt:i<l.length:=by simpa using hc
   obtain⟨x,hx⟩:∃x,l[i]=x:=⟨_,rfl⟩
   have hxm:x∈l:=by rw[←hx];exact List.getElem_mem hlt
   have htk:Qm (l.take (i+1))=Qm (l.take i)++[x.cells]:=by
    rw[Qei,List.take_succ_eq_append_getElem hlt,hx]
   refine Qd ?_
   try simp only[go_sem]
   refine Qe (Qf ?_)
   refine Qp ?_
   simp only[go_sem,hlt,Qh,Q6 _ _ hlt,hx,Ex.take4,Ex.allOw,Ex.cells_len]
   refine hf x hxm H1 _ fun H5 L2 cs k2 ho=>?_
   have hcl:cs.length=4:=by rw[←ho.len,x.cells_len]
   have kn:=kn.comp0 k2
   have gy:=kn.l 0 rfl
   have hlen:(dn++List.replicate (l.length-i) ([.int .i64 0,.int .i64 0,.str [],.sl true 4 []]:List C)).length=l.length:=by rw[List.length_append,List.length_replicate];omega
   obtain⟨R,hR⟩:∃R,dn++List.replicate (l.length-i) ([.int .i64 0,.int .i64 0,.str [],.sl true 4 []]:List C)=R:=⟨_,rfl⟩
   rw[hR]at gy hlen
   simp only[go_sem,Qv4,hcl,gy,hlen,hlt]
   refine⟨by omega,by omega,fun H6 h6=>?_⟩
   have e:=Qasj (zr:=([.int .i64 0,.int .i64 0,.str [],.sl true 4 []]:List C)) (cs:=cs) hdn hlt hcl
   rw[hR,hcl]at e
   rw[e]at h6
   have kn:Kn H H6 [] ([(y,.vec 4 ((dn++[cs])++List.replicate (l.length-(i+1)) ([.int .i64 0,.int .i64 0,.str [],.sl true 4 []]:List C)))]++(M++L2)):=kn.stL 0 rfl h6
   refine Qp ?_
   simp only[go_sem,AE.X.next]
   refine⟨Qr (by omega) (by omega),l.length-(i+1),by omega,i+1,M++L2,dn++[cs],rfl,by omega,by simp[hdn],?_,?_,kn,rfl⟩
   ·intro r hr
    rcases List.mem_append.1 hr with hr|hr
    ·exact hr4 r hr
    ·rw[List.mem_singleton.1 hr];exact hcl
   ·rw[htk]
    simp only[List.flatten_append,List.flatten_cons,List.flatten_nil,List.append_nil]
    exact how.app ho
  ·intro hc
   have hge:l.length≤i:=by simpa using hc
   rw[List.take_of_length_le hge]at how
   have h0:l.length-i=0:=by omega
   rw[h0,List.replicate_zero,List.append_nil]at kn
   have hn:l.length=dn.length:=by omega
   refine Qt ?_
   simp only[go_sem,AE.X.next]
   refine Qa ?_
   simp only[go_sem]
   refine Qg ?_
   simp only[go_sem,Qq,Qz,Qic,List.mem_singleton,forall_eq,RS.op]
   exact hK _ _ _ kn (.inr ⟨y,M,dn,by rw[hn],rfl,by rw[Qh,hn],hr4,Qa8f,how⟩)
theorem Qa2y {l:List (List UInt8)}{fl:Bool}
  (hK:∀H' L t,Kn H H' [] L→OwS L 1 (Q1 l) t→K (.c t) H'):Ql prog Qmh [.c (.sl fl 1 (Q1 l))] H K:=by
 refine Qc Qah Qaj3 ?_
 refine Qa ?_
 simp only[go_sem]
 refine Qa ?_
 simp only[go_sem,Qv]
 intro hl
 simp only[LIM]at hl
 refine⟨by simp only[LIM];omega,fun y hy H1 h1=>?_⟩
 have kn:=(Kn.start0 H).al hy h1
 simp only[go_sem,Qp4]
 refine Qu ?_
 refine Qa ?_
 simp only[go_sem]
 refine Qe (Qf (Qy (fun m e1 H1=>∃(i:Nat) (M:List (Nat×Obj)) (dn:List (List C)),m=l.length-i∧i≤l.length∧dn.length=i∧(∀r∈dn,r.length=1)∧OwL M dn.flatten (Q1 (l.take i)).flatten∧
  Kn H H1 [] ([(y,.vec 1 (dn++List.replicate (l.length-i) ([.str []]:List C)))]++M)∧
  e1=[(0,.c (.sl fl 1 (Q1 l))),(3,.c (.vsl y 1 0 l.length)),(4,.c (.int .i64 i))]) l.length ?_ ?_))
 ·exact⟨0,[],[],by omega,by omega,rfl,by simp,.nil,kn,rfl⟩
 ·rintro m e1 H1 ⟨i,M,dn,hm,hi,hdn,hr4,how,kn,rfl⟩
  refine Qu ?_
  refine Qa ?_
  simp only[go_sem,Qv]
  intro _
  refine Qe (Qb rfl ?_ ?_)
  ·intro hc
   have hlt:i<l.length:=by simpa using hc
   obtain⟨x,hx⟩:∃x,l[i]=x:=⟨_,rfl⟩
   have htk:Q1 (l.take (i+1))=Q1 (l.take i)++[[.str x]]:=by
    rw[Q2s,List.take_succ_eq_append_getElem hlt,hx]
   refine Qd ?_
   try simp only[go_sem]
   refine Qe (Qf ?_)
   refine Qp ?_
   have hxd:l.getD i []=x:=by simp[List.getD_eq_getElem?_getD,hlt,hx]
   have gy:=kn.l 0 rfl
   have hlen:(dn++List.replicate (l.length-i) ([.str []]:List C)).length=l.length:=by rw[List.length_append,List.length_replicate];omega
   obtain⟨R,hR⟩:∃R,dn++List.replicate (l.length-i) ([.str []]:List C)=R:=⟨_,rfl⟩
   rw[hR]at gy hlen
   simp only[go_sem,hlt,Qv,Qbc _ _ hlt,hxd,gy,hlen]
   refine⟨by omega,by omega,fun H6 h6=>?_⟩
   have e:=Qasj (zr:=([.str []]:List C)) (cs:=[.str x]) hdn hlt rfl
   rw[hR]at e
   simp only[List.length_cons,List.length_nil,Nat.zero_add,Nat.reduceAdd,List.cons_append,List.nil_append]at e h6
   rw[e]at h6
   have kn:Kn H H6 [] ([(y,.vec 1 ((dn++[[.str x]])++List.replicate (l.length-(i+1)) ([.str []]:List C)))]++(M)):=kn.stL 0 rfl h6
   refine Qp ?_
   simp only[go_sem,AE.X.next]
   refine⟨Qr (by omega) (by omega),l.length-(i+1),by omega,i+1,M,dn++[[C.str x]],rfl,by omega,by simp[hdn],?_,?_,kn,rfl⟩
   ·intro r hr
    rcases List.mem_append.1 hr with hr|hr
    ·exact hr4 r hr
    ·rw[List.mem_singleton.1 hr];rfl
   ·rw[htk]
    simp only[List.flatten_append,List.flatten_cons,List.flatten_nil,List.append_nil]
    have:=how.app (.atom (c:=.str x) rfl .nil)
    rwa [List.append_nil]at this
  ·intro hc
   have hge:l.length≤i:=by simpa using hc
   rw[List.take_of_length_le hge]at how
   have h0:l.length-i=0:=by omega
   rw[h0,List.replicate_zero,List.append_nil]at kn
   have hn:l.length=dn.length:=by omega
   refine Qt ?_
   simp only[go_sem,AE.X.next]
   refine Qa ?_
   simp only[go_sem]
   refine Qg ?_
   simp only[go_sem,Qq,Qz,Qic,List.mem_singleton,forall_eq,RS.op]
   exact hK _ _ _ kn (.inr ⟨y,M,dn,by rw[hn],rfl,by rw[Qv,hn],hr4,Qasp,how⟩)
theorem Qbf7:∀(n:Nat) (x:Ex) {H:Heap} {K:V→Heap→Prop},x.size≤n→(∀H' L cs,Kn H H' [] L→OwL L cs x.cells→K (.ag cs) H')→Ql prog Qnf [.ag x.cells] H K:=by
 intro n
 induction n with
 |zero=>intro x H K h;have:=x.size_pos;omega
 |succ n ih=>
 intro x H K hn hK
 have hsz:=x.size_kids
 refine Qc Qah Qayi ?_
 refine Qa ?_
 simp only[go_sem,x.cells_eq]
 intro x2 hx2 H1 h1
 have kn:=(Kn.start0 H).al hx2 h1
 refine Qa ?_
 simp only[go_sem]
 intro x3 hx3 H2 h2
 have kn:=kn.al hx3 h2
 have g3:=kn.l 1 rfl
 refine Qa ?_
 simp only[go_sem,g3]
 intro H2 h2
 have kn:=kn.stL 1 rfl h2
 have g3:=kn.l 1 rfl
 refine Qa ?_
 simp only[go_sem,g3]
 intro H2 h2
 have kn:=kn.stL 1 rfl h2
 have g3:=kn.l 1 rfl
 refine Qa ?_
 simp only[go_sem,g3]
 intro H2 h2
 have kn:=kn.stL 1 rfl h2
 have g3:=kn.l 1 rfl
 refine Qa ?_
 simp only[go_sem,g3]
 refine Qaw9 (fun y hy H1 K' hK'=>ih y (by have:=Qac hy;omega) hK') fun H3 L t k2 ho=>?_
 have kn:=kn.comp0 k2
 have g3:=kn.l 1 rfl
 have hto:=ho.isOw
 simp only[go_sem,Qzs,g3,hto]
 intro H4 h4
 have kn:=kn.stL 1 rfl h4
 have g2:=kn.l 0 rfl
 have g3:=kn.l 1 rfl
 refine Qa ?_
 simp only[go_sem,g2,g3,hto]
 intro H5 h5
 have kn:=kn.stL 0 rfl h5
 have g2:=kn.l 0 rfl
 refine Qg ?_
 simp only[go_sem,Qq,Qz,Qy7,List.mem_singleton,forall_eq,RS.op,g2,hto]
 exact hK _ L _ (kn.sub (List.sublist_append_right [_,_] _)) (by rw[x.cells_eq];exact .atom rfl (.atom rfl (.atom rfl ho.one)))
theorem Qajl {l:List St}{fl:Bool}(hf:∀x∈l,∀(H1:Heap) (K':V→Heap→Prop),(∀H2 L cs,Kn H1 H2 [] L→OwL L cs x.cells→K' (.ag cs) H2)→Ql prog Qng [.ag x.cells] H1 K')
  (hK:∀H' L t,Kn H H' [] L→OwS L 5 (Qk l) t→K (.c t) H'):Ql prog Qgj [.c (.sl fl 5 (Qk l))] H K:=by
 refine Qc Qah Qatw ?_
 refine Qa ?_
 simp only[go_sem]
 refine Qa ?_
 simp only[go_sem,Qo]
 intro hl
 simp only[LIM]at hl
 refine⟨by simp only[LIM];omega,fun y hy H1 h1=>?_⟩
 have kn:=(Kn.start0 H).al hy h1
 simp only[go_sem,Qv5]
 refine Qu ?_
 refine Qa ?_
 simp only[go_sem]
 refine Qe (Qf (Qy (fun m e1 H1=>∃(i:Nat) (M:List (Nat×Obj)) (dn:List (List C)),m=l.length-i∧i≤l.length∧dn.length=i∧(∀r∈dn,r.length=5)∧OwL M dn.flatten (Qk (l.take i)).flatten∧
  Kn H H1 [] ([(y,.vec 5 (dn++List.replicate (l.length-i) ([.int .i64 0,.str [],.sl true 4 [],.sl true 5 [],.sl true 5 []]:List C)))]++M)∧
  e1=[(0,.c (.sl fl 5 (Qk l))),(3,.c (.vsl y 5 0 l.length)),(4,.c (.int .i64 i))]) l.length ?_ ?_))
 ·exact⟨0,[],[],by omega,by omega,rfl,by simp,.nil,kn,rfl⟩
 ·rintro m e1 H1 ⟨i,M,dn,hm,hi,hdn,hr4,how,kn,rfl⟩
  refine Qu ?_
  refine Qa ?_
  simp only[go_sem,Qo]
  intro _
  refine Qe (Qb rfl ?_ ?_)
  ·intro hc
   have hlt:i<l.length:=by simpa using hc
   obtain⟨x,hx⟩:∃x,l[i]=x:=⟨_,rfl⟩
   have hxm:x∈l:=by rw[←hx];exact List.getElem_mem hlt
   have htk:Qk (l.take (i+1))=Qk (l.take i)++[x.cells]:=by
    rw[Qdr,List.take_succ_eq_append_getElem hlt,hx]
   refine Qd ?_
   try simp only[go_sem]
   refine Qe (Qf ?_)
   refine Qp ?_
   simp only[go_sem,hlt,Qo,Q4 _ _ hlt,hx,St.take5,St.allOw,St.cells_len]
   refine hf x hxm H1 _ fun H5 L2 cs k2 ho=>?_
   have hcl:cs.length=5:=by rw[←ho.len,x.cells_len]
   have kn:=kn.comp0 k2
   have gy:=kn.l 0 rfl
   have hlen:(dn++List.replicate (l.length-i) ([.int .i64 0,.str [],.sl true 4 [],.sl true 5 [],.sl true 5 []]:List C)).length=l.length:=by rw[List.length_append,List.length_replicate];omega
   obtain⟨R,hR⟩:∃R,dn++List.replicate (l.length-i) ([.int .i64 0,.str [],.sl true 4 [],.sl true 5 [],.sl true 5 []]:List C)=R:=⟨_,rfl⟩
   rw[hR]at gy hlen
   simp only[go_sem,Qv6,hcl,gy,hlen,hlt]
   refine⟨by omega,by omega,fun H6 h6=>?_⟩
   have e:=Qasj (zr:=([.int .i64 0,.str [],.sl true 4 [],.sl true 5 [],.sl true 5 []]:List C)) (cs:=cs) hdn hlt hcl
   rw[hR,hcl]at e
   rw[e]at h6
   have kn:Kn H H6 [] ([(y,.vec 5 ((dn++[cs])++List.replicate (l.length-(i+1)) ([.int .i64 0,.str [],.sl true 4 [],.sl true 5 [],.sl true 5 []]:List C)))]++(M++L2)):=kn.stL 0 rfl h6
   refine Qp ?_
   simp only[go_sem,AE.X.next]
   refine⟨Qr (by omega) (by omega),l.length-(i+1),by omega,i+1,M++L2,dn++[cs],rfl,by omega,by simp[hdn],?_,?_,kn,rfl⟩
   ·intro r hr
    rcases List.mem_append.1 hr with hr|hr
    ·exact hr4 r hr
    ·rw[List.mem_singleton.1 hr];exact hcl
   ·rw[htk]
    simp only[List.flatten_append,List.flatten_cons,List.flatten_nil,List.append_nil]
    exact how.app ho
  ·intro hc
   have hge:l.length≤i:=by simpa using hc
   rw[List.take_of_length_le hge]at how
   have h0:l.length-i=0:=by omega
   rw[h0,List.replicate_zero,List.append_nil]at kn
   have hn:l.length=dn.length:=by omega
   refine Qt ?_
   simp only[go_sem,AE.X.next]
   refine Qa ?_
   simp only[go_sem]
   refine Qg ?_
   simp only[go_sem,Qq,Qz,Qic,List.mem_singleton,forall_eq,RS.op]
   exact hK _ _ _ kn (.inr ⟨y,M,dn,by rw[hn],rfl,by rw[Qo,hn],hr4,Qzy,how⟩)
theorem Qbf8:∀(n:Nat) (x:St) {H:Heap} {K:V→Heap→Prop},x.size≤n→(∀H' L cs,Kn H H' [] L→OwL L cs x.cells→K (.ag cs) H')→Ql prog Qng [.ag x.cells] H K:=by
 intro n
 induction n with
 |zero=>intro x H K h;have:=x.size_pos2;omega
 |succ n ih=>
 intro x H K hn hK
 have hsz:=x.size_eq
 refine Qc Qah Qayj ?_
 refine Qa ?_
 simp only[go_sem,x.cells_eq]
 intro x2 hx2 H1 h1
 have kn:=(Kn.start0 H).al hx2 h1
 refine Qa ?_
 simp only[go_sem]
 intro x3 hx3 H2 h2
 have kn:=kn.al hx3 h2
 have g3:=kn.l 1 rfl
 refine Qa ?_
 simp only[go_sem,g3]
 intro H2 h2
 have kn:=kn.stL 1 rfl h2
 have g3:=kn.l 1 rfl
 refine Qa ?_
 simp only[go_sem,g3]
 intro H2 h2
 have kn:=kn.stL 1 rfl h2
 have g3:=kn.l 1 rfl
 refine Qa ?_
 simp only[go_sem,g3]
 refine Qaw9 (fun y hy H1 K' hK'=>Qbf7 y.size y (Nat.le_refl _) hK') fun H3 La ta k2 oa=>?_
 have kn:=kn.comp0 k2
 have g3:=kn.l 1 rfl
 have ha:=oa.isOw
 simp only[go_sem,Qzt,g3,ha]
 intro H4 h4
 have kn:=kn.stL 1 rfl h4
 have g3:=kn.l 1 rfl
 refine Qa ?_
 simp only[go_sem,g3,ha]
 refine Qajl (fun y hy H1 K' hK'=>ih y (by have:=Qak hy;omega) hK') fun H3 Lb tb k2 ob=>?_
 have kn:=kn.comp0 k2
 have g3:=kn.l 1 rfl
 have hb:=ob.isOw
 simp only[go_sem,Qzu,g3,ha,hb]
 intro H4 h4
 have kn:=kn.stL 1 rfl h4
 have g3:=kn.l 1 rfl
 refine Qa ?_
 simp only[go_sem,g3,ha,hb]
 refine Qajl (fun y hy H1 K' hK'=>ih y (by have:=Qak hy;omega) hK') fun H3 Lc tc k2 oc=>?_
 have kn:=kn.comp0 k2
 have g3:=kn.l 1 rfl
 have hc:=oc.isOw
 simp only[go_sem,Qzv,g3,ha,hb,hc]
 intro H4 h4
 have kn:=kn.stL 1 rfl h4
 have g3:=kn.l 1 rfl
 have g2:=kn.l 0 rfl
 refine Qa ?_
 simp only[go_sem,g2,g3,ha,hb,hc]
 intro H5 h5
 have kn:=kn.stL 0 rfl h5
 have g2:=kn.l 0 rfl
 refine Qg ?_
 simp only[go_sem,Qq,Qz,Qy8,List.mem_singleton,forall_eq,RS.op,g2,ha,hb,hc]
 refine hK _ (La++(Lb++Lc)) _ (kn.sub ?_) (by rw[x.cells_eq];exact .atom rfl (.atom rfl (oa.cons (ob.cons oc.one))))
 show (La++(Lb++Lc)).Sublist ((_::_::La)++Lb++Lc)
 rw[List.append_assoc]
 exact List.sublist_append_right [_,_] _
theorem Qbku {f:Fn}(hK:∀H' L cs,Kn H H' [] L→OwL L cs f.cells→K (.ag cs) H'):Ql prog Qxh [.ag f.cells] H K:=by
 refine Qc Qah Qa92 ?_
 refine Qa ?_
 simp only[go_sem,Fn.cells]
 intro x2 hx2 H1 h1
 have kn:=(Kn.start0 H).al hx2 h1
 refine Qa ?_
 simp only[go_sem]
 intro x3 hx3 H2 h2
 have kn:=kn.al hx3 h2
 have g3:=kn.l 1 rfl
 refine Qa ?_
 simp only[go_sem,g3]
 intro H2 h2
 have kn:=kn.stL 1 rfl h2
 have g3:=kn.l 1 rfl
 refine Qa ?_
 simp only[go_sem,g3]
 refine Qa2y fun H3 La ta k2 oa=>?_
 have kn:=kn.comp0 k2
 have g3:=kn.l 1 rfl
 have ha:=oa.isOw
 simp only[go_sem,Q96,g3,ha]
 intro H4 h4
 have kn:=kn.stL 1 rfl h4
 have g3:=kn.l 1 rfl
 refine Qa ?_
 simp only[go_sem,g3,ha]
 refine Qajl (fun y hy H1 K' hK'=>Qbf8 y.size y (Nat.le_refl _) hK') fun H3 Lb tb k2 ob=>?_
 have kn:=kn.comp0 k2
 have g3:=kn.l 1 rfl
 have hb:=ob.isOw
 simp only[go_sem,Q97,g3,ha,hb]
 intro H4 h4
 have kn:=kn.stL 1 rfl h4
 have g3:=kn.l 1 rfl
 have g2:=kn.l 0 rfl
 refine Qa ?_
 simp only[go_sem,g2,g3,ha,hb]
 intro H5 h5
 have kn:=kn.stL 0 rfl h5
 have g2:=kn.l 0 rfl
 refine Qg ?_
 simp only[go_sem,Qq,Qz,Q8x,List.mem_singleton,forall_eq,RS.op,g2,ha,hb]
 exact hK _ (La++Lb) _ (kn.sub (List.sublist_append_right [_,_] _)) (.atom rfl (oa.cons ob.one))
theorem Qbiw {l:List Fn}{fl:Bool}(hf:∀x∈l,∀(H1:Heap) (K':V→Heap→Prop),(∀H2 L cs,Kn H1 H2 [] L→OwL L cs x.cells→K' (.ag cs) H2)→Ql prog Qxh [.ag x.cells] H1 K')
  (hK:∀H' L t,Kn H H' [] L→OwS L 3 (Qn l) t→K (.c t) H'):Ql prog Qz6 [.c (.sl fl 3 (Qn l))] H K:=by
 refine Qc Qah Qa45 ?_
 refine Qa ?_
 simp only[go_sem]
 refine Qa ?_
 simp only[go_sem,Qw]
 intro hl
 simp only[LIM]at hl
 refine⟨by simp only[LIM];omega,fun y hy H1 h1=>?_⟩
 have kn:=(Kn.start0 H).al hy h1
 simp only[go_sem,Q4s]
 refine Qu ?_
 refine Qa ?_
 simp only[go_sem]
 refine Qe (Qf (Qy (fun m e1 H1=>∃(i:Nat) (M:List (Nat×Obj)) (dn:List (List C)),m=l.length-i∧i≤l.length∧dn.length=i∧(∀r∈dn,r.length=3)∧OwL M dn.flatten (Qn (l.take i)).flatten∧
  Kn H H1 [] ([(y,.vec 3 (dn++List.replicate (l.length-i) ([.str [],.sl true 1 [],.sl true 5 []]:List C)))]++M)∧
  e1=[(0,.c (.sl fl 3 (Qn l))),(3,.c (.vsl y 3 0 l.length)),(4,.c (.int .i64 i))]) l.length ?_ ?_))
 ·exact⟨0,[],[],by omega,by omega,rfl,by simp,.nil,kn,rfl⟩
 ·rintro m e1 H1 ⟨i,M,dn,hm,hi,hdn,hr4,how,kn,rfl⟩
  refine Qu ?_
  refine Qa ?_
  simp only[go_sem,Qw]
  intro _
  refine Qe (Qb rfl ?_ ?_)
  ·intro hc
   have hlt:i<l.length:=by simpa using hc
   obtain⟨x,hx⟩:∃x,l[i]=x:=⟨_,rfl⟩
   have hxm:x∈l:=by rw[←hx];exact List.getElem_mem hlt
   have htk:Qn (l.take (i+1))=Qn (l.take i)++[x.cells]:=by
    rw[Q5h,List.take_succ_eq_append_getElem hlt,hx]
   refine Qd ?_
   try simp only[go_sem]
   refine Qe (Qf ?_)
   refine Qp ?_
   simp only[go_sem,hlt,Qw,Qal _ _ hlt,hx,Fn.take3,Fn.allOw,Fn.cells_len]
   refine hf x hxm H1 _ fun H5 L2 cs k2 ho=>?_
   have hcl:cs.length=3:=by rw[←ho.len,x.cells_len]
   have kn:=kn.comp0 k2
   have gy:=kn.l 0 rfl
   have hlen:(dn++List.replicate (l.length-i) ([.str [],.sl true 1 [],.sl true 5 []]:List C)).length=l.length:=by rw[List.length_append,List.length_replicate];omega
   obtain⟨R,hR⟩:∃R,dn++List.replicate (l.length-i) ([.str [],.sl true 1 [],.sl true 5 []]:List C)=R:=⟨_,rfl⟩
   rw[hR]at gy hlen
   simp only[go_sem,Q4t,hcl,gy,hlen,hlt]
   refine⟨by omega,by omega,fun H6 h6=>?_⟩
   have e:=Qasj (zr:=([.str [],.sl true 1 [],.sl true 5 []]:List C)) (cs:=cs) hdn hlt hcl
   rw[hR,hcl]at e
   rw[e]at h6
   have kn:Kn H H6 [] ([(y,.vec 3 ((dn++[cs])++List.replicate (l.length-(i+1)) ([.str [],.sl true 1 [],.sl true 5 []]:List C)))]++(M++L2)):=kn.stL 0 rfl h6
   refine Qp ?_
   simp only[go_sem,AE.X.next]
   refine⟨Qr (by omega) (by omega),l.length-(i+1),by omega,i+1,M++L2,dn++[cs],rfl,by omega,by simp[hdn],?_,?_,kn,rfl⟩
   ·intro r hr
    rcases List.mem_append.1 hr with hr|hr
    ·exact hr4 r hr
    ·rw[List.mem_singleton.1 hr];exact hcl
   ·rw[htk]
    simp only[List.flatten_append,List.flatten_cons,List.flatten_nil,List.append_nil]
    exact how.app ho
  ·intro hc
   have hge:l.length≤i:=by simpa using hc
   rw[List.take_of_length_le hge]at how
   have h0:l.length-i=0:=by omega
   rw[h0,List.replicate_zero,List.append_nil]at kn
   have hn:l.length=dn.length:=by omega
   refine Qt ?_
   simp only[go_sem,AE.X.next]
   refine Qa ?_
   simp only[go_sem]
   refine Qg ?_
   simp only[go_sem,Qq,Qz,Qic,List.mem_singleton,forall_eq,RS.op]
   exact hK _ _ _ kn (.inr ⟨y,M,dn,by rw[hn],rfl,by rw[Qw,hn],hr4,Qa8m,how⟩)
theorem Qajk {fl:Bool}(hK:∀H' L cs,Kn H H' [] L→OwL L cs [.sl false 3 (Qn fns)]→K (.ag cs) H'):Ql prog Qbv [.ag [.sl fl 3 (Qn fns)]] H K:=by
 refine Qc Qah Qaj2 ?_
 refine Qa ?_
 simp only[go_sem]
 intro x2 hx2 H1 h1
 have kn:=(Kn.start0 H).al hx2 h1
 refine Qa ?_
 simp only[go_sem]
 intro x3 hx3 H2 h2
 have kn:=kn.al hx3 h2
 have g3:=kn.l 1 rfl
 refine Qa ?_
 simp only[go_sem,g3]
 refine Qbiw (fun f hf H1 K' hK'=>Qbku hK') fun H3 La ta k2 oa=>?_
 have kn:=kn.comp0 k2
 have g3:=kn.l 1 rfl
 have ha:=oa.isOw
 simp only[go_sem,Qp3,g3,ha]
 intro H4 h4
 have kn:=kn.stL 1 rfl h4
 have g3:=kn.l 1 rfl
 have g2:=kn.l 0 rfl
 refine Qa ?_
 simp only[go_sem,g2,g3,ha]
 intro H5 h5
 have kn:=kn.stL 0 rfl h5
 have g2:=kn.l 0 rfl
 refine Qg ?_
 simp only[go_sem,Qq,Qz,Qa3u,List.mem_singleton,forall_eq,RS.op,g2,ha]
 exact hK _ La _ (kn.sub (List.sublist_append_right [_,_] _)) oa.one
end Go.AE.Y

namespace Go.AE.Y
attribute [local go_sem] cond_true cond_false Bool.not_true Bool.not_false
open Go.Proofs.Tryz
variable {H H0 F:Heap}{K:V→Heap→Prop}{E B Lg:List (Nat×Obj)}{fns:List Fn}
theorem Qas4 {l:List Ex}{fl fl2:Bool}(hf:∀x∈l,∀(H1:Heap) (K':V→Heap→Prop),K' (.c (.bool true)) H1→Ql prog Qnd [.ag x.cells,.ag x.cells] H1 K')
  (hK:K (.c (.bool true)) H):Ql prog Qlv [.c (.sl fl 4 (Qm l)),.c (.sl fl2 4 (Qm l))] H K:=by
 refine Qc Qah Qats ?_
 refine Qa ?_
 simp only[go_sem]
 refine Qu ?_
 refine Qa ?_
 simp only[go_sem,Qh]
 intro hl
 simp only[LIM]at hl
 refine Qe (Qb rfl (fun h=>by simp at h) (fun _=>?_))
 refine Qd ?_
 try simp only[go_sem]
 refine Qu ?_
 refine Qa ?_
 simp only[go_sem]
 refine Qe (Qf (Qy (fun m e1 H1=>∃(i:Nat),m=l.length-i∧i≤l.length∧H1=H∧
  e1=[(0,.c (.sl fl 4 (Qm l))),(1,.c (.sl fl2 4 (Qm l))),(5,.c (.int .i64 i))]) l.length ?_ ?_))
 ·exact⟨0,by omega,by omega,rfl,rfl⟩
 ·rintro m e1 H1 ⟨i,hm,hi,rfl,rfl⟩
  refine Qu ?_
  refine Qa ?_
  simp only[go_sem,Qh]
  intro _
  refine Qe (Qb rfl ?_ ?_)
  ·intro hc
   have hlt:i<l.length:=by simpa using hc
   obtain⟨x,hx⟩:∃x,l[i]=x:=⟨_,rfl⟩
   have hxm:x∈l:=by rw[←hx];exact List.getElem_mem hlt
   refine Qd ?_
   try simp only[go_sem]
   refine Qe (Qf ?_)
   refine Qbg ?_
   simp only[go_sem,hlt,Qh,Q6 _ _ hlt,hx,Ex.take4,Ex.allOw,Ex.cells_len]
   refine hf x hxm H1 _ ?_
   simp only[go_sem,Qvt]
   refine Qb rfl (fun h=>by simp[lk]at h) (fun _=>?_)
   refine Qd ?_
   try simp only[go_sem,AE.X.next]
   refine Qp ?_
   simp only[go_sem,AE.X.next]
   exact⟨Qr (by omega) (by omega),l.length-(i+1),by omega,i+1,rfl,by omega,rfl⟩
  ·intro hc
   refine Qt ?_
   simp only[go_sem,AE.X.next]
   refine Qa ?_
   simp only[go_sem]
   refine Qg ?_
   simp only[go_sem,Qq,Qz,Qat4,List.mem_singleton,forall_eq,RS.op]
   exact hK
theorem Qbdb:∀(n:Nat) (x:Ex) {H:Heap} {K:V→Heap→Prop},x.size≤n→K (.c (.bool true)) H→Ql prog Qnd [.ag x.cells,.ag x.cells] H K:=by
 intro n
 induction n with
 |zero=>intro x H K h;have:=x.size_pos;omega
 |succ n ih=>
 intro x H K hn hK
 have hsz:=x.size_kids
 refine Qc Qah Qaye ?_
 refine Qa ?_
 simp only[go_sem,x.cells_eq]
 refine Qu ?_
 refine Qa ?_
 simp only[go_sem]
 refine Qe (Qb rfl (fun h=>by simp[lk]at h) (fun _=>?_))
 refine Qd ?_
 try simp only[go_sem]
 refine Qu ?_
 refine Qa ?_
 simp only[go_sem]
 refine Qe (Qb rfl (fun h=>by simp[lk]at h) (fun _=>?_))
 refine Qd ?_
 try simp only[go_sem]
 refine Qu ?_
 refine Qa ?_
 simp only[go_sem]
 refine Qe (Qb rfl (fun h=>by simp[lk]at h) (fun _=>?_))
 refine Qd ?_
 try simp only[go_sem]
 refine Qu ?_
 refine Qa ?_
 simp only[go_sem]
 refine Qas4 (fun y hy H1 K' hK'=>ih y (by have:=Qac hy;omega) hK') ?_
 simp only[go_sem,Qzk]
 refine Qe (Qb rfl (fun h=>by simp[lk]at h) (fun _=>?_))
 refine Qd ?_
 try simp only[go_sem]
 refine Qa ?_
 simp only[go_sem]
 refine Qg ?_
 simp only[go_sem,Qq,Qz,Qat4,List.mem_singleton,forall_eq,RS.op]
 exact hK
theorem Qaxk {l:List (List UInt8)}{fl fl2:Bool}(hK:K (.c (.bool true)) H):Ql prog Qmg [.c (.sl fl 1 (Q1 l)),.c (.sl fl2 1 (Q1 l))] H K:=by
 refine Qc Qah Qajy ?_
 refine Qa ?_
 simp only[go_sem]
 refine Qu ?_
 refine Qa ?_
 simp only[go_sem,Qv]
 intro hl
 simp only[LIM]at hl
 refine Qe (Qb rfl (fun h=>by simp at h) (fun _=>?_))
 refine Qd ?_
 try simp only[go_sem]
 refine Qu ?_
 refine Qa ?_
 simp only[go_sem]
 refine Qe (Qf (Qy (fun m e1 H1=>∃(i:Nat),m=l.length-i∧i≤l.length∧H1=H∧
  e1=[(0,.c (.sl fl 1 (Q1 l))),(1,.c (.sl fl2 1 (Q1 l))),(5,.c (.int .i64 i))]) l.length ?_ ?_))
 ·exact⟨0,by omega,by omega,rfl,rfl⟩
 ·rintro m e1 H1 ⟨i,hm,hi,rfl,rfl⟩
  refine Qu ?_
  refine Qa ?_
  simp only[go_sem,Qv]
  intro _
  refine Qe (Qb rfl ?_ ?_)
  ·intro hc
   have hlt:i<l.length:=by simpa using hc
   obtain⟨x,hx⟩:∃x,l[i]=x:=⟨_,rfl⟩
   have hxm:x∈l:=by rw[←hx];exact List.getElem_mem hlt
   refine Qd ?_
   try simp only[go_sem]
   refine Qe (Qf ?_)
   have hxd:l.getD i []=x:=by simp[List.getD_eq_getElem?_getD,hlt,hx]
   refine Qbg ?_
   simp only[go_sem,hlt,Qv,Qbc _ _ hlt,hxd]
   refine Qb rfl (fun h=>by simp[lk]at h) (fun _=>?_)
   refine Qd ?_
   try simp only[go_sem,AE.X.next]
   refine Qp ?_
   simp only[go_sem,AE.X.next]
   exact⟨Qr (by omega) (by omega),l.length-(i+1),by omega,i+1,rfl,by omega,rfl⟩
  ·intro hc
   refine Qt ?_
   simp only[go_sem,AE.X.next]
   refine Qa ?_
   simp only[go_sem]
   refine Qg ?_
   simp only[go_sem,Qq,Qz,Qat4,List.mem_singleton,forall_eq,RS.op]
   exact hK
theorem Qaem {l:List St}{fl fl2:Bool}(hf:∀x∈l,∀(H1:Heap) (K':V→Heap→Prop),K' (.c (.bool true)) H1→Ql prog Qne [.ag x.cells,.ag x.cells] H1 K')
  (hK:K (.c (.bool true)) H):Ql prog Qgg [.c (.sl fl 5 (Qk l)),.c (.sl fl2 5 (Qk l))] H K:=by
 refine Qc Qah Qatt ?_
 refine Qa ?_
 simp only[go_sem]
 refine Qu ?_
 refine Qa ?_
 simp only[go_sem,Qo]
 intro hl
 simp only[LIM]at hl
 refine Qe (Qb rfl (fun h=>by simp at h) (fun _=>?_))
 refine Qd ?_
 try simp only[go_sem]
 refine Qu ?_
 refine Qa ?_
 simp only[go_sem]
 refine Qe (Qf (Qy (fun m e1 H1=>∃(i:Nat),m=l.length-i∧i≤l.length∧H1=H∧
  e1=[(0,.c (.sl fl 5 (Qk l))),(1,.c (.sl fl2 5 (Qk l))),(5,.c (.int .i64 i))]) l.length ?_ ?_))
 ·exact⟨0,by omega,by omega,rfl,rfl⟩
 ·rintro m e1 H1 ⟨i,hm,hi,rfl,rfl⟩
  refine Qu ?_
  refine Qa ?_
  simp only[go_sem,Qo]
  intro _
  refine Qe (Qb rfl ?_ ?_)
  ·intro hc
   have hlt:i<l.length:=by simpa using hc
   obtain⟨x,hx⟩:∃x,l[i]=x:=⟨_,rfl⟩
   have hxm:x∈l:=by rw[←hx];exact List.getElem_mem hlt
   refine Qd ?_
   try simp only[go_sem]
   refine Qe (Qf ?_)
   refine Qbg ?_
   simp only[go_sem,hlt,Qo,Q4 _ _ hlt,hx,St.take5,St.allOw,St.cells_len]
   refine hf x hxm H1 _ ?_
   simp only[go_sem,Qvu]
   refine Qb rfl (fun h=>by simp[lk]at h) (fun _=>?_)
   refine Qd ?_
   try simp only[go_sem,AE.X.next]
   refine Qp ?_
   simp only[go_sem,AE.X.next]
   exact⟨Qr (by omega) (by omega),l.length-(i+1),by omega,i+1,rfl,by omega,rfl⟩
  ·intro hc
   refine Qt ?_
   simp only[go_sem,AE.X.next]
   refine Qa ?_
   simp only[go_sem]
   refine Qg ?_
   simp only[go_sem,Qq,Qz,Qat4,List.mem_singleton,forall_eq,RS.op]
   exact hK
theorem Qbdc:∀(n:Nat) (x:St) {H:Heap} {K:V→Heap→Prop},x.size≤n→K (.c (.bool true)) H→Ql prog Qne [.ag x.cells,.ag x.cells] H K:=by
 intro n
 induction n with
 |zero=>intro x H K h;have:=x.size_pos2;omega
 |succ n ih=>
 intro x H K hn hK
 have hsz:=x.size_eq
 refine Qc Qah Qayf ?_
 refine Qa ?_
 simp only[go_sem,x.cells_eq]
 refine Qu ?_
 refine Qa ?_
 simp only[go_sem]
 refine Qe (Qb rfl (fun h=>by simp[lk]at h) (fun _=>?_))
 refine Qd ?_
 try simp only[go_sem]
 refine Qu ?_
 refine Qa ?_
 simp only[go_sem]
 refine Qe (Qb rfl (fun h=>by simp[lk]at h) (fun _=>?_))
 refine Qd ?_
 try simp only[go_sem]
 refine Qu ?_
 refine Qa ?_
 simp only[go_sem]
 refine Qas4 (fun y hy H1 K' hK'=>Qbdb y.size y (Nat.le_refl _) hK') ?_
 simp only[go_sem,Qzl]
 refine Qe (Qb rfl (fun h=>by simp[lk]at h) (fun _=>?_))
 refine Qd ?_
 try simp only[go_sem]
 refine Qu ?_
 refine Qa ?_
 simp only[go_sem]
 refine Qaem (fun y hy H1 K' hK'=>ih y (by have:=Qak hy;omega) hK') ?_
 simp only[go_sem,Qzm]
 refine Qe (Qb rfl (fun h=>by simp[lk]at h) (fun _=>?_))
 refine Qd ?_
 try simp only[go_sem]
 refine Qu ?_
 refine Qa ?_
 simp only[go_sem]
 refine Qaem (fun y hy H1 K' hK'=>ih y (by have:=Qak hy;omega) hK') ?_
 simp only[go_sem,Qzn]
 refine Qe (Qb rfl (fun h=>by simp[lk]at h) (fun _=>?_))
 refine Qd ?_
 try simp only[go_sem]
 refine Qa ?_
 simp only[go_sem]
 refine Qg ?_
 simp only[go_sem,Qq,Qz,Qat4,List.mem_singleton,forall_eq,RS.op]
 exact hK
theorem Qbjq {f:Fn}(hK:K (.c (.bool true)) H):Ql prog Qxg [.ag f.cells,.ag f.cells] H K:=by
 refine Qc Qah Qa90 ?_
 refine Qa ?_
 simp only[go_sem,Fn.cells]
 refine Qu ?_
 refine Qa ?_
 simp only[go_sem]
 refine Qe (Qb rfl (fun h=>by simp[lk]at h) (fun _=>?_))
 refine Qd ?_
 try simp only[go_sem]
 refine Qu ?_
 refine Qa ?_
 simp only[go_sem]
 refine Qaxk ?_
 simp only[go_sem,Q92]
 refine Qe (Qb rfl (fun h=>by simp[lk]at h) (fun _=>?_))
 refine Qd ?_
 try simp only[go_sem]
 refine Qu ?_
 refine Qa ?_
 simp only[go_sem]
 refine Qaem (fun y hy H1 K' hK'=>Qbdc y.size y (Nat.le_refl _) hK') ?_
 simp only[go_sem,Q93]
 refine Qe (Qb rfl (fun h=>by simp[lk]at h) (fun _=>?_))
 refine Qd ?_
 try simp only[go_sem]
 refine Qa ?_
 simp only[go_sem]
 refine Qg ?_
 simp only[go_sem,Qq,Qz,Qat4,List.mem_singleton,forall_eq,RS.op]
 exact hK
theorem Qbhf {l:List Fn}{fl fl2:Bool}(hf:∀x∈l,∀(H1:Heap) (K':V→Heap→Prop),K' (.c (.bool true)) H1→Ql prog Qxg [.ag x.cells,.ag x.cells] H1 K')
  (hK:K (.c (.bool true)) H):Ql prog Qz5 [.c (.sl fl 3 (Qn l)),.c (.sl fl2 3 (Qn l))] H K:=by
 refine Qc Qah Qa44 ?_
 refine Qa ?_
 simp only[go_sem]
 refine Qu ?_
 refine Qa ?_
 simp only[go_sem,Qw]
 intro hl
 simp only[LIM]at hl
 refine Qe (Qb rfl (fun h=>by simp at h) (fun _=>?_))
 refine Qd ?_
 try simp only[go_sem]
 refine Qu ?_
 refine Qa ?_
 simp only[go_sem]
 refine Qe (Qf (Qy (fun m e1 H1=>∃(i:Nat),m=l.length-i∧i≤l.length∧H1=H∧
  e1=[(0,.c (.sl fl 3 (Qn l))),(1,.c (.sl fl2 3 (Qn l))),(5,.c (.int .i64 i))]) l.length ?_ ?_))
 ·exact⟨0,by omega,by omega,rfl,rfl⟩
 ·rintro m e1 H1 ⟨i,hm,hi,rfl,rfl⟩
  refine Qu ?_
  refine Qa ?_
  simp only[go_sem,Qw]
  intro _
  refine Qe (Qb rfl ?_ ?_)
  ·intro hc
   have hlt:i<l.length:=by simpa using hc
   obtain⟨x,hx⟩:∃x,l[i]=x:=⟨_,rfl⟩
   have hxm:x∈l:=by rw[←hx];exact List.getElem_mem hlt
   refine Qd ?_
   try simp only[go_sem]
   refine Qe (Qf ?_)
   refine Qbg ?_
   simp only[go_sem,hlt,Qw,Qal _ _ hlt,hx,Fn.take3,Fn.allOw,Fn.cells_len]
   refine hf x hxm H1 _ ?_
   simp only[go_sem,Q35]
   refine Qb rfl (fun h=>by simp[lk]at h) (fun _=>?_)
   refine Qd ?_
   try simp only[go_sem,AE.X.next]
   refine Qp ?_
   simp only[go_sem,AE.X.next]
   exact⟨Qr (by omega) (by omega),l.length-(i+1),by omega,i+1,rfl,by omega,rfl⟩
  ·intro hc
   refine Qt ?_
   simp only[go_sem,AE.X.next]
   refine Qa ?_
   simp only[go_sem]
   refine Qg ?_
   simp only[go_sem,Qq,Qz,Qat4,List.mem_singleton,forall_eq,RS.op]
   exact hK
theorem Qqg {fl fl2:Bool}(hK:K (.c (.bool true)) H):Ql prog Qcg [.ag [.sl fl 3 (Qn fns)],.ag [.sl fl2 3 (Qn fns)]] H K:=by
 refine Qc Qah Qajx ?_
 refine Qa ?_
 simp only[go_sem]
 refine Qu ?_
 refine Qa ?_
 simp only[go_sem]
 refine Qbhf (fun f hf H1 K' hK'=>Qbjq hK') ?_
 simp only[go_sem,Qpp]
 refine Qe (Qb rfl (fun h=>by simp[lk]at h) (fun _=>?_))
 refine Qd ?_
 try simp only[go_sem]
 refine Qa ?_
 simp only[go_sem]
 refine Qg ?_
 simp only[go_sem,Qq,Qz,Qat4,List.mem_singleton,forall_eq,RS.op]
 exact hK
end Go.AE.Y

namespace Go.AE.Y
attribute [local go_sem] cond_true cond_false Bool.not_true Bool.not_false
open Go.Proofs.Tryz
variable {H H0 F:Heap}{K:V→Heap→Prop}
theorem inR8 {x:Int}(h1:0≤x)(h2:x<256):inR .u8 x:=by
 unfold inR
 have a1:IntKind.min .u8=0:=by decide
 have a2:IntKind.max .u8=255:=by decide
 rw[a1,a2];omega
theorem Qbc2 (f:Nat)(s:List UInt8):dgT f 0 s=s:=by cases f <;> simp[dgT]
theorem Qbc1 {f k:Nat}{s:List UInt8}(h0:0<k)(h:k<10 ^ f):∃f',f=f'+1∧k / 10<10 ^ f'∧dgT f k s=dgT f' (k / 10) (UInt8.ofNat (48+k % 10)::s):=by
 match f,h with
 |0,h=>simp at h;omega
 |f+1,h=>
  refine⟨f,rfl,?_,?_⟩
  ·rw[Nat.pow_succ]at h;omega
  ·rw[dgT,if_neg (by omega)]
theorem Qfv {k:Nat}(hb:k<2 ^ 62)(hK:K (.c (.str (mkT k))) H):Ql prog Qax [.c (.int .i64 k)] H K:=by
 refine Qc Qah Qapy ?_
 refine Qa ?_
 simp only[go_sem]
 refine Qu ?_
 refine Qa ?_
 simp only[go_sem]
 refine Qe (Qb rfl (fun hc=>?_) (fun hc=>?_))
 ·have h0:k=0:=by have:=of_decide_eq_true hc;omega
  subst h0
  refine Qa ?_
  simp only[go_sem]
  refine Qg ?_
  simp only[go_sem,Qq,Qz,Qic,List.mem_singleton,forall_eq,RS.op]
  exact hK
 ·have h0:0<k:=by have:=of_decide_eq_false hc;omega
  rw[mkT,if_neg (by omega)]at hK
  refine Qd ?_
  try simp only[go_sem]
  refine Qa ?_
  simp only[go_sem]
  refine Qe (Qf (Qy (fun m e1 H1=>∃(f ki:Nat) (s:List UInt8),m=ki∧H1=H∧ki<2 ^ 62∧ki<10 ^ f∧s.length+f=64∧dgT f ki s=dgT 64 k []∧
   e1=[(0,.c (.int .i64 ki)),(3,.c (.str s))]) k ?_ ?_))
  ·exact⟨64,k,[],rfl,rfl,hb,Nat.lt_of_lt_of_le hb (by decide),rfl,rfl,rfl⟩
  ·rintro m e1 H1 ⟨f,ki,s,rfl,rfl,hb1,hf,hl,hd,rfl⟩
   refine Qu ?_
   refine Qa ?_
   simp only[go_sem]
   refine Qe (Qb rfl (fun hc=>?_) (fun hc=>?_))
   ·have h1:0<m:=by have:=of_decide_eq_true hc;omega
    obtain⟨f',rfl,hf2,hs⟩:=Qbc1 (s:=s) h1 hf
    refine Qd ?_
    try simp only[go_sem]
    refine Qf ?_
    refine Qa ?_
    simp only[go_sem]
    have e1:(m:Int).tmod 10=((m % 10:Nat):Int):=by rw[Int.tmod_eq_emod_of_nonneg (by omega)];omega
    have e2:((48:Int)+((m % 10:Nat):Int)).toNat=48+m % 10:=by omega
    rw[e1,e2]
    have hm:m % 10<10:=Nat.mod_lt _ (by omega)
    refine⟨by omega,Qr (by omega) (by omega),inR8 (by omega) (by omega),by simp only[LIM];omega,?_⟩
    refine Qp ?_
    simp only[go_sem,AE.X.next]
    have e3:(m:Int).tdiv 10=((m / 10:Nat):Int):=by rw[Int.tdiv_eq_ediv_of_nonneg (by omega)];omega
    rw[e3]
    exact⟨⟨by omega,Qr (by omega) (by omega)⟩,m / 10,by omega,f',m / 10,UInt8.ofNat (48+m % 10)::s,rfl,by omega,hf2,by simp only[List.length_cons];omega,by rw[←hs,hd],rfl⟩
   ·have h1:m=0:=by have:=of_decide_eq_false hc;omega
    subst h1
    rw[Qbc2]at hd
    refine Qt ?_
    simp only[go_sem,AE.X.next]
    refine Qa ?_
    simp only[go_sem]
    refine⟨by simp only[LIM];omega,?_⟩
    refine Qg ?_
    simp only[go_sem,Qq,Qz,Qic,List.mem_singleton,forall_eq,RS.op]
    rw[hd];exact hK
end Go.AE.Y

namespace Go.AE
variable {H0 H H':Heap}{E L M M1 M1' A B:List (Nat×Obj)}
theorem Kn.callM (kn:Kn H0 H (A++(M1++B)) L)(hu:Upd H H' M1')(hf:M1'.map Prod.fst=M1.map Prod.fst)(hne:∀p∈M1',p.2≠.none):Kn H0 H' (A++(M1'++B)) L:=by
 have hd:=kn.dE
 simp only[List.map_append]at hd
 obtain⟨d1,d2,d3⟩:=List.nodup_append.1 hd
 obtain⟨d4,d5,d6⟩:=List.nodup_append.1 d2
 refine kn.callg hu (by simp only[List.map_append,hf]) rfl (fun p hp=>?_) (fun m hm=>.inl (by simp only[List.map_append,List.mem_append];rw[←hf];exact .inr (.inl (List.mem_map.2 ⟨m,hm,rfl⟩))))
 have keep:p∈(A++(M1++B))++L→p.1∉M1.map Prod.fst→p.2≠.none∧(p∈M1'∨p∈(A++(M1++B))++L∧p.1∉M1'.map Prod.fst):=fun h1 h2=>⟨(kn.get p h1).2,.inr ⟨h1,by rw[hf];exact h2⟩⟩
 rcases List.mem_append.1 hp with hp|hp
 ·rcases List.mem_append.1 hp with hp|hp
  ·exact keep (by simp[hp]) fun hm=>d3 _ (Qci hp) _ (List.mem_append_left _ hm) rfl
  ·rcases List.mem_append.1 hp with hp|hp
   ·exact⟨hne p hp,.inl hp⟩
   ·exact keep (by simp[hp]) fun hm=>d6 _ hm _ (Qci hp) rfl
 ·refine keep (by simp[hp]) fun hm=>?_
  obtain⟨q,hq,hq2⟩:=List.mem_map.1 hm
  have h1:=kn.loc p hp
  exact kn.ext q (by simp[hq]) (by rw[hq2];exact h1)
theorem OwL.uncons {r a:List C}{td rest:List (List C)}(h:OwL L (r::td).flatten (a::rest).flatten)(hl:r.length=a.length):∃L1 L2,L=L1++L2∧OwL L1 r a∧OwL L2 td.flatten rest.flatten:=by
 rw[List.flatten_cons,List.flatten_cons]at h
 obtain⟨L1,L2,a',b',rfl,h1,h2,h3⟩:=h.split
 obtain⟨rfl,rfl⟩:=List.append_inj h1 (by rw[h2.len,hl])
 exact⟨L1,L2,rfl,h2,h3⟩
theorem OwS.vecs {sz:Nat}{rows':List (List C)}{t:C}(h:OwS L sz rows' t):∀p∈L,p.2≠.none:=fun p hp=>by
 obtain⟨z,r,h1,_⟩:=h.one.vecs p hp
 rw[h1];nofun
theorem ndM1 {y:Nat}{o:Obj}{Md M1 M2:List (Nat×Obj)}(h:(((y,o)::(Md++(M1++M2))).map Prod.fst).Nodup):(M1.map Prod.fst).Nodup:=by
 simp only[List.map_cons,List.map_append,List.nodup_cons]at h
 exact (List.nodup_append.1 (List.nodup_append.1 h.2).2.1).1
theorem Qaty {A M B:List (Nat×Obj)}(h:((A++(M++B)).map Prod.fst).Nodup):(M.map Prod.fst).Nodup:=by
 simp only[List.map_append]at h
 exact (List.nodup_append.1 (List.nodup_append.1 h).2.1).1
theorem Q8n {dn td:List (List C)}{r:List C}{i:Nat}(h:dn.length=i):(dn++r::td).getD (0+i) []=r:=by
 rw[Nat.zero_add,List.getD_eq_getElem?_getD,List.getElem?_append_right (by omega)];simp[h]
theorem Qt5 {dn td:List (List C)}{r:List C}{i:Nat}(h:dn.length=i):(dn++r::td).getD i []=r:=by
 rw[List.getD_eq_getElem?_getD,List.getElem?_append_right (by omega)];simp[h]
theorem Q98 {dn td:List (List C)}{r r':List C}{i:Nat}(h:dn.length=i):(dn++r::td).set (0+i) r'=dn++r'::td:=by
 rw[Nat.zero_add,List.set_append_right _ _ (by omega)];simp[h]
end Go.AE
namespace Go.AE.Y
def Qag:List (List UInt8)→Nat
 |[]=>0
 |_::r=>1+Qag r
theorem Qfo:∀l,Qag l=l.length
 |[]=>rfl
 |_::r=>by rw[Qag,Qfo r,List.length_cons];omega
theorem Qrx (a b:List (List UInt8)):Qag (a++b)=Qag a+Qag b:=by simp only[Qfo,List.length_append]
theorem Q4x (a b:List (List UInt8))(k:Nat):Qav (a++b) k=Qav a k++Qav b (k+Qag a):=by rw[Qaw7,Qfo]
attribute [local go_sem] cond_true cond_false Bool.not_true Bool.not_false
open Go.Proofs.Tryz
variable {H H0 F:Heap}{K:V→Heap→Prop}{fns:List Fn}
theorem OwL.ex {L:List (Nat×Obj)}{cs:List C}{x:Ex}(h:OwL L cs x.cells):∃t,cs=[.int .i64 x.op,.int .i64 x.n,.str x.name,t]∧OwS L 4 (Qm x.kids) t:=by
 rw[x.cells_eq]at h
 obtain⟨c1,e1,h1⟩:=h.inv_atom rfl
 obtain⟨c2,e2,h2⟩:=h1.inv_atom rfl
 obtain⟨c3,e3,h3⟩:=h2.inv_atom rfl
 obtain⟨t,e4,h4⟩:=h3.inv_one
 exact⟨t,by rw[e1,e2,e3,e4],h4⟩
theorem OwL.st {L:List (Nat×Obj)}{cs:List C}{x:St}(h:OwL L cs x.cells):∃La Lb Lc ta tb tc,cs=[.int .i64 x.op,.str x.name,ta,tb,tc]∧L=La++(Lb++Lc)∧OwS La 4 (Qm x.args) ta∧OwS Lb 5 (Qk x.body) tb∧OwS Lc 5 (Qk x.els) tc:=by
 rw[x.cells_eq]at h
 obtain⟨c1,e1,h1⟩:=h.inv_atom rfl
 obtain⟨c2,e2,h2⟩:=h1.inv_atom rfl
 obtain⟨ta,c3,La,L2,e3,f3,ha,h3⟩:=h2.inv_sl
 obtain⟨tb,c4,Lb,L3,e4,f4,hb,h4⟩:=h3.inv_sl
 obtain⟨tc,e5,hc⟩:=h4.inv_one
 exact⟨La,Lb,L3,ta,tb,tc,by rw[e1,e2,e3,e4,e5],by rw[f3,f4],ha,hb,hc⟩
theorem Qayl:∀(n:Nat) (l:List Ex) (L:List (Nat×Obj)) (t:C) (k:Nat) (H:Heap) (K:V→Heap→Prop),Qai l≤n→OwS L 4 (Qm l) t→(∀p∈L,H p.1=p.2)→(L.map Prod.fst).Nodup→k+Qad l<2 ^ 62→
  (∀H' L',L'.map Prod.fst=L.map Prod.fst→OwS L' 4 (Qm (Qbb l k)) t→Upd H H' L'→K (.c (.int .i64 ((k+Qad l:Nat):Int))) H')→Ql prog Qgi [.c t,.c (.int .i64 (k:Nat))] H K:=by
 intro n
 induction n using Nat.strongRecOn with
 |ind n ih=>
 intro l L t k H K hn ho hm hd hb hK
 rcases ho with ⟨rfl,h1,rfl⟩|⟨y,M,rows,rfl,rfl,hrl,hr4,_,ho⟩
 ·have:l=[]:=List.length_eq_zero_iff.1 (by rw[←Qh,h1];rfl)
  subst this
  refine Qc Qah Qy1 ?_
  refine Qa ?_
  simp only[go_sem]
  refine Qu ?_
  refine Qa ?_
  simp only[go_sem]
  refine Qe (Qf (Qy (fun m e1 H1=>H1=H∧e1=[(0,.c (.sl true 4 [])),(1,.c (.int .i64 (k:Nat))),(5,.c (.int .i64 0))]) 0 ?_ ?_))
  ·exact⟨rfl,rfl⟩
  ·rintro m e1 H1 ⟨rfl,rfl⟩
   refine Qu ?_
   refine Qa ?_
   simp only[go_sem]
   refine Qe (Qb rfl (fun h=>by simp[lk]at h) (fun _=>?_))
   refine Qt ?_
   simp only[go_sem,AE.X.next]
   refine Qa ?_
   simp only[go_sem]
   refine Qg ?_
   simp only[go_sem,Qq,Qz,Qat4,List.mem_singleton,forall_eq,RS.op]
   exact hK _ [] rfl (.inl ⟨rfl,rfl,rfl⟩) ⟨by simp,fun _ _ _=>rfl⟩
 ·have hll:l.length=rows.length:=by rw[←Qh];exact hrl
  refine Qc Qah Qy1 ?_
  refine Qa ?_
  simp only[go_sem]
  refine Qu ?_
  refine Qa ?_
  simp only[go_sem]
  refine Qe (Qf (Qy (fun m e1 H1=>∃(i:Nat) (dn td:List (List C)) (Md Mt:List (Nat×Obj)),m=l.length-i∧i≤l.length∧dn.length=i∧td.length=l.length-i∧(∀r∈dn,r.length=4)∧(∀r∈td,r.length=4)∧
   OwL Md dn.flatten (Qm (Qbb (l.take i) k)).flatten∧OwL Mt td.flatten (Qm (l.drop i)).flatten∧(Md++Mt).map Prod.fst=M.map Prod.fst∧Kn H H1 ((y,.vec 4 (dn++td))::(Md++Mt)) []∧
   e1=[(0,.c (.vsl y 4 0 rows.length)),(1,.c (.int .i64 ((k+Qad (l.take i):Nat):Int))),(5,.c (.int .i64 i))]) l.length ?_ ?_))
  ·exact⟨0,[],rows,[],M,by omega,by omega,rfl,by omega,by simp,hr4,.nil,ho,rfl,.startE (fun p hp=>⟨hm p hp,by
    rcases List.mem_cons.1 hp with rfl|hp
    ·nofun
    ·obtain⟨z,r,h1,_⟩:=ho.vecs p hp
     rw[h1];nofun⟩) hd,rfl⟩
  ·rintro m e1 H1 ⟨i,dn,td,Md,Mt,hm,hi,hdn,htd,hd4,ht4,hod,hot,hfst,kn,rfl⟩
   have gy:=kn.e 0 rfl
   have hlen:(dn++td).length=rows.length:=by rw[List.length_append];omega
   refine Qu ?_
   refine Qa ?_
   simp only[go_sem,gy,hlen]
   refine⟨by omega,fun hlm=>?_⟩
   simp only[LIM]at hlm
   refine Qe (Qb rfl ?_ ?_)
   ·intro hc
    have hlt:i<l.length:=by have:=of_decide_eq_true hc;omega
    have hlt2:i<rows.length:=by omega
    obtain⟨x,hx⟩:∃x,l[i]=x:=⟨_,rfl⟩
    have hdr:l.drop i=x::l.drop (i+1):=by rw[List.drop_eq_getElem_cons hlt,hx]
    have htk:l.take (i+1)=l.take i++[x]:=by rw[List.take_succ_eq_append_getElem hlt,hx]
    obtain⟨r,td,rfl⟩:∃r td',td=r::td':=by
     cases td with
     |nil=>simp at htd;omega
     |cons r td'=>exact⟨r,td',rfl⟩
    have hr:=ht4 r (by simp)
    rw[hdr,show Qm (x::l.drop (i+1))=x.cells::Qm (l.drop (i+1)) from by simp[Qma]]at hot
    obtain⟨M1,M2,rfl,ho1,ho2⟩:=hot.uncons (by rw[hr,x.cells_len])
    have hcn:Qad (l.take (i+1))=Qad (l.take i)+Qad [x]:=by rw[htk,Qw9]
    have hle:Qad (l.take (i+1))≤Qad l:=by
     have:=Qw9 (l.take (i+1)) (l.drop (i+1))
     rw[List.take_append_drop]at this;omega
    have hxs:x∈l:=by rw[←hx];exact List.getElem_mem hlt
    obtain⟨kk,hkk⟩:∃kk,k+Qad (l.take i)=kk:=⟨_,rfl⟩
    rw[hkk]
    simp only[Qad]at hcn
    obtain⟨tk,rfl,hok⟩:=OwL.ex ho1
    have htk0:=hok.isOw
    have hlen:∀r:List C,(dn++r::td).length=rows.length:=fun r=>by
     simp only[List.length_append,List.length_cons]at htd⊢;omega
    have htake:∀r:List C,List.take rows.length (dn++r::td)=dn++r::td:=fun r=>List.take_of_length_le (by rw[hlen r];omega)
    have hcx:=x.cnt_eq
    refine Qd ?_
    try simp only[go_sem]
    refine Qe (Qf ?_)
    refine Qa ?_
    simp only[go_sem,gy,hlen,hlt2,Q8n hdn,htk0]
    refine⟨by omega,by omega,fun H2 h2=>?_⟩
    rw[Q98 hdn]at h2
    have kn:Kn H H2 ((y,.vec 4 (dn++([.int .i64 (kk:Nat),.int .i64 x.n,.str x.name,tk]:List C)::td))::(Md++(M1++M2))) []:=kn.stE 0 rfl h2
    have gy:=kn.e 0 rfl
    refine Qa ?_
    simp only[go_sem]
    refine⟨Qr (by omega) (by omega),?_⟩
    refine Qa ?_
    simp only[go_sem,gy,hlen,hlt2,Q8n hdn,htk0]
    refine⟨by omega,by omega,fun H2 h2=>?_⟩
    rw[Q98 hdn]at h2
    have kn:Kn H H2 ((y,.vec 4 (dn++([.int .i64 (kk:Nat),.int .i64 ((kk:Nat)+1),.str x.name,tk]:List C)::td))::(Md++(M1++M2))) []:=kn.stE 0 rfl h2
    have gy:=kn.e 0 rfl
    refine Qa ?_
    simp only[go_sem]
    refine⟨Qr (by omega) (by omega),?_⟩
    refine Qa ?_
    simp only[go_sem]
    refine Qfv (k:=kk+2) (by omega) ?_
    simp only[go_sem,Qpw,gy,hlen,hlt2,Q8n hdn,htk0]
    refine⟨by omega,by omega,fun H2 h2=>?_⟩
    rw[Q98 hdn]at h2
    have kn:Kn H H2 ((y,.vec 4 (dn++([.int .i64 (kk:Nat),.int .i64 ((kk:Nat)+1),.str (mkT (kk+2)),tk]:List C)::td))::(Md++(M1++M2))) []:=kn.stE 0 rfl h2
    have gy:=kn.e 0 rfl
    refine Qa ?_
    simp only[go_sem]
    refine⟨Qr (by omega) (by omega),?_⟩
    refine Qp ?_
    simp only[go_sem,gy,hlen,hlt2,htake,Qt5 hdn,htk0]
    have e3:((kk:Nat):Int)+1+1+1=((kk+3:Nat):Int):=by omega
    rw[e3]
    refine⟨by omega,by omega,?_⟩
    have hsx:=Qac hxs
    have hsk:=x.size_kids
    refine ih (Qai x.kids) (by omega) x.kids M1 tk (kk+3) H2 _ (Nat.le_refl _) hok (fun p hp=>(kn.get p (by simp[hp])).1) (ndM1 kn.dE) (by omega) fun H5 M1' hf1 hok' hu=>?_
    have kn:Kn H H5 (((y,_)::Md)++(M1'++M2)) []:=Kn.callM (A:=(y,_)::Md) kn hu hf1 hok'.vecs
    simp only[go_sem,Qpx]
    refine Qp ?_
    simp only[go_sem,AE.X.next]
    have e5:k+Qad (l.take (i+1))=kk+3+Qad x.kids:=by omega
    refine⟨Qr (by omega) (by omega),l.length-(i+1),by omega,i+1,dn++[[.int .i64 (kk:Nat),.int .i64 ((kk:Nat)+1),.str (mkT (kk+2)),tk]],td,Md++M1',M2,rfl,by omega,by simp[hdn],by simp only[List.length_cons]at htd;omega,?_,fun r hr=>ht4 r (by simp[hr]),?_,ho2,?_,?_,?_⟩
    ·intro r hr
     rcases List.mem_append.1 hr with hr|hr
     ·exact hd4 r hr
     ·rw[List.mem_singleton.1 hr];rfl
    ·rw[htk,Qaeo,hkk,Qa8e,List.flatten_append,List.flatten_append]
     refine hod.app ?_
     simp only[Qbb,Qm,Ex.mark_eq,Ex.cells,List.flatten_cons,List.flatten_nil,List.append_nil]
     exact .atom rfl (.atom rfl (.atom rfl hok'.one))
    ·rw[←hfst];simp only[List.map_append,List.append_assoc,hf1]
    ·have:=kn
     simpa only[List.append_assoc,List.cons_append,List.nil_append,List.singleton_append]using this
    ·rw[e5];rfl
   ·intro hc
    have hge:l.length≤i:=by have:=of_decide_eq_false hc;omega
    rw[List.take_of_length_le hge]at hod
    have htd0:td=[]:=List.length_eq_zero_iff.1 (by omega)
    rw[List.drop_of_length_le hge]at hot
    subst htd0
    obtain rfl:Mt=[]:=by cases hot;rfl
    rw[List.append_nil]at hfst
    rw[List.append_nil,List.append_nil]at kn
    rw[List.take_of_length_le hge]
    have hn2:rows.length=dn.length:=by omega
    refine Qt ?_
    simp only[go_sem,AE.X.next]
    refine Qa ?_
    simp only[go_sem]
    refine Qg ?_
    simp only[go_sem,Qq,Qz,Qat4,List.mem_singleton,forall_eq,RS.op]
    refine hK _ ((y,.vec 4 dn)::Md) (by simp only[List.map_cons,hfst]) (.inr ⟨y,Md,dn,by rw[hn2],rfl,by rw[Qh,Qqi];omega,hd4,Qa8f,hod⟩) ?_
    have:=kn.upd
    simpa using this
theorem Qaym:∀(n:Nat) (l:List St) (L:List (Nat×Obj)) (t:C) (k:Nat) (H:Heap) (K:V→Heap→Prop),Qj l≤n→OwS L 5 (Qk l) t→(∀p∈L,H p.1=p.2)→(L.map Prod.fst).Nodup→k+Q5 l<2 ^ 62→
  (∀H' L',L'.map Prod.fst=L.map Prod.fst→OwS L' 5 (Qk (Qa2 l k)) t→Upd H H' L'→K (.c (.int .i64 ((k+Q5 l:Nat):Int))) H')→Ql prog Qd6 [.c t,.c (.int .i64 (k:Nat))] H K:=by
 intro n
 induction n using Nat.strongRecOn with
 |ind n ih=>
 intro l L t k H K hn ho hm hd hb hK
 rcases ho with ⟨rfl,h1,rfl⟩|⟨y,M,rows,rfl,rfl,hrl,hr4,_,ho⟩
 ·have:l=[]:=List.length_eq_zero_iff.1 (by rw[←Qo,h1];rfl)
  subst this
  refine Qc Qah Qy2 ?_
  refine Qa ?_
  simp only[go_sem]
  refine Qu ?_
  refine Qa ?_
  simp only[go_sem]
  refine Qe (Qf (Qy (fun m e1 H1=>H1=H∧e1=[(0,.c (.sl true 5 [])),(1,.c (.int .i64 (k:Nat))),(5,.c (.int .i64 0))]) 0 ?_ ?_))
  ·exact⟨rfl,rfl⟩
  ·rintro m e1 H1 ⟨rfl,rfl⟩
   refine Qu ?_
   refine Qa ?_
   simp only[go_sem]
   refine Qe (Qb rfl (fun h=>by simp[lk]at h) (fun _=>?_))
   refine Qt ?_
   simp only[go_sem,AE.X.next]
   refine Qa ?_
   simp only[go_sem]
   refine Qg ?_
   simp only[go_sem,Qq,Qz,Qat4,List.mem_singleton,forall_eq,RS.op]
   exact hK _ [] rfl (.inl ⟨rfl,rfl,rfl⟩) ⟨by simp,fun _ _ _=>rfl⟩
 ·have hll:l.length=rows.length:=by rw[←Qo];exact hrl
  refine Qc Qah Qy2 ?_
  refine Qa ?_
  simp only[go_sem]
  refine Qu ?_
  refine Qa ?_
  simp only[go_sem]
  refine Qe (Qf (Qy (fun m e1 H1=>∃(i:Nat) (dn td:List (List C)) (Md Mt:List (Nat×Obj)),m=l.length-i∧i≤l.length∧dn.length=i∧td.length=l.length-i∧(∀r∈dn,r.length=5)∧(∀r∈td,r.length=5)∧
   OwL Md dn.flatten (Qk (Qa2 (l.take i) k)).flatten∧OwL Mt td.flatten (Qk (l.drop i)).flatten∧(Md++Mt).map Prod.fst=M.map Prod.fst∧Kn H H1 ((y,.vec 5 (dn++td))::(Md++Mt)) []∧
   e1=[(0,.c (.vsl y 5 0 rows.length)),(1,.c (.int .i64 ((k+Q5 (l.take i):Nat):Int))),(5,.c (.int .i64 i))]) l.length ?_ ?_))
  ·exact⟨0,[],rows,[],M,by omega,by omega,rfl,by omega,by simp,hr4,.nil,ho,rfl,.startE (fun p hp=>⟨hm p hp,by
    rcases List.mem_cons.1 hp with rfl|hp
    ·nofun
    ·obtain⟨z,r,h1,_⟩:=ho.vecs p hp
     rw[h1];nofun⟩) hd,rfl⟩
  ·rintro m e1 H1 ⟨i,dn,td,Md,Mt,hm,hi,hdn,htd,hd4,ht4,hod,hot,hfst,kn,rfl⟩
   have gy:=kn.e 0 rfl
   have hlen:(dn++td).length=rows.length:=by rw[List.length_append];omega
   refine Qu ?_
   refine Qa ?_
   simp only[go_sem,gy,hlen]
   refine⟨by omega,fun hlm=>?_⟩
   simp only[LIM]at hlm
   refine Qe (Qb rfl ?_ ?_)
   ·intro hc
    have hlt:i<l.length:=by have:=of_decide_eq_true hc;omega
    have hlt2:i<rows.length:=by omega
    obtain⟨x,hx⟩:∃x,l[i]=x:=⟨_,rfl⟩
    have hdr:l.drop i=x::l.drop (i+1):=by rw[List.drop_eq_getElem_cons hlt,hx]
    have htk:l.take (i+1)=l.take i++[x]:=by rw[List.take_succ_eq_append_getElem hlt,hx]
    obtain⟨r,td,rfl⟩:∃r td',td=r::td':=by
     cases td with
     |nil=>simp at htd;omega
     |cons r td'=>exact⟨r,td',rfl⟩
    have hr:=ht4 r (by simp)
    rw[hdr,show Qk (x::l.drop (i+1))=x.cells::Qk (l.drop (i+1)) from by simp[Qe8]]at hot
    obtain⟨M1,M2,rfl,ho1,ho2⟩:=hot.uncons (by rw[hr,x.cells_len])
    have hcn:Q5 (l.take (i+1))=Q5 (l.take i)+Q5 [x]:=by rw[htk,Qr3]
    have hle:Q5 (l.take (i+1))≤Q5 l:=by
     have:=Qr3 (l.take (i+1)) (l.drop (i+1))
     rw[List.take_append_drop]at this;omega
    have hxs:x∈l:=by rw[←hx];exact List.getElem_mem hlt
    obtain⟨kk,hkk⟩:∃kk,k+Q5 (l.take i)=kk:=⟨_,rfl⟩
    rw[hkk]
    simp only[Q5]at hcn
    obtain⟨Ma,Mb,Mc,ta,tb,tc,rfl,rfl,ha,hb',hc'⟩:=OwL.st ho1
    have hta:=ha.isOw
    have htb:=hb'.isOw
    have htc:=hc'.isOw
    have hlen:∀r:List C,(dn++r::td).length=rows.length:=fun r=>by
     simp only[List.length_append,List.length_cons]at htd⊢;omega
    have htake:∀r:List C,List.take rows.length (dn++r::td)=dn++r::td:=fun r=>List.take_of_length_le (by rw[hlen r];omega)
    have hcx:=x.mcnt_eq
    have hsx:=Qak hxs
    have hsk:=x.size_eq
    refine Qd ?_
    try simp only[go_sem]
    refine Qe (Qf ?_)
    refine Qa ?_
    simp only[go_sem,gy,hlen,hlt2,Q8n hdn,hta,htb,htc]
    refine⟨by omega,by omega,fun H2 h2=>?_⟩
    rw[Q98 hdn]at h2
    have kn:Kn H H2 ((y,.vec 5 (dn++([.int .i64 (kk:Nat),.str x.name,ta,tb,tc]:List C)::td))::(Md++((Ma++(Mb++Mc))++M2))) []:=kn.stE 0 rfl h2
    have gy:=kn.e 0 rfl
    refine Qa ?_
    simp only[go_sem]
    refine⟨Qr (by omega) (by omega),?_⟩
    refine Qa ?_
    simp only[go_sem]
    refine Qfv (k:=kk+1) (by omega) ?_
    simp only[go_sem,Qpy,gy,hlen,hlt2,Q8n hdn,hta,htb,htc]
    refine⟨by omega,by omega,fun H2 h2=>?_⟩
    rw[Q98 hdn]at h2
    have kn:Kn H H2 ((y,.vec 5 (dn++([.int .i64 (kk:Nat),.str (mkT (kk+1)),ta,tb,tc]:List C)::td))::(Md++((Ma++(Mb++Mc))++M2))) []:=kn.stE 0 rfl h2
    have gy:=kn.e 0 rfl
    refine Qa ?_
    simp only[go_sem]
    refine⟨Qr (by omega) (by omega),?_⟩
    refine Qa ?_
    simp only[go_sem,gy,hlen,hlt2,htake,Qt5 hdn,hta,htb,htc]
    refine⟨by omega,by omega,?_⟩
    have e1:((kk:Nat):Int)+1+1=((kk+2:Nat):Int):=by omega
    try rw[e1]
    have kn:Kn H H2 (((y,Obj.vec 5 (dn++([.int .i64 (kk:Nat),.str (mkT (kk+1)),ta,tb,tc]:List C)::td))::Md)++(Ma++(Mb++(Mc++M2)))) []:=by simpa only[List.append_assoc,List.cons_append,List.nil_append,List.singleton_append]using kn
    refine Qayl (Qai x.args) x.args Ma ta (kk+2) H2 _ (Nat.le_refl _) ha (fun p hp=>(kn.get p (by simp[hp])).1) (Qaty kn.dE) (by omega) fun H2 Ma' hf1 ha2 hu=>?_
    have kn:Kn H H2 (((y,Obj.vec 5 (dn++([.int .i64 (kk:Nat),.str (mkT (kk+1)),ta,tb,tc]:List C)::td))::Md)++(Ma'++(Mb++(Mc++M2)))) []:=Kn.callM kn hu hf1 ha2.vecs
    have gy:=kn.e 0 rfl
    simp only[go_sem,Qpz]
    refine Qa ?_
    simp only[go_sem,gy,hlen,hlt2,htake,Qt5 hdn,hta,htb,htc]
    refine⟨by omega,by omega,?_⟩
    have e2:((kk+2+Qad x.args:Nat):Int)=((kk+2+Qad x.args:Nat):Int):=by omega
    try rw[e2]
    have kn:Kn H H2 (((y,Obj.vec 5 (dn++([.int .i64 (kk:Nat),.str (mkT (kk+1)),ta,tb,tc]:List C)::td))::(Md++Ma'))++(Mb++(Mc++M2))) []:=by simpa only[List.append_assoc,List.cons_append,List.nil_append,List.singleton_append]using kn
    refine ih (Qj x.body) (by omega) x.body Mb tb (kk+2+Qad x.args) H2 _ (Nat.le_refl _) hb' (fun p hp=>(kn.get p (by simp[hp])).1) (Qaty kn.dE) (by omega) fun H2 Mb' hf2 hb'2 hu=>?_
    have kn:Kn H H2 (((y,Obj.vec 5 (dn++([.int .i64 (kk:Nat),.str (mkT (kk+1)),ta,tb,tc]:List C)::td))::(Md++Ma'))++(Mb'++(Mc++M2))) []:=Kn.callM kn hu hf2 hb'2.vecs
    have gy:=kn.e 0 rfl
    simp only[go_sem,Qp0]
    refine Qp ?_
    simp only[go_sem,gy,hlen,hlt2,htake,Qt5 hdn,hta,htb,htc]
    refine⟨by omega,by omega,?_⟩
    have e3:((kk+2+Qad x.args+Q5 x.body:Nat):Int)=((kk+2+Qad x.args+Q5 x.body:Nat):Int):=by omega
    try rw[e3]
    have kn:Kn H H2 (((y,Obj.vec 5 (dn++([.int .i64 (kk:Nat),.str (mkT (kk+1)),ta,tb,tc]:List C)::td))::((Md++Ma')++Mb'))++(Mc++M2)) []:=by simpa only[List.append_assoc,List.cons_append,List.nil_append,List.singleton_append]using kn
    refine ih (Qj x.els) (by omega) x.els Mc tc (kk+2+Qad x.args+Q5 x.body) H2 _ (Nat.le_refl _) hc' (fun p hp=>(kn.get p (by simp[hp])).1) (Qaty kn.dE) (by omega) fun H2 Mc' hf3 hc'2 hu=>?_
    have kn:Kn H H2 (((y,Obj.vec 5 (dn++([.int .i64 (kk:Nat),.str (mkT (kk+1)),ta,tb,tc]:List C)::td))::((Md++Ma')++Mb'))++(Mc'++M2)) []:=Kn.callM kn hu hf3 hc'2.vecs
    have gy:=kn.e 0 rfl
    simp only[go_sem,Qp1]
    refine Qp ?_
    simp only[go_sem,AE.X.next]
    have e5:k+Q5 (l.take (i+1))=kk+2+Qad x.args+Q5 x.body+Q5 x.els:=by omega
    refine⟨Qr (by omega) (by omega),l.length-(i+1),by omega,i+1,dn++[[.int .i64 (kk:Nat),.str (mkT (kk+1)),ta,tb,tc]],td,Md++(Ma'++(Mb'++Mc')),M2,rfl,by omega,by simp[hdn],by simp only[List.length_cons]at htd;omega,?_,fun r hr=>ht4 r (by simp[hr]),?_,ho2,?_,?_,?_⟩
    ·intro r hr
     rcases List.mem_append.1 hr with hr|hr
     ·exact hd4 r hr
     ·rw[List.mem_singleton.1 hr];rfl
    ·rw[htk,Qajj,hkk,←Qm6,List.flatten_append,List.flatten_append]
     refine hod.app ?_
     simp only[Qa2,Qk,St.mark_eq,St.cells,List.flatten_cons,List.flatten_nil,List.append_nil]
     exact .atom rfl (.atom rfl (ha2.cons (hb'2.cons hc'2.one)))
    ·rw[←hfst];simp only[List.map_append,List.append_assoc,hf1,hf2,hf3]
    ·have:=kn
     simpa only[List.append_assoc,List.cons_append,List.nil_append,List.singleton_append]using this
    ·rw[e5];rfl
   ·intro hc
    have hge:l.length≤i:=by have:=of_decide_eq_false hc;omega
    rw[List.take_of_length_le hge]at hod
    have htd0:td=[]:=List.length_eq_zero_iff.1 (by omega)
    rw[List.drop_of_length_le hge]at hot
    subst htd0
    obtain rfl:Mt=[]:=by cases hot;rfl
    rw[List.append_nil]at hfst
    rw[List.append_nil,List.append_nil]at kn
    rw[List.take_of_length_le hge]
    have hn2:rows.length=dn.length:=by omega
    refine Qt ?_
    simp only[go_sem,AE.X.next]
    refine Qa ?_
    simp only[go_sem]
    refine Qg ?_
    simp only[go_sem,Qq,Qz,Qat4,List.mem_singleton,forall_eq,RS.op]
    refine hK _ ((y,.vec 5 dn)::Md) (by simp only[List.map_cons,hfst]) (.inr ⟨y,Md,dn,by rw[hn2],rfl,by rw[Qo,Qr2];omega,hd4,Qzy,hod⟩) ?_
    have:=kn.upd
    simpa using this
theorem Qap1:∀(n:Nat) (l:List (List UInt8)) (L:List (Nat×Obj)) (t:C) (k:Nat) (H:Heap) (K:V→Heap→Prop),Qag l≤n→OwS L 1 (Q1 l) t→(∀p∈L,H p.1=p.2)→(L.map Prod.fst).Nodup→k+Qag l<2 ^ 62→
  (∀H' L',L'.map Prod.fst=L.map Prod.fst→OwS L' 1 (Q1 (Qav l k)) t→Upd H H' L'→K (.c (.int .i64 ((k+Qag l:Nat):Int))) H')→Ql prog Qia [.c t,.c (.int .i64 (k:Nat))] H K:=by
 intro n
 induction n using Nat.strongRecOn with
 |ind n ih=>
 intro l L t k H K hn ho hm hd hb hK
 rcases ho with ⟨rfl,h1,rfl⟩|⟨y,M,rows,rfl,rfl,hrl,hr4,_,ho⟩
 ·have:l=[]:=List.length_eq_zero_iff.1 (by rw[←Qv,h1];rfl)
  subst this
  refine Qc Qah Qr8 ?_
  refine Qa ?_
  simp only[go_sem]
  refine Qu ?_
  refine Qa ?_
  simp only[go_sem]
  refine Qe (Qf (Qy (fun m e1 H1=>H1=H∧e1=[(0,.c (.sl true 1 [])),(1,.c (.int .i64 (k:Nat))),(5,.c (.int .i64 0))]) 0 ?_ ?_))
  ·exact⟨rfl,rfl⟩
  ·rintro m e1 H1 ⟨rfl,rfl⟩
   refine Qu ?_
   refine Qa ?_
   simp only[go_sem]
   refine Qe (Qb rfl (fun h=>by simp[lk]at h) (fun _=>?_))
   refine Qt ?_
   simp only[go_sem,AE.X.next]
   refine Qa ?_
   simp only[go_sem]
   refine Qg ?_
   simp only[go_sem,Qq,Qz,Qat4,List.mem_singleton,forall_eq,RS.op]
   exact hK _ [] rfl (.inl ⟨rfl,rfl,rfl⟩) ⟨by simp,fun _ _ _=>rfl⟩
 ·have hll:l.length=rows.length:=by rw[←Qv];exact hrl
  refine Qc Qah Qr8 ?_
  refine Qa ?_
  simp only[go_sem]
  refine Qu ?_
  refine Qa ?_
  simp only[go_sem]
  refine Qe (Qf (Qy (fun m e1 H1=>∃(i:Nat) (dn td:List (List C)) (Md Mt:List (Nat×Obj)),m=l.length-i∧i≤l.length∧dn.length=i∧td.length=l.length-i∧(∀r∈dn,r.length=1)∧(∀r∈td,r.length=1)∧
   OwL Md dn.flatten (Q1 (Qav (l.take i) k)).flatten∧OwL Mt td.flatten (Q1 (l.drop i)).flatten∧(Md++Mt).map Prod.fst=M.map Prod.fst∧Kn H H1 ((y,.vec 1 (dn++td))::(Md++Mt)) []∧
   e1=[(0,.c (.vsl y 1 0 rows.length)),(1,.c (.int .i64 ((k+Qag (l.take i):Nat):Int))),(5,.c (.int .i64 i))]) l.length ?_ ?_))
  ·exact⟨0,[],rows,[],M,by omega,by omega,rfl,by omega,by simp,hr4,.nil,ho,rfl,.startE (fun p hp=>⟨hm p hp,by
    rcases List.mem_cons.1 hp with rfl|hp
    ·nofun
    ·obtain⟨z,r,h1,_⟩:=ho.vecs p hp
     rw[h1];nofun⟩) hd,rfl⟩
  ·rintro m e1 H1 ⟨i,dn,td,Md,Mt,hm,hi,hdn,htd,hd4,ht4,hod,hot,hfst,kn,rfl⟩
   have gy:=kn.e 0 rfl
   have hlen:(dn++td).length=rows.length:=by rw[List.length_append];omega
   refine Qu ?_
   refine Qa ?_
   simp only[go_sem,gy,hlen]
   refine⟨by omega,fun hlm=>?_⟩
   simp only[LIM]at hlm
   refine Qe (Qb rfl ?_ ?_)
   ·intro hc
    have hlt:i<l.length:=by have:=of_decide_eq_true hc;omega
    have hlt2:i<rows.length:=by omega
    obtain⟨x,hx⟩:∃x,l[i]=x:=⟨_,rfl⟩
    have hdr:l.drop i=x::l.drop (i+1):=by rw[List.drop_eq_getElem_cons hlt,hx]
    have htk:l.take (i+1)=l.take i++[x]:=by rw[List.take_succ_eq_append_getElem hlt,hx]
    obtain⟨r,td,rfl⟩:∃r td',td=r::td':=by
     cases td with
     |nil=>simp at htd;omega
     |cons r td'=>exact⟨r,td',rfl⟩
    have hr:=ht4 r (by simp)
    rw[hdr,show Q1 (x::l.drop (i+1))=([C.str x]:List C)::Q1 (l.drop (i+1)) from by simp[Q1]]at hot
    obtain⟨M1,M2,rfl,ho1,ho2⟩:=hot.uncons (by rw[hr];rfl)
    have hcn:Qag (l.take (i+1))=Qag (l.take i)+Qag [x]:=by rw[htk,Qrx]
    have hle:Qag (l.take (i+1))≤Qag l:=by
     have:=Qrx (l.take (i+1)) (l.drop (i+1))
     rw[List.take_append_drop]at this;omega
    have hxs:x∈l:=by rw[←hx];exact List.getElem_mem hlt
    obtain⟨kk,hkk⟩:∃kk,k+Qag (l.take i)=kk:=⟨_,rfl⟩
    rw[hkk]
    simp only[Qag]at hcn
    obtain⟨c0,e0,h0⟩:=ho1.inv_atom rfl
    obtain⟨rfl,rfl⟩:=h0.inv_nil
    subst e0
    have hlen:∀r:List C,(dn++r::td).length=rows.length:=fun r=>by
     simp only[List.length_append,List.length_cons]at htd⊢;omega
    have htake:∀r:List C,List.take rows.length (dn++r::td)=dn++r::td:=fun r=>List.take_of_length_le (by rw[hlen r];omega)
    refine Qd ?_
    try simp only[go_sem]
    refine Qe (Qf ?_)
    refine Qa ?_
    simp only[go_sem]
    refine Qfv (k:=kk) (by omega) ?_
    simp only[go_sem,Qm5,gy,hlen,hlt2,Q8n hdn]
    refine⟨by omega,by omega,fun H2 h2=>?_⟩
    rw[Q98 hdn]at h2
    have kn:Kn H H2 ((y,.vec 1 (dn++([.str (mkT kk)]:List C)::td))::(Md++([]++M2))) []:=kn.stE 0 rfl h2
    have gy:=kn.e 0 rfl
    refine Qp ?_
    simp only[go_sem]
    refine⟨Qr (by omega) (by omega),?_⟩
    refine Qp ?_
    simp only[go_sem,AE.X.next]
    have e5:k+Qag (l.take (i+1))=kk+1:=by omega
    refine⟨Qr (by omega) (by omega),l.length-(i+1),by omega,i+1,dn++[[.str (mkT kk)]],td,Md,M2,rfl,by omega,by simp[hdn],by simp only[List.length_cons]at htd;omega,?_,fun r hr=>ht4 r (by simp[hr]),?_,ho2,?_,?_,?_⟩
    ·intro r hr
     rcases List.mem_append.1 hr with hr|hr
     ·exact hd4 r hr
     ·rw[List.mem_singleton.1 hr];rfl
    ·rw[htk,Q4x,hkk,Qa7g,List.flatten_append,List.flatten_append]
     have:=hod.app (M:=[]) (b:=[C.str (mkT kk)]) (b':=[C.str (mkT kk)]) (.atom rfl .nil)
     rw[List.append_nil]at this
     simp only[Qav,Q1,Qa2s,Qa7h,List.flatten_cons,List.flatten_nil,List.append_nil]
     exact this
    ·rw[←hfst];simp only[List.map_append,List.append_assoc,List.nil_append]
    ·have:=kn
     simpa only[List.append_assoc,List.cons_append,List.nil_append,List.singleton_append]using this
    ·rw[e5];rfl
   ·intro hc
    have hge:l.length≤i:=by have:=of_decide_eq_false hc;omega
    rw[List.take_of_length_le hge]at hod
    have htd0:td=[]:=List.length_eq_zero_iff.1 (by omega)
    rw[List.drop_of_length_le hge]at hot
    subst htd0
    obtain rfl:Mt=[]:=by cases hot;rfl
    rw[List.append_nil]at hfst
    rw[List.append_nil,List.append_nil]at kn
    rw[List.take_of_length_le hge]
    have hn2:rows.length=dn.length:=by omega
    refine Qt ?_
    simp only[go_sem,AE.X.next]
    refine Qa ?_
    simp only[go_sem]
    refine Qg ?_
    simp only[go_sem,Qq,Qz,Qat4,List.mem_singleton,forall_eq,RS.op]
    refine hK _ ((y,.vec 1 dn)::Md) (by simp only[List.map_cons,hfst]) (.inr ⟨y,Md,dn,by rw[hn2],rfl,by rw[Qv,Qw0];omega,hd4,Qasp,hod⟩) ?_
    have:=kn.upd
    simpa using this
theorem Qa8l (f:Fn):Qn [f]=[f.cells]:=rfl
theorem Qa94:∀(n:Nat) (l:List Fn) (L:List (Nat×Obj)) (t:C) (k:Nat) (H:Heap) (K:V→Heap→Prop),l.length≤n→OwS L 3 (Qn l) t→(∀p∈L,H p.1=p.2)→(L.map Prod.fst).Nodup→k+Qaj l<2 ^ 62→
  (∀H' L',L'.map Prod.fst=L.map Prod.fst→OwS L' 3 (Qn (Qbk l k)) t→Upd H H' L'→K (.c (.int .i64 ((k+Qaj l:Nat):Int))) H')→Ql prog Qqp [.c t,.c (.int .i64 (k:Nat))] H K:=by
 intro n
 induction n using Nat.strongRecOn with
 |ind n ih=>
 intro l L t k H K hn ho hm hd hb hK
 rcases ho with ⟨rfl,h1,rfl⟩|⟨y,M,rows,rfl,rfl,hrl,hr4,_,ho⟩
 ·have:l=[]:=List.length_eq_zero_iff.1 (by rw[←Qw,h1];rfl)
  subst this
  refine Qc Qah Q8p ?_
  refine Qa ?_
  simp only[go_sem]
  refine Qu ?_
  refine Qa ?_
  simp only[go_sem]
  refine Qe (Qf (Qy (fun m e1 H1=>H1=H∧e1=[(0,.c (.sl true 3 [])),(1,.c (.int .i64 (k:Nat))),(5,.c (.int .i64 0))]) 0 ?_ ?_))
  ·exact⟨rfl,rfl⟩
  ·rintro m e1 H1 ⟨rfl,rfl⟩
   refine Qu ?_
   refine Qa ?_
   simp only[go_sem]
   refine Qe (Qb rfl (fun h=>by simp[lk]at h) (fun _=>?_))
   refine Qt ?_
   simp only[go_sem,AE.X.next]
   refine Qa ?_
   simp only[go_sem]
   refine Qg ?_
   simp only[go_sem,Qq,Qz,Qat4,List.mem_singleton,forall_eq,RS.op]
   exact hK _ [] rfl (.inl ⟨rfl,rfl,rfl⟩) ⟨by simp,fun _ _ _=>rfl⟩
 ·have hll:l.length=rows.length:=by rw[←Qw];exact hrl
  refine Qc Qah Q8p ?_
  refine Qa ?_
  simp only[go_sem]
  refine Qu ?_
  refine Qa ?_
  simp only[go_sem]
  refine Qe (Qf (Qy (fun m e1 H1=>∃(i:Nat) (dn td:List (List C)) (Md Mt:List (Nat×Obj)),m=l.length-i∧i≤l.length∧dn.length=i∧td.length=l.length-i∧(∀r∈dn,r.length=3)∧(∀r∈td,r.length=3)∧
   OwL Md dn.flatten (Qn (Qbk (l.take i) k)).flatten∧OwL Mt td.flatten (Qn (l.drop i)).flatten∧(Md++Mt).map Prod.fst=M.map Prod.fst∧Kn H H1 ((y,.vec 3 (dn++td))::(Md++Mt)) []∧
   e1=[(0,.c (.vsl y 3 0 rows.length)),(1,.c (.int .i64 ((k+Qaj (l.take i):Nat):Int))),(5,.c (.int .i64 i))]) l.length ?_ ?_))
  ·exact⟨0,[],rows,[],M,by omega,by omega,rfl,by omega,by simp,hr4,.nil,ho,rfl,.startE (fun p hp=>⟨hm p hp,by
    rcases List.mem_cons.1 hp with rfl|hp
    ·nofun
    ·obtain⟨z,r,h1,_⟩:=ho.vecs p hp
     rw[h1];nofun⟩) hd,rfl⟩
  ·rintro m e1 H1 ⟨i,dn,td,Md,Mt,hm,hi,hdn,htd,hd4,ht4,hod,hot,hfst,kn,rfl⟩
   have gy:=kn.e 0 rfl
   have hlen:(dn++td).length=rows.length:=by rw[List.length_append];omega
   refine Qu ?_
   refine Qa ?_
   simp only[go_sem,gy,hlen]
   refine⟨by omega,fun hlm=>?_⟩
   simp only[LIM]at hlm
   refine Qe (Qb rfl ?_ ?_)
   ·intro hc
    have hlt:i<l.length:=by have:=of_decide_eq_true hc;omega
    have hlt2:i<rows.length:=by omega
    obtain⟨x,hx⟩:∃x,l[i]=x:=⟨_,rfl⟩
    have hdr:l.drop i=x::l.drop (i+1):=by rw[List.drop_eq_getElem_cons hlt,hx]
    have htk:l.take (i+1)=l.take i++[x]:=by rw[List.take_succ_eq_append_getElem hlt,hx]
    obtain⟨r,td,rfl⟩:∃r td',td=r::td':=by
     cases td with
     |nil=>simp at htd;omega
     |cons r td'=>exact⟨r,td',rfl⟩
    have hr:=ht4 r (by simp)
    rw[hdr,show Qn (x::l.drop (i+1))=x.cells::Qn (l.drop (i+1)) from by simp[Qn]]at hot
    obtain⟨M1,M2,rfl,ho1,ho2⟩:=hot.uncons (by rw[hr,x.cells_len])
    have hcn:Qaj (l.take (i+1))=Qaj (l.take i)+Qaj [x]:=by rw[htk,Qqr]
    have hle:Qaj (l.take (i+1))≤Qaj l:=by
     have:=Qqr (l.take (i+1)) (l.drop (i+1))
     rw[List.take_append_drop]at this;omega
    have hxs:x∈l:=by rw[←hx];exact List.getElem_mem hlt
    obtain⟨kk,hkk⟩:∃kk,k+Qaj (l.take i)=kk:=⟨_,rfl⟩
    rw[hkk]
    simp only[Qaj]at hcn
    obtain⟨Ma,Mb,ta,tb,rfl,rfl,ha,hb'⟩:=OwL.fn ho1
    have hta:=ha.isOw
    have htb:=hb'.isOw
    have hlen:∀r:List C,(dn++r::td).length=rows.length:=fun r=>by
     simp only[List.length_append,List.length_cons]at htd⊢;omega
    have htake:∀r:List C,List.take rows.length (dn++r::td)=dn++r::td:=fun r=>List.take_of_length_le (by rw[hlen r];omega)
    have hcx:x.mcnt=1+Qag x.params+Q5 x.body:=by rw[Fn.mcnt,Qfo]
    refine Qd ?_
    try simp only[go_sem]
    refine Qe (Qf ?_)
    refine Qa ?_
    simp only[go_sem]
    refine Qfv (k:=kk) (by omega) ?_
    simp only[go_sem,Qvy,gy,hlen,hlt2,Q8n hdn,hta,htb]
    refine⟨by omega,by omega,fun H2 h2=>?_⟩
    rw[Q98 hdn]at h2
    have kn:Kn H H2 ((y,.vec 3 (dn++([.str (mkT kk),ta,tb]:List C)::td))::(Md++((Ma++Mb)++M2))) []:=kn.stE 0 rfl h2
    have gy:=kn.e 0 rfl
    refine Qa ?_
    simp only[go_sem]
    refine⟨Qr (by omega) (by omega),?_⟩
    refine Qa ?_
    simp only[go_sem,gy,hlen,hlt2,htake,Qt5 hdn,hta,htb]
    refine⟨by omega,by omega,?_⟩
    have e1:((kk:Nat):Int)+1=((kk+1:Nat):Int):=by omega
    try rw[e1]
    have kn:Kn H H2 (((y,Obj.vec 3 (dn++([.str (mkT kk),ta,tb]:List C)::td))::Md)++(Ma++(Mb++M2))) []:=by simpa only[List.append_assoc,List.cons_append,List.nil_append,List.singleton_append]using kn
    refine Qap1 (Qag x.params) x.params Ma ta (kk+1) H2 _ (Nat.le_refl _) ha (fun p hp=>(kn.get p (by simp[hp])).1) (Qaty kn.dE) (by omega) fun H2 Ma' hf1 ha2 hu=>?_
    have kn:Kn H H2 (((y,Obj.vec 3 (dn++([.str (mkT kk),ta,tb]:List C)::td))::Md)++(Ma'++(Mb++M2))) []:=Kn.callM kn hu hf1 ha2.vecs
    have gy:=kn.e 0 rfl
    simp only[go_sem,Qvz]
    refine Qp ?_
    simp only[go_sem,gy,hlen,hlt2,htake,Qt5 hdn,hta,htb]
    refine⟨by omega,by omega,?_⟩
    have e2:((kk+1+Qag x.params:Nat):Int)=((kk+1+Qag x.params:Nat):Int):=by omega
    try rw[e2]
    have kn:Kn H H2 (((y,Obj.vec 3 (dn++([.str (mkT kk),ta,tb]:List C)::td))::(Md++Ma'))++(Mb++M2)) []:=by simpa only[List.append_assoc,List.cons_append,List.nil_append,List.singleton_append]using kn
    refine Qaym (Qj x.body) x.body Mb tb (kk+1+Qag x.params) H2 _ (Nat.le_refl _) hb' (fun p hp=>(kn.get p (by simp[hp])).1) (Qaty kn.dE) (by omega) fun H2 Mb' hf2 hb'2 hu=>?_
    have kn:Kn H H2 (((y,Obj.vec 3 (dn++([.str (mkT kk),ta,tb]:List C)::td))::(Md++Ma'))++(Mb'++M2)) []:=Kn.callM kn hu hf2 hb'2.vecs
    have gy:=kn.e 0 rfl
    simp only[go_sem,Qv0]
    refine Qp ?_
    simp only[go_sem,AE.X.next]
    have e5:k+Qaj (l.take (i+1))=kk+1+Qag x.params+Q5 x.body:=by omega
    refine⟨Qr (by omega) (by omega),l.length-(i+1),by omega,i+1,dn++[[.str (mkT kk),ta,tb]],td,Md++(Ma'++Mb'),M2,rfl,by omega,by simp[hdn],by simp only[List.length_cons]at htd;omega,?_,fun r hr=>ht4 r (by simp[hr]),?_,ho2,?_,?_,?_⟩
    ·intro r hr
     rcases List.mem_append.1 hr with hr|hr
     ·exact hd4 r hr
     ·rw[List.mem_singleton.1 hr];rfl
    ·rw[htk,Qaew,hkk,Qa8k,List.flatten_append,List.flatten_append]
     refine hod.app ?_
     simp only[Qbk,Qa8l,Fn.mark,Fn.cells,←Qfo,List.flatten_cons,List.flatten_nil,List.append_nil]
     exact .atom rfl (ha2.cons hb'2.one)
    ·rw[←hfst];simp only[List.map_append,List.append_assoc,hf1,hf2]
    ·have:=kn
     simpa only[List.append_assoc,List.cons_append,List.nil_append,List.singleton_append]using this
    ·rw[e5];rfl
   ·intro hc
    have hge:l.length≤i:=by have:=of_decide_eq_false hc;omega
    rw[List.take_of_length_le hge]at hod
    have htd0:td=[]:=List.length_eq_zero_iff.1 (by omega)
    rw[List.drop_of_length_le hge]at hot
    subst htd0
    obtain rfl:Mt=[]:=by cases hot;rfl
    rw[List.append_nil]at hfst
    rw[List.append_nil,List.append_nil]at kn
    rw[List.take_of_length_le hge]
    have hn2:rows.length=dn.length:=by omega
    refine Qt ?_
    simp only[go_sem,AE.X.next]
    refine Qa ?_
    simp only[go_sem]
    refine Qg ?_
    simp only[go_sem,Qq,Qz,Qat4,List.mem_singleton,forall_eq,RS.op]
    refine hK _ ((y,.vec 3 dn)::Md) (by simp only[List.map_cons,hfst]) (.inr ⟨y,Md,dn,by rw[hn2],rfl,by rw[Qw,Qqq];omega,hd4,Qa8m,hod⟩) ?_
    have:=kn.upd
    simpa using this
theorem Q3g {L:List (Nat×Obj)}{t:C}{k:Nat}(ho:OwS L 3 (Qn fns) t)(hm:∀p∈L,H p.1=p.2)(hd:(L.map Prod.fst).Nodup)(hb:k+Qaj fns<2 ^ 62)
  (hK:∀H' L',L'.map Prod.fst=L.map Prod.fst→OwS L' 3 (Qn (Qbk fns k)) t→Upd H H' L'→K (.c (.int .i64 ((k+Qaj fns:Nat):Int))) H'):Ql prog Qem [.ag [t],.c (.int .i64 (k:Nat))] H K:=by
 have hto:=ho.isOw
 refine Qc Qah Qaah ?_
 refine Qa ?_
 simp only[go_sem,hto]
 refine Qa ?_
 simp only[go_sem,hto]
 refine Qa94 fns.length fns L t k H _ (Nat.le_refl _) ho hm hd hb fun H2 L' hf ho' hu=>?_
 simp only[go_sem,Qm4]
 refine Qa ?_
 simp only[go_sem]
 refine Qg ?_
 simp only[go_sem,Qq,Qz,Qat4,List.mem_singleton,forall_eq,RS.op]
 exact hK _ _ hf ho' hu
end Go.AE.Y

namespace Go.AE.Y
attribute [local go_sem] cond_true cond_false Bool.not_true Bool.not_false
open Go.Proofs.Tryz
variable {H H0 F:Heap}{K:V→Heap→Prop}{fns:List Fn}
theorem Qax0:∀(n:Nat) (l:List Ex) (fl:Bool) (k:Nat) (H:Heap) (K:V→Heap→Prop),Qai l≤n→k+Qad l<2 ^ 62→K (.c (.int .i64 ((k+Qad l:Nat):Int))) H→Ql prog Qgh [.c (.sl fl 4 (Qm (Qbb l k))),.c (.int .i64 (k:Nat))] H K:=by
 intro n
 induction n using Nat.strongRecOn with
 |ind n ih=>
 intro l fl k H K hn hb hK
 have hlen:(Qm (Qbb l k)).length=l.length:=by rw[Qh,Qqi]
 refine Qc Qah Qajz ?_
 refine Qa ?_
 simp only[go_sem]
 refine Qu ?_
 refine Qa ?_
 simp only[go_sem]
 refine Qe (Qf (Qy (fun m e1 H1=>∃(i:Nat),m=l.length-i∧i≤l.length∧H1=H∧
  e1=[(0,.c (.sl fl 4 (Qm (Qbb l k)))),(1,.c (.int .i64 ((k+Qad (l.take i):Nat):Int))),(5,.c (.int .i64 i))]) l.length ?_ ?_))
 ·exact⟨0,by omega,by omega,rfl,rfl⟩
 ·rintro m e1 H1 ⟨i,hm,hi,rfl,rfl⟩
  refine Qu ?_
  refine Qa ?_
  simp only[go_sem,hlen]
  intro hlm
  simp only[LIM]at hlm
  refine Qe (Qb rfl ?_ ?_)
  ·intro hc
   have hlt:i<l.length:=by simpa using hc
   obtain⟨x,hx⟩:∃x,l[i]=x:=⟨_,rfl⟩
   have hxs:x∈l:=by rw[←hx];exact List.getElem_mem hlt
   have htk:l.take (i+1)=l.take i++[x]:=by rw[List.take_succ_eq_append_getElem hlt,hx]
   have hcn:Qad (l.take (i+1))=Qad (l.take i)+Qad [x]:=by rw[htk,Qw9]
   have hle:Qad (l.take (i+1))≤Qad l:=by
    have:=Qw9 (l.take (i+1)) (l.drop (i+1))
    rw[List.take_append_drop]at this;omega
   obtain⟨kk,hkk⟩:∃kk,k+Qad (l.take i)=kk:=⟨_,rfl⟩
   rw[hkk]
   simp only[Qad]at hcn
   have hdr:l=l.take i++x::l.drop (i+1):=by
    have:=(List.take_append_drop i l).symm
    rwa [List.drop_eq_getElem_cons hlt,hx]at this
   have hrow:(Qm (Qbb l k)).getD i []=[.int .i64 (kk:Nat),.int .i64 ((kk:Nat)+1),.str (mkT (kk+2)),.sl false 4 (Qm (Qbb x.kids (kk+3)))]:=by
    have e:Qbb l k=Qbb (l.take i) k++Qbb (x::l.drop (i+1)) kk:=by
     rw[←hkk,←Qaeo,←hdr]
    rw[e,Qbb]
    have h1:(Qbb (l.take i) k).length=i:=by rw[Qqi,List.length_take];omega
    rw[Q6 _ _ (by simp[Qqi];omega)]
    simp[h1,List.getElem_append_right,Ex.mark_eq,Ex.cells]
   have hcx:=x.cnt_eq
   have hsx:=Qac hxs
   have hsk:=x.size_kids
   refine Qd ?_
   try simp only[go_sem]
   refine Qe (Qf ?_)
   ·skip
    refine Qu ?_
    refine Qa ?_
    simp only[go_sem,hlt,hlen,hrow]
    refine Qe (Qb rfl (fun h=>by simp[lk]at h) (fun _=>?_))
    refine Qd ?_
    try simp only[go_sem]
    refine Qa ?_
    simp only[go_sem]
    refine⟨Qr (by omega) (by omega),?_⟩
    refine Qu ?_
    refine Qa ?_
    simp only[go_sem,hlt,hlen,hrow]
    refine Qe (Qb rfl (fun h=>by simp[lk]at h) (fun _=>?_))
    refine Qd ?_
    try simp only[go_sem]
    refine Qa ?_
    simp only[go_sem]
    refine⟨Qr (by omega) (by omega),?_⟩
    refine Qu ?_
    refine Qbg ?_
    simp only[go_sem,hlt,hlen,hrow]
    refine Qfv (k:=kk+2) (by omega) ?_
    simp only[go_sem,Qpq,hlt,hlen,hrow]
    refine Qe (Qb rfl (fun h=>by simp[lk]at h) (fun _=>?_))
    refine Qd ?_
    try simp only[go_sem]
    refine Qa ?_
    simp only[go_sem]
    refine⟨Qr (by omega) (by omega),?_⟩
    refine Qa ?_
    simp only[go_sem,hlt,hlen,hrow]
    have e4:((kk:Nat):Int)+1+1+1=((kk+3:Nat):Int):=by omega
    try rw[e4]
    refine ih (Qai x.kids) (by omega) x.kids false (kk+3) H1 _ (Nat.le_refl _) (by omega) ?_
    simp only[go_sem,Qpr]
    refine Qa ?_
    simp only[go_sem]
    refine Qb rfl (fun h=>by have:=of_decide_eq_true h;omega) (fun _=>?_)
    refine Qd ?_
    try simp only[go_sem,AE.X.next]
    refine Qp ?_
    simp only[go_sem,AE.X.next]
    have e5:k+Qad (l.take (i+1))=kk+3+Qad x.kids:=by omega
    exact⟨Qr (by omega) (by omega),l.length-(i+1),by omega,i+1,rfl,by omega,by rw[e5];rfl⟩
  ·intro hc
   have hge:l.length≤i:=by have:=of_decide_eq_false hc;omega
   rw[List.take_of_length_le hge]
   refine Qt ?_
   simp only[go_sem,AE.X.next]
   refine Qa ?_
   simp only[go_sem]
   refine Qg ?_
   simp only[go_sem,Qq,Qz,Qat4,List.mem_singleton,forall_eq,RS.op]
   exact hK
theorem Qax1:∀(n:Nat) (l:List St) (fl:Bool) (k:Nat) (H:Heap) (K:V→Heap→Prop),Qj l≤n→k+Q5 l<2 ^ 62→K (.c (.int .i64 ((k+Q5 l:Nat):Int))) H→Ql prog Qd5 [.c (.sl fl 5 (Qk (Qa2 l k))),.c (.int .i64 (k:Nat))] H K:=by
 intro n
 induction n using Nat.strongRecOn with
 |ind n ih=>
 intro l fl k H K hn hb hK
 have hlen:(Qk (Qa2 l k)).length=l.length:=by rw[Qo,Qr2]
 refine Qc Qah Qaj0 ?_
 refine Qa ?_
 simp only[go_sem]
 refine Qu ?_
 refine Qa ?_
 simp only[go_sem]
 refine Qe (Qf (Qy (fun m e1 H1=>∃(i:Nat),m=l.length-i∧i≤l.length∧H1=H∧
  e1=[(0,.c (.sl fl 5 (Qk (Qa2 l k)))),(1,.c (.int .i64 ((k+Q5 (l.take i):Nat):Int))),(5,.c (.int .i64 i))]) l.length ?_ ?_))
 ·exact⟨0,by omega,by omega,rfl,rfl⟩
 ·rintro m e1 H1 ⟨i,hm,hi,rfl,rfl⟩
  refine Qu ?_
  refine Qa ?_
  simp only[go_sem,hlen]
  intro hlm
  simp only[LIM]at hlm
  refine Qe (Qb rfl ?_ ?_)
  ·intro hc
   have hlt:i<l.length:=by simpa using hc
   obtain⟨x,hx⟩:∃x,l[i]=x:=⟨_,rfl⟩
   have hxs:x∈l:=by rw[←hx];exact List.getElem_mem hlt
   have htk:l.take (i+1)=l.take i++[x]:=by rw[List.take_succ_eq_append_getElem hlt,hx]
   have hcn:Q5 (l.take (i+1))=Q5 (l.take i)+Q5 [x]:=by rw[htk,Qr3]
   have hle:Q5 (l.take (i+1))≤Q5 l:=by
    have:=Qr3 (l.take (i+1)) (l.drop (i+1))
    rw[List.take_append_drop]at this;omega
   obtain⟨kk,hkk⟩:∃kk,k+Q5 (l.take i)=kk:=⟨_,rfl⟩
   rw[hkk]
   simp only[Q5]at hcn
   have hdr:l=l.take i++x::l.drop (i+1):=by
    have:=(List.take_append_drop i l).symm
    rwa [List.drop_eq_getElem_cons hlt,hx]at this
   have hrow:(Qk (Qa2 l k)).getD i []=[.int .i64 (kk:Nat),.str (mkT (kk+1)),.sl false 4 (Qm (Qbb x.args (kk+2))),.sl false 5 (Qk (Qa2 x.body (kk+2+Qad x.args))),.sl false 5 (Qk (Qa2 x.els (kk+2+Qad x.args+Q5 x.body)))]:=by
    have e:Qa2 l k=Qa2 (l.take i) k++Qa2 (x::l.drop (i+1)) kk:=by
     rw[←hkk,←Qajj,←hdr]
    rw[e,Qa2]
    have h1:(Qa2 (l.take i) k).length=i:=by rw[Qr2,List.length_take];omega
    rw[Q4 _ _ (by simp[Qr2];omega)]
    simp[h1,List.getElem_append_right,St.mark_eq,St.cells]
   have hcx:=x.mcnt_eq
   have hsx:=Qak hxs
   have hsk:=x.size_eq
   refine Qd ?_
   try simp only[go_sem]
   refine Qe (Qf ?_)
   ·skip
    refine Qu ?_
    refine Qa ?_
    simp only[go_sem,hlt,hlen,hrow]
    refine Qe (Qb rfl (fun h=>by simp[lk]at h) (fun _=>?_))
    refine Qd ?_
    try simp only[go_sem]
    refine Qa ?_
    simp only[go_sem]
    refine⟨Qr (by omega) (by omega),?_⟩
    refine Qu ?_
    refine Qbg ?_
    simp only[go_sem,hlt,hlen,hrow]
    refine Qfv (k:=kk+1) (by omega) ?_
    simp only[go_sem,Qps,hlt,hlen,hrow]
    refine Qe (Qb rfl (fun h=>by simp[lk]at h) (fun _=>?_))
    refine Qd ?_
    try simp only[go_sem]
    refine Qa ?_
    simp only[go_sem]
    refine⟨Qr (by omega) (by omega),?_⟩
    refine Qa ?_
    simp only[go_sem,hlt,hlen,hrow]
    have e3:((kk:Nat):Int)+1+1=((kk+2:Nat):Int):=by omega
    try rw[e3]
    refine Qax0 (Qai x.args) x.args false (kk+2) H1 _ (Nat.le_refl _) (by omega) ?_
    simp only[go_sem,Qpt]
    refine Qu ?_
    refine Qa ?_
    simp only[go_sem]
    refine Qe (Qb rfl (fun h=>by have:=of_decide_eq_true h;omega) (fun _=>?_))
    refine Qd ?_
    try simp only[go_sem]
    refine Qa ?_
    simp only[go_sem,hlt,hlen,hrow]
    have e5:((kk+2+Qad x.args:Nat):Int)=((kk+2+Qad x.args:Nat):Int):=by omega
    try rw[e5]
    refine ih (Qj x.body) (by omega) x.body false (kk+2+Qad x.args) H1 _ (Nat.le_refl _) (by omega) ?_
    simp only[go_sem,Qpu]
    refine Qu ?_
    refine Qa ?_
    simp only[go_sem]
    refine Qe (Qb rfl (fun h=>by have:=of_decide_eq_true h;omega) (fun _=>?_))
    refine Qd ?_
    try simp only[go_sem]
    refine Qa ?_
    simp only[go_sem,hlt,hlen,hrow]
    have e7:((kk+2+Qad x.args+Q5 x.body:Nat):Int)=((kk+2+Qad x.args+Q5 x.body:Nat):Int):=by omega
    try rw[e7]
    refine ih (Qj x.els) (by omega) x.els false (kk+2+Qad x.args+Q5 x.body) H1 _ (Nat.le_refl _) (by omega) ?_
    simp only[go_sem,Qpv]
    refine Qa ?_
    simp only[go_sem]
    refine Qb rfl (fun h=>by have:=of_decide_eq_true h;omega) (fun _=>?_)
    refine Qd ?_
    try simp only[go_sem,AE.X.next]
    refine Qp ?_
    simp only[go_sem,AE.X.next]
    have e5:k+Q5 (l.take (i+1))=kk+2+Qad x.args+Q5 x.body+Q5 x.els:=by omega
    exact⟨Qr (by omega) (by omega),l.length-(i+1),by omega,i+1,rfl,by omega,by rw[e5];rfl⟩
  ·intro hc
   have hge:l.length≤i:=by have:=of_decide_eq_false hc;omega
   rw[List.take_of_length_le hge]
   refine Qt ?_
   simp only[go_sem,AE.X.next]
   refine Qa ?_
   simp only[go_sem]
   refine Qg ?_
   simp only[go_sem,Qq,Qz,Qat4,List.mem_singleton,forall_eq,RS.op]
   exact hK
theorem Qape:∀(n:Nat) (l:List (List UInt8)) (fl:Bool) (k:Nat) (H:Heap) (K:V→Heap→Prop),Qag l≤n→k+Qag l<2 ^ 62→K (.c (.int .i64 ((k+Qag l:Nat):Int))) H→Ql prog Qh9 [.c (.sl fl 1 (Q1 (Qav l k))),.c (.int .i64 (k:Nat))] H K:=by
 intro n
 induction n using Nat.strongRecOn with
 |ind n ih=>
 intro l fl k H K hn hb hK
 have hlen:(Q1 (Qav l k)).length=l.length:=by rw[Qv,Qw0]
 refine Qc Qah Qaag ?_
 refine Qa ?_
 simp only[go_sem]
 refine Qu ?_
 refine Qa ?_
 simp only[go_sem]
 refine Qe (Qf (Qy (fun m e1 H1=>∃(i:Nat),m=l.length-i∧i≤l.length∧H1=H∧
  e1=[(0,.c (.sl fl 1 (Q1 (Qav l k)))),(1,.c (.int .i64 ((k+Qag (l.take i):Nat):Int))),(5,.c (.int .i64 i))]) l.length ?_ ?_))
 ·exact⟨0,by omega,by omega,rfl,rfl⟩
 ·rintro m e1 H1 ⟨i,hm,hi,rfl,rfl⟩
  refine Qu ?_
  refine Qa ?_
  simp only[go_sem,hlen]
  intro hlm
  simp only[LIM]at hlm
  refine Qe (Qb rfl ?_ ?_)
  ·intro hc
   have hlt:i<l.length:=by simpa using hc
   obtain⟨x,hx⟩:∃x,l[i]=x:=⟨_,rfl⟩
   have hxs:x∈l:=by rw[←hx];exact List.getElem_mem hlt
   have htk:l.take (i+1)=l.take i++[x]:=by rw[List.take_succ_eq_append_getElem hlt,hx]
   have hcn:Qag (l.take (i+1))=Qag (l.take i)+Qag [x]:=by rw[htk,Qrx]
   have hle:Qag (l.take (i+1))≤Qag l:=by
    have:=Qrx (l.take (i+1)) (l.drop (i+1))
    rw[List.take_append_drop]at this;omega
   obtain⟨kk,hkk⟩:∃kk,k+Qag (l.take i)=kk:=⟨_,rfl⟩
   rw[hkk]
   simp only[Qag]at hcn
   have hdr:l=l.take i++x::l.drop (i+1):=by
    have:=(List.take_append_drop i l).symm
    rwa [List.drop_eq_getElem_cons hlt,hx]at this
   have hrow:(Q1 (Qav l k)).getD i []=[.str (mkT kk)]:=by
    have e:Qav l k=Qav (l.take i) k++Qav (x::l.drop (i+1)) kk:=by
     rw[←hkk,←Q4x,←hdr]
    rw[e,Qav]
    have h1:(Qav (l.take i) k).length=i:=by rw[Qw0,List.length_take];omega
    simp[Q1,List.getD_eq_getElem?_getD,List.getElem?_append_right,h1]
   refine Qd ?_
   try simp only[go_sem]
   refine Qe (Qf ?_)
   ·skip
    refine Qu ?_
    refine Qbg ?_
    simp only[go_sem,hlt,hlen,hrow]
    refine Qfv (k:=kk) (by omega) ?_
    simp only[go_sem,Qm3,hlt,hlen,hrow]
    refine Qe (Qb rfl (fun h=>by simp[lk]at h) (fun _=>?_))
    refine Qd ?_
    try simp only[go_sem]
    refine Qp ?_
    simp only[go_sem]
    refine⟨Qr (by omega) (by omega),?_⟩
    refine Qp ?_
    simp only[go_sem,AE.X.next]
    have e5:k+Qag (l.take (i+1))=kk+1:=by omega
    exact⟨Qr (by omega) (by omega),l.length-(i+1),by omega,i+1,rfl,by omega,by rw[e5];rfl⟩
  ·intro hc
   have hge:l.length≤i:=by have:=of_decide_eq_false hc;omega
   rw[List.take_of_length_le hge]
   refine Qt ?_
   simp only[go_sem,AE.X.next]
   refine Qa ?_
   simp only[go_sem]
   refine Qg ?_
   simp only[go_sem,Qq,Qz,Qat4,List.mem_singleton,forall_eq,RS.op]
   exact hK
theorem Qa8x:∀(n:Nat) (l:List Fn) (fl:Bool) (k:Nat) (H:Heap) (K:V→Heap→Prop),l.length≤n→k+Qaj l<2 ^ 62→K (.c (.int .i64 ((k+Qaj l:Nat):Int))) H→Ql prog Qqo [.c (.sl fl 3 (Qn (Qbk l k))),.c (.int .i64 (k:Nat))] H K:=by
 intro n
 induction n using Nat.strongRecOn with
 |ind n ih=>
 intro l fl k H K hn hb hK
 have hlen:(Qn (Qbk l k)).length=l.length:=by rw[Qw,Qqq]
 refine Qc Qah Qatu ?_
 refine Qa ?_
 simp only[go_sem]
 refine Qu ?_
 refine Qa ?_
 simp only[go_sem]
 refine Qe (Qf (Qy (fun m e1 H1=>∃(i:Nat),m=l.length-i∧i≤l.length∧H1=H∧
  e1=[(0,.c (.sl fl 3 (Qn (Qbk l k)))),(1,.c (.int .i64 ((k+Qaj (l.take i):Nat):Int))),(5,.c (.int .i64 i))]) l.length ?_ ?_))
 ·exact⟨0,by omega,by omega,rfl,rfl⟩
 ·rintro m e1 H1 ⟨i,hm,hi,rfl,rfl⟩
  refine Qu ?_
  refine Qa ?_
  simp only[go_sem,hlen]
  intro hlm
  simp only[LIM]at hlm
  refine Qe (Qb rfl ?_ ?_)
  ·intro hc
   have hlt:i<l.length:=by simpa using hc
   obtain⟨x,hx⟩:∃x,l[i]=x:=⟨_,rfl⟩
   have hxs:x∈l:=by rw[←hx];exact List.getElem_mem hlt
   have htk:l.take (i+1)=l.take i++[x]:=by rw[List.take_succ_eq_append_getElem hlt,hx]
   have hcn:Qaj (l.take (i+1))=Qaj (l.take i)+Qaj [x]:=by rw[htk,Qqr]
   have hle:Qaj (l.take (i+1))≤Qaj l:=by
    have:=Qqr (l.take (i+1)) (l.drop (i+1))
    rw[List.take_append_drop]at this;omega
   obtain⟨kk,hkk⟩:∃kk,k+Qaj (l.take i)=kk:=⟨_,rfl⟩
   rw[hkk]
   simp only[Qaj]at hcn
   have hdr:l=l.take i++x::l.drop (i+1):=by
    have:=(List.take_append_drop i l).symm
    rwa [List.drop_eq_getElem_cons hlt,hx]at this
   have hrow:(Qn (Qbk l k)).getD i []=[.str (mkT kk),.sl false 1 (Q1 (Qav x.params (kk+1))),.sl false 5 (Qk (Qa2 x.body (kk+1+Qag x.params)))]:=by
    have e:Qbk l k=Qbk (l.take i) k++Qbk (x::l.drop (i+1)) kk:=by
     rw[←hkk,←Qaew,←hdr]
    rw[e,Qbk]
    have h1:(Qbk (l.take i) k).length=i:=by rw[Qqq,List.length_take];omega
    rw[Qal _ _ (by simp[Qqq];omega)]
    simp[h1,List.getElem_append_right,Fn.mark,Fn.cells,Qfo]
   have hcx:x.mcnt=1+Qag x.params+Q5 x.body:=by rw[Fn.mcnt,Qfo]
   refine Qd ?_
   try simp only[go_sem]
   refine Qe (Qf ?_)
   ·skip
    refine Qu ?_
    refine Qbg ?_
    simp only[go_sem,hlt,hlen,hrow]
    refine Qfv (k:=kk) (by omega) ?_
    simp only[go_sem,Qvv,hlt,hlen,hrow]
    refine Qe (Qb rfl (fun h=>by simp[lk]at h) (fun _=>?_))
    refine Qd ?_
    try simp only[go_sem]
    refine Qa ?_
    simp only[go_sem]
    refine⟨Qr (by omega) (by omega),?_⟩
    refine Qa ?_
    simp only[go_sem,hlt,hlen,hrow]
    have e2:((kk:Nat):Int)+1=((kk+1:Nat):Int):=by omega
    try rw[e2]
    refine Qape (Qag x.params) x.params false (kk+1) H1 _ (Nat.le_refl _) (by omega) ?_
    simp only[go_sem,Qvw]
    refine Qu ?_
    refine Qa ?_
    simp only[go_sem]
    refine Qe (Qb rfl (fun h=>by have:=of_decide_eq_true h;omega) (fun _=>?_))
    refine Qd ?_
    try simp only[go_sem]
    refine Qa ?_
    simp only[go_sem,hlt,hlen,hrow]
    have e4:((kk+1+Qag x.params:Nat):Int)=((kk+1+Qag x.params:Nat):Int):=by omega
    try rw[e4]
    refine Qax1 (Qj x.body) x.body false (kk+1+Qag x.params) H1 _ (Nat.le_refl _) (by omega) ?_
    simp only[go_sem,Qvx]
    refine Qa ?_
    simp only[go_sem]
    refine Qb rfl (fun h=>by have:=of_decide_eq_true h;omega) (fun _=>?_)
    refine Qd ?_
    try simp only[go_sem,AE.X.next]
    refine Qp ?_
    simp only[go_sem,AE.X.next]
    have e5:k+Qaj (l.take (i+1))=kk+1+Qag x.params+Q5 x.body:=by omega
    exact⟨Qr (by omega) (by omega),l.length-(i+1),by omega,i+1,rfl,by omega,by rw[e5];rfl⟩
  ·intro hc
   have hge:l.length≤i:=by have:=of_decide_eq_false hc;omega
   rw[List.take_of_length_le hge]
   refine Qt ?_
   simp only[go_sem,AE.X.next]
   refine Qa ?_
   simp only[go_sem]
   refine Qg ?_
   simp only[go_sem,Qq,Qz,Qat4,List.mem_singleton,forall_eq,RS.op]
   exact hK
theorem Q27 {fl:Bool}{k:Nat}(hb:k+Qaj fns<2 ^ 62)(hK:K (.c (.int .i64 ((k+Qaj fns:Nat):Int))) H):Ql prog Qel [.ag [.sl fl 3 (Qn (Qbk fns k))],.c (.int .i64 (k:Nat))] H K:=by
 refine Qc Qah Qaaf ?_
 refine Qa ?_
 simp only[go_sem]
 refine Qa ?_
 simp only[go_sem]
 refine Qa8x fns.length fns fl k H _ (Nat.le_refl _) hb ?_
 simp only[go_sem,Qm2]
 refine Qu ?_
 refine Qa ?_
 simp only[go_sem]
 refine Qe (Qb rfl (fun h=>by have:=of_decide_eq_true h;omega) (fun _=>?_))
 refine Qd ?_
 try simp only[go_sem]
 refine Qa ?_
 simp only[go_sem]
 refine Qg ?_
 simp only[go_sem,Qq,Qz,Qat4,List.mem_singleton,forall_eq,RS.op]
 exact hK
end Go.AE.Y

namespace Go.AE.Y
inductive TyC (P:Program):TypeId→List C→Prop
 |int {t:TypeId} (n:Int) (h:P.underlying t=some (.int .i64)) (h1:-(2 ^ 63)≤n) (h2:n<2 ^ 63):TyC P t [.int .i64 n]
 |str {t:TypeId} (s:List UInt8) (h:P.underlying t=some .string) (hl:s.length≤LIM):TyC P t [.str s]
 |stb {t:TypeId} (n:Nat) (h:P.underlying t=some .string) (hl:LIM<n) (h2:n<2 ^ 63):TyC P t [.stb n]
 |sl {t e:TypeId} (rows:List (List C)) (h:P.underlying t=some (.slice e)) (hl:rows.length≤LIM) (hr:∀r∈rows,TyC P e r) (hz:∀r∈rows,r.length=P.cellsOf e):TyC P t [.sl false (P.cellsOf e) rows]
 |slb {t e:TypeId} (n:Nat) (h:P.underlying t=some (.slice e)) (hl:LIM<n) (h2:n<2 ^ 63):TyC P t [.slb n]
 |st {t:TypeId} {fs:Array Field} (css:List (List C)) (h:P.underlying t=some (.struct fs)) (hl:css.length=fs.size) (hc:∀(k:Nat) (f:Field) (cs:List C),fs[k]? = some f→css[k]? = some cs→TyC P f.type cs):TyC P t css.flatten
def layB (P:Program):Nat→List Field→Option Nat
 |n,[]=>some n
 |n,f::r=>if f.offset=n then layB P (n+P.cellsOf f.type) r else none
def okT (P:Program)(L:List TypeId):Bool:=L.all fun t=>match P.underlying t with
 |some (.int k)=>k == .i64
 |some .string=>true
 |some (.slice e)=>L.contains e&&decide (0<P.cellsOf e)
 |some (.struct fs)=>fs.toList.all (fun f=>L.contains f.type)&&layB P 0 fs.toList == some (P.cellsOf t)
 |_=>false
theorem Qaej {β:Type}{n:Nat}{p:Nat→β→Prop}(h:∀i,i<n→∃b,p i b):∃l:List β,l.length=n∧∀(i:Nat) (b:β),l[i]? = some b→p i b:=by
 induction n with
 |zero=>exact⟨[],rfl,fun i b h=>by simp at h⟩
 |succ n ih=>
  obtain⟨l,h1,h2⟩:=ih fun i hi=>h i (by omega)
  obtain⟨b,hb⟩:=h n (by omega)
  refine⟨l++[b],by simp[h1],fun i c hc=>?_⟩
  rcases Nat.lt_or_ge i l.length with hi|hi
  ·rw[List.getElem?_append_left hi]at hc;exact h2 i c hc
  ·rw[List.getElem?_append_right hi]at hc
   have:i=l.length:=by
    rcases Nat.lt_or_ge (i-l.length) 1 with h'|h'
    ·omega
    ·rw[List.getElem?_eq_none (by simpa using h')]at hc;simp at hc
   subst this
   simp at hc;subst hc
   rw[h1];exact hb
theorem wf64 {n:Int}(h:(Lit.int .i64 n).wf=true):-(2 ^ 63)≤n∧n<2 ^ 63:=by
 simp[Lit.wf,IntKind.min,IntKind.max,IntKind.signed,IntKind.bits]at h
 omega
theorem Qatf {P:Program}:∀(fs:List Field) (n m:Nat) (cs:List Value) (css:List (List C)),layB P n fs=some m→cs.length=m→css.length=fs.length→
  (∀(k:Nat) (f:Field) (c:List C),fs[k]? = some f→css[k]? = some c→c.length=P.cellsOf f.type)→
  n+css.flatten.length=m∧∀{W:World} {g:G},(∀(k:Nat) (f:Field) (c:List C),fs[k]? = some f→css[k]? = some c→∀(j:Nat) (x:C) (v:Value),c[j]? = some x→((cs.drop f.offset).take (P.cellsOf f.type))[j]? = some v→RepC W g x v)→
   ∀(j:Nat) (x:C) (v:Value),css.flatten[j]? = some x→cs[n+j]? = some v→RepC W g x v
 |[],n,m,cs,css,h,hcs,hl,hk=>by
  simp only[layB,Option.some.injEq]at h
  have:css=[]:=List.length_eq_zero_iff.1 hl
  subst this
  exact⟨by simpa using h,fun _ j x v h1=>by simp at h1⟩
 |f::fs,n,m,cs,css,h,hcs,hl,hk=>by
  simp only[layB]at h
  split at h
  ·rename_i ho
   match css,hl with
   |c::css,hl=>
    have hc:=hk 0 f c rfl rfl
    obtain⟨h1,h2⟩:=Qatf fs (n+P.cellsOf f.type) m cs css h hcs (by simpa using hl) fun k f' c' a b=>hk (k+1) f' c' (by simpa using a) (by simpa using b)
    refine⟨by simp only[List.flatten_cons,List.length_append];omega,fun hr j x v hx hv=>?_⟩
    rw[List.flatten_cons]at hx
    rcases Nat.lt_or_ge j c.length with hj|hj
    ·rw[List.getElem?_append_left hj]at hx
     refine hr 0 f c rfl rfl j x v hx ?_
     rw[List.getElem?_take,if_pos (by omega),List.getElem?_drop,ho];exact hv
    ·rw[List.getElem?_append_right hj]at hx
     refine h2 (fun k f' c' a b=>hr (k+1) f' c' (by simpa using a) (by simpa using b)) (j-c.length) x v hx ?_
     rw[←hv];congr 1;omega
  ·simp at h
theorem Qbfr {W:World}{base:Nat}{a:Addr}{n:Nat}{row:List Value}(hn:0<n)(h:W.cells? base a n=some row):a.spot=none:=by
 obtain⟨_,hl,hc⟩:=World.cells?_some h
 have h0:=hc 0 hn
 rw[List.getElem?_eq_getElem (by omega)]at h0
 simpa[Addr.add]using World.cell?_spot h0
theorem open_ty {P:Program}{L:List TypeId}(hL:okT P L=true){H:Type}{enc:TypeId×Value→H}{W:World}{base:Nat}{sp:Nat→Bool}(hsp:∀b,sp b=true){hd:Bool}{g:G}(hg:∀b,b<W.heap.size→g.per b=true) :
  ∀(fuel:Nat) (t:TypeId),t∈L→∀(cs:List Value) (x:DataW H×List MemPlace),DataW.trod enc P W base sp hd fuel t cs=some x→
   ∃cells:List C,TyC P t cells∧cells.length=cs.length∧∀(j:Nat) (c:C) (v:Value),cells[j]? = some c→cs[j]? = some v→RepC W g c v:=by
 intro fuel
 induction fuel with
 |zero=>intro t _ cs x h;simp[DataW.trod]at h
 |succ fuel ih=>
  intro t ht cs x h
  have hok:=List.all_eq_true.1 hL t ht
  split at hok
  ·rename_i k hu
   obtain rfl:k=.i64:=by simpa using hok
   obtain⟨n,rfl,rfl,hw⟩:=DataW.trod_int hu h
   obtain⟨w1,w2⟩:=wf64 hw
   refine⟨_,.int n hu w1 w2,rfl,fun j c v h1 h2=>?_⟩
   match j with
   |0=>cases h1;cases h2;exact .int _ _
   |j+1=>simp at h1
  ·rename_i hu
   obtain⟨s,rfl,rfl,hw⟩:=DataW.trod_string hu h
   by_cases hl:s.size≤LIM
   ·refine⟨_,.str s.data.toList hu (by simpa using hl),rfl,fun j c v h1 h2=>?_⟩
    match j with
    |0=>
     cases h1;cases h2
     have:=RepC.str (w:=W) (g:=g) s.data.toList (by simpa using hl)
     have hb:s=⟨s.data.toList.toArray⟩:=by cases s;rfl
     rw[←hb]at this
     exact this
    |j+1=>simp at h1
   ·have hlt:s.size<2 ^ 63:=by unfold maxLen at hw;omega
    refine⟨_,.stb s.size hu (by omega) hlt,rfl,fun j c v h1 h2=>?_⟩
    match j with
    |0=>cases h1;cases h2;exact .stb s hlt
    |j+1=>simp at h1
  ·rename_i e hu
   simp only[Bool.and_eq_true,decide_eq_true_eq,List.contains_iff_mem]at hok
   obtain⟨he,hpos⟩:=hok
   rcases DataW.trod_slice hu h with ⟨rfl,rfl⟩|⟨a,len,cap,elems,rest,n,hn,rfl,rfl,hb,hl,hm,hlen,hel,hrest,_⟩
   ·refine⟨_,.sl [] hu (by simp) (by simp) (by simp),rfl,fun j c v h1 h2=>?_⟩
    match j with
    |0=>cases h1;cases h2;exact .slnil _ _ _
    |j+1=>simp at h1
   ·obtain rfl:n=fuel:=by omega
    have hcap:len<2 ^ 63:=by unfold maxLen at hm;omega
    by_cases hlim:len≤LIM
    ·have hrow:∀i,i<len→∃(q:List C×List Value),TyC P e q.1∧q.1.length=P.cellsOf e∧W.cells? base (a.add (i * P.cellsOf e)) (P.cellsOf e)=some q.2∧
       ∀(j:Nat) (c:C) (v:Value),q.1[j]? = some c→q.2[j]? = some v→RepC W g c v:=by
      intro i hi
      have h1:=hel i hi
      rw[List.getElem?_eq_getElem (by omega),Option.bind_eq_some_iff]at h1
      obtain⟨row,h2,h3⟩:=h1
      obtain⟨cells,k1,k2,k3⟩:=ih e he row _ h3
      exact⟨(cells,row),k1,k2.trans (World.cells?_some h2).2.1,h2,k3⟩
     obtain⟨qs,hql,hqs⟩:=Qaej hrow
     have hty:TyC P t [.sl false (P.cellsOf e) (qs.map Prod.fst)]:=.sl _ hu (by simpa[hql]using hlim) (fun r hr=>by
      obtain⟨q,hq,rfl⟩:=List.mem_map.1 hr
      obtain⟨i,hi⟩:=List.getElem?_of_mem hq
      exact (hqs i q hi).1) (fun r hr=>by
      obtain⟨q,hq,rfl⟩:=List.mem_map.1 hr
      obtain⟨i,hi⟩:=List.getElem?_of_mem hq
      exact (hqs i q hi).2.1)
     refine⟨_,hty,rfl,fun j c v h1 h2=>?_⟩
     match j with
     |j+1=>simp at h1
     |0=>
      cases h1;cases h2
      by_cases h0:cap=0
      ·have hl0:len=0:=by omega
       have:qs=[]:=List.length_eq_zero_iff.1 (by omega)
       subst this;subst h0;subst hl0
       exact .slnil _ _ _
      ·have hrow0:∃row,W.cells? base (a.add (0 * P.cellsOf e)) (P.cellsOf e)=some row:=by
        by_cases hl0:len=0
        ·have h1:=(hrest (hsp _)).2 0 (by omega)
         have hrl:=(hrest (hsp _)).1
         rw[List.getElem?_eq_getElem (by omega),Option.bind_eq_some_iff]at h1
         obtain⟨row,h2,_⟩:=h1
         rw[hl0]at h2
         exact⟨row,h2⟩
        ·have h1:=hel 0 (by omega)
         rw[List.getElem?_eq_getElem (by omega),Option.bind_eq_some_iff]at h1
         obtain⟨row,h2,_⟩:=h1
         exact⟨row,h2⟩
       obtain⟨row0,hrow0⟩:=hrow0
       have hspot:a.spot=none:=by simpa[Addr.add]using Qbfr hpos hrow0
       obtain⟨b,off,spot⟩:=a
       simp only at hspot
       subst hspot
       have hadd:∀o i,(⟨b,o,none⟩:Addr).add i=⟨b,o+i,none⟩:=by
        intro o i
        by_cases h:i=0 <;> simp[Addr.add,h]
       have hbk:b<W.heap.size:=by
        have hcc:=(World.cells?_some hrow0).2.2 0 hpos
        have hll:=(World.cells?_some hrow0).2.1
        rw[List.getElem?_eq_getElem (by omega)]at hcc
        rcases Nat.lt_or_ge b W.heap.size with h|h
        ·exact h
        ·simp[World.cell?,hadd,Array.getElem?_eq_none h]at hcc
       have hcell:∀(i:Nat) (q:List C×List Value),qs[i]? = some q→q.2.length=P.cellsOf e∧∀j,j<P.cellsOf e→W.cell? ⟨b,off+i * P.cellsOf e+j,none⟩=q.2[j]?:=by
        intro i q hq
        obtain⟨_,c1,c2⟩:=World.cells?_some (hqs i q hq).2.2.1
        refine⟨c1,fun j hj=>?_⟩
        have:=c2 j hj
        rw[hadd,hadd]at this
        exact this
       have:=RepC.sl (w:=W) (g:=g) false (P.cellsOf e) (qs.map Prod.fst) b off cap (fun i j=>((qs[i]?.map Prod.snd).getD []).getD j undef) (by simpa[hql]using hlim) (by simp) (by simpa[hql]using hl) (hg b hbk)
        (fun i row hi=>by
         rw[List.getElem?_map,Option.map_eq_some_iff]at hi
         obtain⟨q,hq,rfl⟩:=hi
         exact (hqs i q hq).2.1)
        (fun i row j c hi hj=>by
         rw[List.getElem?_map,Option.map_eq_some_iff]at hi
         obtain⟨q,hq,rfl⟩:=hi
         have hjl:j<P.cellsOf e:=by rw[←(hqs i q hq).2.1];exact (List.getElem?_eq_some_iff.1 hj).1
         obtain⟨c1,c2⟩:=hcell i q hq
         rw[c2 j hjl,hq]
         simp[List.getD_eq_getElem?_getD,List.getElem?_eq_getElem (show j<q.2.length by omega)])
        (fun i row j c hi hj=>by
         rw[List.getElem?_map,Option.map_eq_some_iff]at hi
         obtain⟨q,hq,rfl⟩:=hi
         have hjl:j<P.cellsOf e:=by rw[←(hqs i q hq).2.1];exact (List.getElem?_eq_some_iff.1 hj).1
         obtain⟨c1,_⟩:=hcell i q hq
         refine (hqs i q hq).2.2.2 j c _ hj ?_
         rw[hq]
         simp[List.getD_eq_getElem?_getD,List.getElem?_eq_getElem (show j<q.2.length by omega)])
       rw[List.length_map,hql]at this
       exact this
    ·refine⟨_,.slb len hu (by omega) hcap,rfl,fun j c v h1 h2=>?_⟩
     match j with
     |0=>cases h1;cases h2;exact .slb _ _ _ hcap
     |j+1=>simp at h1
  ·rename_i fs hu
   simp only[Bool.and_eq_true,List.all_eq_true,List.contains_iff_mem,beq_iff_eq]at hok
   obtain⟨hfs,hlay⟩:=hok
   obtain⟨xs,n,hn,rfl,hcl,hxl,hx⟩:=DataW.trod_struct hu h
   obtain rfl:n=fuel:=by omega
   have hf:∀i,i<fs.size→∃c:List C,∀f,fs[i]? = some f→TyC P f.type c∧c.length=((cs.drop f.offset).take (P.cellsOf f.type)).length∧
     ∀(j:Nat) (x:C) (v:Value),c[j]? = some x→((cs.drop f.offset).take (P.cellsOf f.type))[j]? = some v→RepC W g x v:=by
    intro i hi
    have h1:=hx i fs[i] (Array.getElem?_eq_getElem hi)
    rw[List.getElem?_eq_getElem (by omega)]at h1
    obtain⟨c,k1,k2,k3⟩:=ih _ (hfs fs[i] (by simp)) _ _ h1
    refine⟨c,fun f hfi=>?_⟩
    rw[Array.getElem?_eq_getElem hi]at hfi
    obtain rfl:=Option.some.inj hfi
    exact⟨k1,k2,k3⟩
   obtain⟨css,hcsl,hcss⟩:=Qaej hf
   have toA:∀(k:Nat) (f:Field),fs.toList[k]? = some f→fs[k]? = some f:=fun k f h=>by simpa using h
   have hbound:∀(k:Nat) (f:Field),fs.toList[k]? = some f→f.offset+P.cellsOf f.type≤cs.length:=by
    have gen:∀(l:List Field) (n m:Nat),layB P n l=some m→n≤m∧∀(k:Nat) (f:Field),l[k]? = some f→f.offset+P.cellsOf f.type≤m:=by
     intro l
     induction l with
     |nil=>intro n m h;simp[layB]at h;exact⟨by omega,fun k f h=>by simp at h⟩
     |cons a l ihl=>
      intro n m h
      simp only[layB]at h
      split at h
      ·rename_i ho
       obtain⟨q1,q2⟩:=ihl _ _ h
       refine⟨by omega,fun k f hk=>?_⟩
       cases k with
       |zero=>simp at hk;subst hk;omega
       |succ k=>exact q2 k f (by simpa using hk)
      ·simp at h
    intro k f hk
    have:=(gen _ _ _ hlay).2 k f hk
    omega
   have hlens:∀(k:Nat) (f:Field) (c:List C),fs.toList[k]? = some f→css[k]? = some c→c.length=P.cellsOf f.type:=fun k f c a b=>by
    have h1:=(hcss k c b f (toA k f a)).2.1
    have h2:=hbound k f a
    rw[h1,List.length_take,List.length_drop];omega
   obtain⟨l1,l2⟩:=Qatf fs.toList 0 _ cs css hlay hcl (by simpa using hcsl) hlens
   refine⟨css.flatten,.st css hu hcsl fun k f c a b=>(hcss k c b f a).1,by omega,fun j x v h1 h2=>?_⟩
   exact l2 (fun k f c a b=>(hcss k c b f (toA k f a)).2.2) j x v h1 (by rw[Nat.zero_add];exact h2)
  ·simp at hok
def Q8g (P:Program)(t:TypeId)(ts:List TypeId):Bool:=match P.underlying t with
 |some (.struct fs)=>fs.toList.map (·.type) == ts
 |_=>false
def Qaoq (P:Program)(t e:TypeId)(n:Nat):Bool:=match P.underlying t with
 |some (.slice e')=>e' == e&&P.cellsOf e == n
 |_=>false
def strT (P:Program)(t:TypeId):Bool:=match P.underlying t with
 |some .string=>true
 |_=>false
def intT (P:Program)(t:TypeId):Bool:=match P.underlying t with
 |some (.int .i64)=>true
 |_=>false
variable {P:Program}{t e:TypeId}{cs:List C}
theorem TyC.of_int (h:TyC P t cs)(ht:intT P t=true):∃n,cs=[.int .i64 n]∧-(2 ^ 63)≤n∧n<2 ^ 63:=by
 unfold intT at ht
 split at ht
 ·rename_i hu
  cases h with
  |int n h a b=>exact⟨n,rfl,a,b⟩
  |_=>rename_i h _ _ <;> simp_all
 ·cases ht
theorem TyC.noOw (h:TyC P t cs):Go.AE.noOw cs=true:=by
 induction h with
 |st css h hl hc ih=>
  rename_i t fs
  unfold Go.AE.noOw
  rw[List.all_eq_true]
  intro c hcm
  obtain⟨cs,h1,h2⟩:=List.mem_flatten.1 hcm
  obtain⟨k,hk⟩:=List.getElem?_of_mem h1
  have hlt:k<css.length:=(List.getElem?_eq_some_iff.1 hk).1
  have:=ih k fs[k] cs (Array.getElem?_eq_getElem (by omega)) hk
  exact List.all_eq_true.1 this c h2
 |_=>rfl
def nmC (c:C):Prop:=(∃s,c=.str s)∨∃n,LIM<n∧n<2 ^ 63∧c=.stb n
theorem TyC.of_str (h:TyC P t cs)(ht:strT P t=true):∃c,cs=[c]∧nmC c:=by
 unfold strT at ht
 split at ht
 ·rename_i hu
  cases h with
  |str s h a=>exact⟨_,rfl,.inl ⟨s,rfl⟩⟩
  |stb n h a b=>exact⟨_,rfl,.inr ⟨n,a,b,rfl⟩⟩
  |_=>simp_all
 ·cases ht
theorem TyC.of_sl {n:Nat}(h:TyC P t cs)(ht:Qaoq P t e n=true):(∃rows,cs=[.sl false n rows]∧rows.length≤LIM∧(∀r∈rows,TyC P e r)∧∀r∈rows,r.length=n)∨∃m,LIM<m∧m<2 ^ 63∧cs=[.slb m]:=by
 unfold Qaoq at ht
 split at ht
 ·rename_i e' hu
  simp only[Bool.and_eq_true,beq_iff_eq]at ht
  obtain⟨rfl,rfl⟩:=ht
  cases h with
  |sl rows h a b c=>
   rw[hu]at h
   simp only[Option.some.injEq,TypeDesc.slice.injEq]at h
   subst h
   exact .inl ⟨rows,rfl,a,b,c⟩
  |slb m h a b=>exact .inr ⟨m,a,b,rfl⟩
  |_=>simp_all
 ·cases ht
theorem TyC.of_struct {ts:List TypeId}(h:TyC P t cs)(ht:Q8g P t ts=true):∃css:List (List C),cs=css.flatten∧css.length=ts.length∧∀(k:Nat) (ty:TypeId) (c:List C),ts[k]? = some ty→css[k]? = some c→TyC P ty c:=by
 unfold Q8g at ht
 split at ht
 ·rename_i fs' hu
  rw[beq_iff_eq]at ht
  subst ht
  cases h with
  |st css h hl hc=>
   rw[hu]at h
   simp only[Option.some.injEq,TypeDesc.struct.injEq]at h
   subst h
   refine⟨css,rfl,by simpa using hl,fun k ty c h1 h2=>?_⟩
   rw[List.getElem?_map,Option.map_eq_some_iff]at h1
   obtain⟨f,h3,rfl⟩:=h1
   exact hc k f c (by simpa using h3) h2
  |_=>simp_all
 ·cases ht
end Go.AE.Y

namespace Go.AE.Y
open Go.Proofs.Tryz
abbrev Qaxb:Nat:=3
abbrev Qaou:Nat:=9
abbrev Qa37:Nat:=40
abbrev Qasu:Nat:=42
abbrev Qaot:Nat:=54
abbrev Qbch:Nat:=56
abbrev Qasv:Nat:=57
abbrev Qajn:Nat:=144
abbrev Qbgc:Nat:=146
abbrev Qbci:Nat:=269
theorem Qbiz:intT prog Qaxb=true:=by kernel_rfl
theorem Qbgd:strT prog Qaou=true:=by kernel_rfl
theorem Qbky:Qaoq prog Qasv Qaou 1=true:=by kernel_rfl
theorem Qbma:Qaoq prog Qaot Qbch 4=true:=by kernel_rfl
theorem Qbmc:Qaoq prog Qajn Qbci 5=true:=by kernel_rfl
theorem Qbmb:Qaoq prog Qa37 Qbgc 3=true:=by kernel_rfl
theorem u_Ex:Q8g prog Qbch [Qaxb,Qaxb,Qaou,Qaot]=true:=by kernel_rfl
theorem u_St:Q8g prog Qbci [Qaxb,Qaou,Qaot,Qajn,Qajn]=true:=by kernel_rfl
theorem u_Fn:Q8g prog Qbgc [Qaou,Qasv,Qajn]=true:=by kernel_rfl
theorem Qbkx:Q8g prog Qasu [Qa37]=true:=by kernel_rfl
theorem tys_ok:okT prog [Qaxb,Qaou,Qa37,Qasu,Qaot,Qbch,Qasv,Qajn,Qbgc,Qbci]=true:=by kernel_rfl
end Go.AE.Y

namespace Go.AE.Y
attribute [local go_sem] cond_true cond_false Bool.not_true Bool.not_false
open Go.Proofs.Tryz
variable {H H0 F:Heap}{K:V→Heap→Prop}{fns:List Fn}
def SzE (f:Nat)(v:V)(ok:Nat→Prop):Prop:=∀(left:Int) (H:Heap) (K:V→Heap→Prop),0≤left→left≤2 ^ 20→
 (∀r:Int,-1≤r→r≤left→(0≤r→∃n:Nat,ok n∧(n:Int)+r≤left)→K (.c (.int .i64 r)) H)→Ql prog f [v,.c (.int .i64 left)] H K
theorem Q28 (n:Nat):Qbh4 (.slb n):=trivial
theorem Qa8n (a b:List Fn):Qi3 (a++b)=Qi3 a+Qi3 b:=by
 induction a with
 |nil=>simp[Qi3]
 |cons x r ih=>simp only[List.cons_append,Qi3,ih];omega
theorem nmC.ow {c:C}(h:nmC c):c.isOw=false:=by
 rcases h with ⟨s,rfl⟩|⟨n,_,_,rfl⟩ <;> rfl
def okXs (c:C)(n:Nat):Prop:=∃l,c=.sl false 4 (Qm l)∧Qai l≤n
def okSs (c:C)(n:Nat):Prop:=∃l,c=.sl false 5 (Qk l)∧Qj l≤n
def okTs (c:C)(n:Nat):Prop:=∃l,c=.sl false 1 (Q1 l)∧l.length≤n
def okFs (c:C)(n:Nat):Prop:=∃l,c=.sl false 3 (Qn l)∧Qi3 l≤n
theorem SzE.imp {f:Nat}{v:V}{p q:Nat→Prop}(h:SzE f v p)(hi:∀n,p n→q n):SzE f v q:=fun left H K h0 hl hK=>h left H K h0 hl fun r a b c=>hK r a b fun h1=>by
 obtain⟨n,h2,h3⟩:=c h1
 exact⟨n,hi n h2,h3⟩
theorem Qa2u {n:Nat}(hn:LIM<n)(hn2:n<2 ^ 63)(ok:Nat→Prop):SzE Qbj (.c (.slb n)) ok:=by
 intro left H K h0 hl hK
 simp only[LIM]at hn
 refine Qc Qah Q8q ?_
 refine Qa ?_
 simp only[go_sem]
 refine Qa ?_
 simp only[go_sem,lenX]
 refine⟨.inr (Q28 n),fun _=>⟨Qr (by omega) (by omega),?_⟩⟩
 refine Qu ?_
 refine Qa ?_
 simp only[go_sem]
 refine Qe (Qb rfl (fun hn=>?_) (fun hn=>by have:=of_decide_eq_false hn;omega))
 refine Qa ?_
 simp only[go_sem]
 refine Qg ?_
 simp only[go_sem,Qq,Qz,Qat4,List.mem_singleton,forall_eq,RS.op]
 exact hK _ (by omega) (by omega) fun h=>by omega
theorem Qbb7 {rows:List (List C)}(hrl:rows.length≤LIM)(hr4:∀r∈rows,r.length=4)(hro:∀r∈rows,noOw r=true)(hf:∀r∈rows,SzE Qfr (.ag r) fun n=>∃x:Ex,r=x.cells∧x.size≤n+1) :
  SzE Qbj (.c (.sl false 4 rows)) fun n=>∃l:List Ex,rows=Qm l∧Qai l≤n:=by
 intro left H K h0 hl hK
 simp only[LIM]at hrl
 refine Qc Qah Q8q ?_
 refine Qa ?_
 simp only[go_sem]
 refine Qa ?_
 simp only[go_sem,lenX]
 refine⟨.inl trivial,fun _=>⟨Qr (by omega) (by omega),?_⟩⟩
 refine Qu ?_
 refine Qa ?_
 simp only[go_sem]
 refine Qe (Qb rfl (fun hn=>?_) (fun hn=>?_))
 ·refine Qa ?_
  simp only[go_sem]
  refine Qg ?_
  simp only[go_sem,Qq,Qz,Qat4,List.mem_singleton,forall_eq,RS.op]
  exact hK _ (by omega) (by omega) fun h=>by omega
 have h2:0≤left-rows.length:=by have:=of_decide_eq_false hn;omega
 refine Qd ?_
 try simp only[go_sem]
 refine Qu ?_
 refine Qa ?_
 simp only[go_sem]
 refine Qe (Qf (Qy (fun m e1 H1=>∃(i:Nat) (l0:List Ex) (lf:Int),m=rows.length-i∧i≤rows.length∧H1=H∧rows.take i=Qm l0∧0≤lf∧lf≤left∧(Qai l0:Int)+lf≤left-rows.length+i∧
  e1=[(0,.c (.sl false 4 rows)),(1,.c (.int .i64 lf)),(5,.c (.int .i64 i))]) rows.length ?_ ?_))
 ·exact⟨0,[],left-rows.length,by omega,by omega,rfl,rfl,h2,by omega,by simp only[Qai];omega,rfl⟩
 ·rintro m e1 H1 ⟨i,l0,lf,hm,hi,rfl,htk,h3,h4,h5,rfl⟩
  refine Qu ?_
  refine Qa ?_
  simp only[go_sem,lenX]
  refine⟨.inl trivial,fun _=>?_⟩
  refine Qe (Qb rfl (fun hc=>?_) (fun hc=>?_))
  ·have hlt:i<rows.length:=by have:=of_decide_eq_true hc;omega
   obtain⟨r,hrr2⟩:∃r,rows[i]=r:=⟨_,rfl⟩
   have hrm:r∈rows:=by rw[←hrr2];exact List.getElem_mem hlt
   have hrow:rows.getD i []=r:=by rw[List.getD_eq_getElem?_getD,List.getElem?_eq_getElem hlt,hrr2];rfl
   have hr:=hr4 r hrm
   have htk4:List.take 4 r=r:=List.take_of_length_le (by omega)
   have hao:(r.all fun c=>!c.isOw)=true:=hro r hrm
   refine Qd ?_
   try simp only[go_sem]
   refine Qe (Qf ?_)
   refine Qa ?_
   simp only[go_sem,hlt,hrow,htk4,hao,hr]
   refine hf r hrm lf H1 _ h3 (by omega) fun rr b1 b2 hrr=>?_
   simp only[go_sem,Qv1]
   refine Qa ?_
   simp only[go_sem]
   refine Qb rfl (fun hn=>?_) (fun hn=>?_)
   ·refine Qa ?_
    simp only[go_sem]
    refine Qg ?_
    simp only[go_sem,AE.X.next,Qq,Qz,Qat4,List.mem_singleton,forall_eq,RS.op]
    exact hK _ (by omega) (by omega) fun h=>by omega
   have h6:0≤rr:=by have:=of_decide_eq_false hn;omega
   obtain⟨n,⟨x,hx,hxs⟩,hle⟩:=hrr h6
   refine Qd ?_
   try simp only[go_sem,AE.X.next]
   refine Qp ?_
   simp only[go_sem,AE.X.next]
   refine⟨Qr (by omega) (by omega),rows.length-(i+1),by omega,i+1,l0++[x],rr,rfl,by omega,?_,h6,by omega,?_,rfl⟩
   ·rw[List.take_succ_eq_append_getElem hlt,htk,hrr2,hx,Qei]
   ·simp only[Qz2,Qai];omega
  ·have hge:rows.length≤i:=by have:=of_decide_eq_false hc;omega
   rw[List.take_of_length_le hge]at htk
   refine Qt ?_
   simp only[go_sem,AE.X.next]
   refine Qa ?_
   simp only[go_sem]
   refine Qg ?_
   simp only[go_sem,Qq,Qz,Qat4,List.mem_singleton,forall_eq,RS.op]
   exact hK lf (by omega) h4 fun _=>⟨Qai l0,⟨l0,htk,Nat.le_refl _⟩,by omega⟩
theorem Qbf1 {a b:Int}{cn ck:C}(hnm:nmC cn)(hk:SzE Qbj (.c ck) (okXs ck))(hko:ck.isOw=false):SzE Qfr (.ag [.int .i64 a,.int .i64 b,cn,ck]) fun n=>∃x:Ex,[C.int .i64 a,.int .i64 b,cn,ck]=x.cells∧x.size≤n+1:=by
 intro left H K h0 hl hK
 have hno:=hnm.ow
 have hko2:=hko
 refine Qc Qah Qayg ?_
 refine Qa ?_
 simp only[go_sem,hno,hko2]
 rcases hnm with ⟨s,rfl⟩|⟨n,hn1,hn2,rfl⟩
 rotate_left
 ·simp only[LIM]at hn1
  refine Qa ?_
  simp only[go_sem,hno,hko2]
  refine fun _=>⟨Qr (by omega) (by omega),?_⟩
  refine Qu ?_
  refine Qa ?_
  simp only[go_sem,hno,hko2]
  refine Qe (Qb rfl (fun hn=>?_) (fun hn=>by have:=of_decide_eq_false hn;omega))
  refine Qa ?_
  simp only[go_sem]
  refine Qg ?_
  simp only[go_sem,Qq,Qz,Qat4,List.mem_singleton,forall_eq,RS.op]
  exact hK _ (by omega) (by omega) fun h=>by omega
 refine Qa ?_
 simp only[go_sem,hno,hko2]
 refine fun hsl=>?_
 simp only[LIM]at hsl
 refine⟨Qr (by omega) (by omega),?_⟩
 refine Qu ?_
 refine Qa ?_
 simp only[go_sem,hno,hko2]
 refine Qe (Qb rfl (fun hn=>?_) (fun hn=>?_))
 ·refine Qa ?_
  simp only[go_sem]
  refine Qg ?_
  simp only[go_sem,Qq,Qz,Qat4,List.mem_singleton,forall_eq,RS.op]
  exact hK _ (by omega) (by omega) fun h=>by omega
 have k0:0≤left-s.length:=by have:=of_decide_eq_false hn;omega
 refine Qd ?_
 try simp only[go_sem]
 refine Qa ?_
 simp only[go_sem,hno,hko2]
 refine hk (left-s.length) H _ k0 (by omega) fun r1 a0 b0 d0=>?_
 simp only[go_sem,Qzo,hno,hko2]
 refine Qu ?_
 refine Qa ?_
 simp only[go_sem,hno,hko2]
 refine Qe (Qb rfl (fun hn=>?_) (fun hn=>?_))
 ·refine Qa ?_
  simp only[go_sem]
  refine Qg ?_
  simp only[go_sem,Qq,Qz,Qat4,List.mem_singleton,forall_eq,RS.op]
  exact hK _ (by omega) (by omega) fun h=>by omega
 have k1:0≤r1:=by have:=of_decide_eq_false hn;omega
 obtain⟨n0,⟨x0,e0,f0⟩,g0⟩:=d0 k1
 refine Qd ?_
 try simp only[go_sem]
 refine Qa ?_
 simp only[go_sem]
 refine Qg ?_
 simp only[go_sem,Qq,Qz,Qat4,List.mem_singleton,forall_eq,RS.op]
 exact hK r1 (by omega) (by omega) fun _=>⟨n0,⟨.mk a b s x0,by rw[e0,Ex.cells],by simp only[Ex.size];omega⟩,by omega⟩
theorem Qa2w {n:Nat}(hn:LIM<n)(hn2:n<2 ^ 63)(ok:Nat→Prop):SzE Qaz (.c (.slb n)) ok:=by
 intro left H K h0 hl hK
 simp only[LIM]at hn
 refine Qc Qah Q8r ?_
 refine Qa ?_
 simp only[go_sem]
 refine Qa ?_
 simp only[go_sem,lenX]
 refine⟨.inr (Q28 n),fun _=>⟨Qr (by omega) (by omega),?_⟩⟩
 refine Qu ?_
 refine Qa ?_
 simp only[go_sem]
 refine Qe (Qb rfl (fun hn=>?_) (fun hn=>by have:=of_decide_eq_false hn;omega))
 refine Qa ?_
 simp only[go_sem]
 refine Qg ?_
 simp only[go_sem,Qq,Qz,Qat4,List.mem_singleton,forall_eq,RS.op]
 exact hK _ (by omega) (by omega) fun h=>by omega
theorem Qbcb {rows:List (List C)}(hrl:rows.length≤LIM)(hr4:∀r∈rows,r.length=5)(hro:∀r∈rows,noOw r=true)(hf:∀r∈rows,SzE Qfs (.ag r) fun n=>∃x:St,r=x.cells∧x.size≤n+1) :
  SzE Qaz (.c (.sl false 5 rows)) fun n=>∃l:List St,rows=Qk l∧Qj l≤n:=by
 intro left H K h0 hl hK
 simp only[LIM]at hrl
 refine Qc Qah Q8r ?_
 refine Qa ?_
 simp only[go_sem]
 refine Qa ?_
 simp only[go_sem,lenX]
 refine⟨.inl trivial,fun _=>⟨Qr (by omega) (by omega),?_⟩⟩
 refine Qu ?_
 refine Qa ?_
 simp only[go_sem]
 refine Qe (Qb rfl (fun hn=>?_) (fun hn=>?_))
 ·refine Qa ?_
  simp only[go_sem]
  refine Qg ?_
  simp only[go_sem,Qq,Qz,Qat4,List.mem_singleton,forall_eq,RS.op]
  exact hK _ (by omega) (by omega) fun h=>by omega
 have h2:0≤left-rows.length:=by have:=of_decide_eq_false hn;omega
 refine Qd ?_
 try simp only[go_sem]
 refine Qu ?_
 refine Qa ?_
 simp only[go_sem]
 refine Qe (Qf (Qy (fun m e1 H1=>∃(i:Nat) (l0:List St) (lf:Int),m=rows.length-i∧i≤rows.length∧H1=H∧rows.take i=Qk l0∧0≤lf∧lf≤left∧(Qj l0:Int)+lf≤left-rows.length+i∧
  e1=[(0,.c (.sl false 5 rows)),(1,.c (.int .i64 lf)),(5,.c (.int .i64 i))]) rows.length ?_ ?_))
 ·exact⟨0,[],left-rows.length,by omega,by omega,rfl,rfl,h2,by omega,by simp only[Qj];omega,rfl⟩
 ·rintro m e1 H1 ⟨i,l0,lf,hm,hi,rfl,htk,h3,h4,h5,rfl⟩
  refine Qu ?_
  refine Qa ?_
  simp only[go_sem,lenX]
  refine⟨.inl trivial,fun _=>?_⟩
  refine Qe (Qb rfl (fun hc=>?_) (fun hc=>?_))
  ·have hlt:i<rows.length:=by have:=of_decide_eq_true hc;omega
   obtain⟨r,hrr2⟩:∃r,rows[i]=r:=⟨_,rfl⟩
   have hrm:r∈rows:=by rw[←hrr2];exact List.getElem_mem hlt
   have hrow:rows.getD i []=r:=by rw[List.getD_eq_getElem?_getD,List.getElem?_eq_getElem hlt,hrr2];rfl
   have hr:=hr4 r hrm
   have htk4:List.take 5 r=r:=List.take_of_length_le (by omega)
   have hao:(r.all fun c=>!c.isOw)=true:=hro r hrm
   refine Qd ?_
   try simp only[go_sem]
   refine Qe (Qf ?_)
   refine Qa ?_
   simp only[go_sem,hlt,hrow,htk4,hao,hr]
   refine hf r hrm lf H1 _ h3 (by omega) fun rr b1 b2 hrr=>?_
   simp only[go_sem,Qv2]
   refine Qa ?_
   simp only[go_sem]
   refine Qb rfl (fun hn=>?_) (fun hn=>?_)
   ·refine Qa ?_
    simp only[go_sem]
    refine Qg ?_
    simp only[go_sem,AE.X.next,Qq,Qz,Qat4,List.mem_singleton,forall_eq,RS.op]
    exact hK _ (by omega) (by omega) fun h=>by omega
   have h6:0≤rr:=by have:=of_decide_eq_false hn;omega
   obtain⟨n,⟨x,hx,hxs⟩,hle⟩:=hrr h6
   refine Qd ?_
   try simp only[go_sem,AE.X.next]
   refine Qp ?_
   simp only[go_sem,AE.X.next]
   refine⟨Qr (by omega) (by omega),rows.length-(i+1),by omega,i+1,l0++[x],rr,rfl,by omega,?_,h6,by omega,?_,rfl⟩
   ·rw[List.take_succ_eq_append_getElem hlt,htk,hrr2,hx,Qdr]
   ·simp only[Q2u,Qj];omega
  ·have hge:rows.length≤i:=by have:=of_decide_eq_false hc;omega
   rw[List.take_of_length_le hge]at htk
   refine Qt ?_
   simp only[go_sem,AE.X.next]
   refine Qa ?_
   simp only[go_sem]
   refine Qg ?_
   simp only[go_sem,Qq,Qz,Qat4,List.mem_singleton,forall_eq,RS.op]
   exact hK lf (by omega) h4 fun _=>⟨Qj l0,⟨l0,htk,Nat.le_refl _⟩,by omega⟩
theorem Qbf5 {a:Int}{cn ca cb cd:C}(hnm:nmC cn)(hka:SzE Qbj (.c ca) (okXs ca))(hoa:ca.isOw=false)(hkb:SzE Qaz (.c cb) (okSs cb))(hob:cb.isOw=false)(hkd:SzE Qaz (.c cd) (okSs cd))(hod:cd.isOw=false):SzE Qfs (.ag [.int .i64 a,cn,ca,cb,cd]) fun n=>∃x:St,[C.int .i64 a,cn,ca,cb,cd]=x.cells∧x.size≤n+1:=by
 intro left H K h0 hl hK
 have hno:=hnm.ow
 have hoa2:=hoa
 have hob2:=hob
 have hod2:=hod
 refine Qc Qah Qayh ?_
 refine Qa ?_
 simp only[go_sem,hno,hoa2,hob2,hod2]
 rcases hnm with ⟨s,rfl⟩|⟨n,hn1,hn2,rfl⟩
 rotate_left
 ·simp only[LIM]at hn1
  refine Qa ?_
  simp only[go_sem,hno,hoa2,hob2,hod2]
  refine fun _=>⟨Qr (by omega) (by omega),?_⟩
  refine Qu ?_
  refine Qa ?_
  simp only[go_sem,hno,hoa2,hob2,hod2]
  refine Qe (Qb rfl (fun hn=>?_) (fun hn=>by have:=of_decide_eq_false hn;omega))
  refine Qa ?_
  simp only[go_sem]
  refine Qg ?_
  simp only[go_sem,Qq,Qz,Qat4,List.mem_singleton,forall_eq,RS.op]
  exact hK _ (by omega) (by omega) fun h=>by omega
 refine Qa ?_
 simp only[go_sem,hno,hoa2,hob2,hod2]
 refine fun hsl=>?_
 simp only[LIM]at hsl
 refine⟨Qr (by omega) (by omega),?_⟩
 refine Qu ?_
 refine Qa ?_
 simp only[go_sem,hno,hoa2,hob2,hod2]
 refine Qe (Qb rfl (fun hn=>?_) (fun hn=>?_))
 ·refine Qa ?_
  simp only[go_sem]
  refine Qg ?_
  simp only[go_sem,Qq,Qz,Qat4,List.mem_singleton,forall_eq,RS.op]
  exact hK _ (by omega) (by omega) fun h=>by omega
 have k0:0≤left-s.length:=by have:=of_decide_eq_false hn;omega
 refine Qd ?_
 try simp only[go_sem]
 refine Qa ?_
 simp only[go_sem,hno,hoa2,hob2,hod2]
 refine hka (left-s.length) H _ k0 (by omega) fun r1 a0 b0 d0=>?_
 simp only[go_sem,Qzp,hno,hoa2,hob2,hod2]
 refine Qu ?_
 refine Qa ?_
 simp only[go_sem,hno,hoa2,hob2,hod2]
 refine Qe (Qb rfl (fun hn=>?_) (fun hn=>?_))
 ·refine Qa ?_
  simp only[go_sem]
  refine Qg ?_
  simp only[go_sem,Qq,Qz,Qat4,List.mem_singleton,forall_eq,RS.op]
  exact hK _ (by omega) (by omega) fun h=>by omega
 have k1:0≤r1:=by have:=of_decide_eq_false hn;omega
 obtain⟨n0,⟨x0,e0,f0⟩,g0⟩:=d0 k1
 refine Qd ?_
 try simp only[go_sem]
 refine Qa ?_
 simp only[go_sem,hno,hoa2,hob2,hod2]
 refine hkb r1 H _ k1 (by omega) fun r2 a1 b1 d1=>?_
 simp only[go_sem,Qzq,hno,hoa2,hob2,hod2]
 refine Qu ?_
 refine Qa ?_
 simp only[go_sem,hno,hoa2,hob2,hod2]
 refine Qe (Qb rfl (fun hn=>?_) (fun hn=>?_))
 ·refine Qa ?_
  simp only[go_sem]
  refine Qg ?_
  simp only[go_sem,Qq,Qz,Qat4,List.mem_singleton,forall_eq,RS.op]
  exact hK _ (by omega) (by omega) fun h=>by omega
 have k2:0≤r2:=by have:=of_decide_eq_false hn;omega
 obtain⟨n1,⟨x1,e1,f1⟩,g1⟩:=d1 k2
 refine Qd ?_
 try simp only[go_sem]
 refine Qa ?_
 simp only[go_sem,hno,hoa2,hob2,hod2]
 refine hkd r2 H _ k2 (by omega) fun r3 a2 b2 d2=>?_
 simp only[go_sem,Qzr,hno,hoa2,hob2,hod2]
 refine Qu ?_
 refine Qa ?_
 simp only[go_sem,hno,hoa2,hob2,hod2]
 refine Qe (Qb rfl (fun hn=>?_) (fun hn=>?_))
 ·refine Qa ?_
  simp only[go_sem]
  refine Qg ?_
  simp only[go_sem,Qq,Qz,Qat4,List.mem_singleton,forall_eq,RS.op]
  exact hK _ (by omega) (by omega) fun h=>by omega
 have k3:0≤r3:=by have:=of_decide_eq_false hn;omega
 obtain⟨n2,⟨x2,e2,f2⟩,g2⟩:=d2 k3
 refine Qd ?_
 try simp only[go_sem]
 refine Qa ?_
 simp only[go_sem]
 refine Qg ?_
 simp only[go_sem,Qq,Qz,Qat4,List.mem_singleton,forall_eq,RS.op]
 exact hK r3 (by omega) (by omega) fun _=>⟨n0+n1+n2,⟨.mk a s x0 x1 x2,by rw[e0,e1,e2,St.cells],by simp only[St.size];omega⟩,by omega⟩
theorem Qasq {n:Nat}(hn:LIM<n)(hn2:n<2 ^ 63)(ok:Nat→Prop):SzE Qch (.c (.slb n)) ok:=by
 intro left H K h0 hl hK
 simp only[LIM]at hn
 refine Qc Qah Qy3 ?_
 refine Qa ?_
 simp only[go_sem]
 refine Qa ?_
 simp only[go_sem,lenX]
 refine⟨.inr (Q28 n),fun _=>⟨Qr (by omega) (by omega),?_⟩⟩
 refine Qu ?_
 refine Qa ?_
 simp only[go_sem]
 refine Qe (Qb rfl (fun hn=>?_) (fun hn=>by have:=of_decide_eq_false hn;omega))
 refine Qa ?_
 simp only[go_sem]
 refine Qg ?_
 simp only[go_sem,Qq,Qz,Qat4,List.mem_singleton,forall_eq,RS.op]
 exact hK _ (by omega) (by omega) fun h=>by omega
theorem Qa2x {rows:List (List C)}(hrl:rows.length≤LIM)(hr4:∀r∈rows,r.length=1)(hro:∀r∈rows,noOw r=true)(hf:∀r∈rows,∃c,r=[c]∧nmC c) :
  SzE Qch (.c (.sl false 1 rows)) fun n=>∃l:List (List UInt8),rows=Q1 l∧List.length l≤n:=by
 intro left H K h0 hl hK
 simp only[LIM]at hrl
 refine Qc Qah Qy3 ?_
 refine Qa ?_
 simp only[go_sem]
 refine Qa ?_
 simp only[go_sem,lenX]
 refine⟨.inl trivial,fun _=>⟨Qr (by omega) (by omega),?_⟩⟩
 refine Qu ?_
 refine Qa ?_
 simp only[go_sem]
 refine Qe (Qb rfl (fun hn=>?_) (fun hn=>?_))
 ·refine Qa ?_
  simp only[go_sem]
  refine Qg ?_
  simp only[go_sem,Qq,Qz,Qat4,List.mem_singleton,forall_eq,RS.op]
  exact hK _ (by omega) (by omega) fun h=>by omega
 have h2:0≤left-rows.length:=by have:=of_decide_eq_false hn;omega
 refine Qd ?_
 try simp only[go_sem]
 refine Qu ?_
 refine Qa ?_
 simp only[go_sem]
 refine Qe (Qf (Qy (fun m e1 H1=>∃(i:Nat) (l0:List (List UInt8)) (lf:Int),m=rows.length-i∧i≤rows.length∧H1=H∧rows.take i=Q1 l0∧0≤lf∧lf≤left∧(List.length l0:Int)+lf≤left-rows.length+i∧
  e1=[(0,.c (.sl false 1 rows)),(1,.c (.int .i64 lf)),(5,.c (.int .i64 i))]) rows.length ?_ ?_))
 ·exact⟨0,[],left-rows.length,by omega,by omega,rfl,rfl,h2,by omega,by simp only[List.length_nil];omega,rfl⟩
 ·rintro m e1 H1 ⟨i,l0,lf,hm,hi,rfl,htk,h3,h4,h5,rfl⟩
  refine Qu ?_
  refine Qa ?_
  simp only[go_sem,lenX]
  refine⟨.inl trivial,fun _=>?_⟩
  refine Qe (Qb rfl (fun hc=>?_) (fun hc=>?_))
  ·have hlt:i<rows.length:=by have:=of_decide_eq_true hc;omega
   obtain⟨r,hrr2⟩:∃r,rows[i]=r:=⟨_,rfl⟩
   have hrm:r∈rows:=by rw[←hrr2];exact List.getElem_mem hlt
   have hrow:rows.getD i []=r:=by rw[List.getD_eq_getElem?_getD,List.getElem?_eq_getElem hlt,hrr2];rfl
   have hr:=hr4 r hrm
   have htk4:List.take 1 r=r:=List.take_of_length_le (by omega)
   have hao:(r.all fun c=>!c.isOw)=true:=hro r hrm
   refine Qd ?_
   try simp only[go_sem]
   refine Qe (Qf ?_)
   obtain⟨c,rfl,hnm⟩:=hf r hrm
   have hno:=hnm.ow
   rcases hnm with ⟨s,rfl⟩|⟨n,hn1,hn2,rfl⟩
   rotate_left
   ·simp only[LIM]at hn1
    refine Qa ?_
    simp only[go_sem,hlt,hrow,htk4,hao,hr,hno]
    refine fun _=>⟨Qr (by omega) (by omega),?_⟩
    refine Qa ?_
    simp only[go_sem]
    refine Qb rfl (fun hn=>?_) (fun hn=>by have:=of_decide_eq_false hn;omega)
    refine Qa ?_
    simp only[go_sem]
    refine Qg ?_
    simp only[go_sem,AE.X.next,Qq,Qz,Qat4,List.mem_singleton,forall_eq,RS.op]
    exact hK _ (by omega) (by omega) fun h=>by omega
   refine Qa ?_
   simp only[go_sem,hlt,hrow,htk4,hao,hr,hno]
   refine fun hsl=>?_
   simp only[LIM]at hsl
   refine⟨Qr (by omega) (by omega),?_⟩
   refine Qa ?_
   simp only[go_sem]
   refine Qb rfl (fun hn=>?_) (fun hn=>?_)
   ·refine Qa ?_
    simp only[go_sem]
    refine Qg ?_
    simp only[go_sem,AE.X.next,Qq,Qz,Qat4,List.mem_singleton,forall_eq,RS.op]
    exact hK _ (by omega) (by omega) fun h=>by omega
   have h6:0≤lf-s.length:=by have:=of_decide_eq_false hn;omega
   refine Qd ?_
   try simp only[go_sem,AE.X.next]
   refine Qp ?_
   simp only[go_sem,AE.X.next]
   refine⟨Qr (by omega) (by omega),rows.length-(i+1),by omega,i+1,l0++[s],lf-s.length,rfl,by omega,?_,h6,by omega,?_,rfl⟩
   ·rw[List.take_succ_eq_append_getElem hlt,htk,hrr2,Q2s]
   ·simp only[List.length_append,List.length_cons,List.length_nil];omega
  ·have hge:rows.length≤i:=by have:=of_decide_eq_false hc;omega
   rw[List.take_of_length_le hge]at htk
   refine Qt ?_
   simp only[go_sem,AE.X.next]
   refine Qa ?_
   simp only[go_sem]
   refine Qg ?_
   simp only[go_sem,Qq,Qz,Qat4,List.mem_singleton,forall_eq,RS.op]
   exact hK lf (by omega) h4 fun _=>⟨List.length l0,⟨l0,htk,Nat.le_refl _⟩,by omega⟩
theorem Qbkt {cn ct cb:C}(hnm:nmC cn)(hka:SzE Qch (.c ct) (okTs ct))(hoa:ct.isOw=false)(hkb:SzE Qaz (.c cb) (okSs cb))(hob:cb.isOw=false):SzE Qoq (.ag [cn,ct,cb]) fun n=>∃x:Fn,[cn,ct,cb]=x.cells∧1+x.params.length+Qj x.body≤n+1:=by
 intro left H K h0 hl hK
 have hno:=hnm.ow
 have hoa2:=hoa
 have hob2:=hob
 refine Qc Qah Qa91 ?_
 refine Qa ?_
 simp only[go_sem,hno,hoa2,hob2]
 rcases hnm with ⟨s,rfl⟩|⟨n,hn1,hn2,rfl⟩
 rotate_left
 ·simp only[LIM]at hn1
  refine Qa ?_
  simp only[go_sem,hno,hoa2,hob2]
  refine fun _=>⟨Qr (by omega) (by omega),?_⟩
  refine Qu ?_
  refine Qa ?_
  simp only[go_sem,hno,hoa2,hob2]
  refine Qe (Qb rfl (fun hn=>?_) (fun hn=>by have:=of_decide_eq_false hn;omega))
  refine Qa ?_
  simp only[go_sem]
  refine Qg ?_
  simp only[go_sem,Qq,Qz,Qat4,List.mem_singleton,forall_eq,RS.op]
  exact hK _ (by omega) (by omega) fun h=>by omega
 refine Qa ?_
 simp only[go_sem,hno,hoa2,hob2]
 refine fun hsl=>?_
 simp only[LIM]at hsl
 refine⟨Qr (by omega) (by omega),?_⟩
 refine Qu ?_
 refine Qa ?_
 simp only[go_sem,hno,hoa2,hob2]
 refine Qe (Qb rfl (fun hn=>?_) (fun hn=>?_))
 ·refine Qa ?_
  simp only[go_sem]
  refine Qg ?_
  simp only[go_sem,Qq,Qz,Qat4,List.mem_singleton,forall_eq,RS.op]
  exact hK _ (by omega) (by omega) fun h=>by omega
 have k0:0≤left-s.length:=by have:=of_decide_eq_false hn;omega
 refine Qd ?_
 try simp only[go_sem]
 refine Qa ?_
 simp only[go_sem,hno,hoa2,hob2]
 refine hka (left-s.length) H _ k0 (by omega) fun r1 a0 b0 d0=>?_
 simp only[go_sem,Q94,hno,hoa2,hob2]
 refine Qu ?_
 refine Qa ?_
 simp only[go_sem,hno,hoa2,hob2]
 refine Qe (Qb rfl (fun hn=>?_) (fun hn=>?_))
 ·refine Qa ?_
  simp only[go_sem]
  refine Qg ?_
  simp only[go_sem,Qq,Qz,Qat4,List.mem_singleton,forall_eq,RS.op]
  exact hK _ (by omega) (by omega) fun h=>by omega
 have k1:0≤r1:=by have:=of_decide_eq_false hn;omega
 obtain⟨n0,⟨x0,e0,f0⟩,g0⟩:=d0 k1
 refine Qd ?_
 try simp only[go_sem]
 refine Qa ?_
 simp only[go_sem,hno,hoa2,hob2]
 refine hkb r1 H _ k1 (by omega) fun r2 a1 b1 d1=>?_
 simp only[go_sem,Q95,hno,hoa2,hob2]
 refine Qu ?_
 refine Qa ?_
 simp only[go_sem,hno,hoa2,hob2]
 refine Qe (Qb rfl (fun hn=>?_) (fun hn=>?_))
 ·refine Qa ?_
  simp only[go_sem]
  refine Qg ?_
  simp only[go_sem,Qq,Qz,Qat4,List.mem_singleton,forall_eq,RS.op]
  exact hK _ (by omega) (by omega) fun h=>by omega
 have k2:0≤r2:=by have:=of_decide_eq_false hn;omega
 obtain⟨n1,⟨x1,e1,f1⟩,g1⟩:=d1 k2
 refine Qd ?_
 try simp only[go_sem]
 refine Qa ?_
 simp only[go_sem]
 refine Qg ?_
 simp only[go_sem,Qq,Qz,Qat4,List.mem_singleton,forall_eq,RS.op]
 exact hK r2 (by omega) (by omega) fun _=>⟨n0+n1,⟨⟨s,x0,x1⟩,by rw[e0,e1,Fn.cells],by simp only;omega⟩,by omega⟩
theorem Qbb9 {n:Nat}(hn:LIM<n)(hn2:n<2 ^ 63)(ok:Nat→Prop):SzE Qib (.c (.slb n)) ok:=by
 intro left H K h0 hl hK
 simp only[LIM]at hn
 refine Qc Qah Qan4 ?_
 refine Qa ?_
 simp only[go_sem]
 refine Qa ?_
 simp only[go_sem,lenX]
 refine⟨.inr (Q28 n),fun _=>⟨Qr (by omega) (by omega),?_⟩⟩
 refine Qu ?_
 refine Qa ?_
 simp only[go_sem]
 refine Qe (Qb rfl (fun hn=>?_) (fun hn=>by have:=of_decide_eq_false hn;omega))
 refine Qa ?_
 simp only[go_sem]
 refine Qg ?_
 simp only[go_sem,Qq,Qz,Qat4,List.mem_singleton,forall_eq,RS.op]
 exact hK _ (by omega) (by omega) fun h=>by omega
theorem Qbiu {rows:List (List C)}(hrl:rows.length≤LIM)(hr4:∀r∈rows,r.length=3)(hro:∀r∈rows,noOw r=true)(hf:∀r∈rows,SzE Qoq (.ag r) fun n=>∃x:Fn,r=x.cells∧1+x.params.length+Qj x.body≤n+1) :
  SzE Qib (.c (.sl false 3 rows)) fun n=>∃l:List Fn,rows=Qn l∧Qi3 l≤n:=by
 intro left H K h0 hl hK
 simp only[LIM]at hrl
 refine Qc Qah Qan4 ?_
 refine Qa ?_
 simp only[go_sem]
 refine Qa ?_
 simp only[go_sem,lenX]
 refine⟨.inl trivial,fun _=>⟨Qr (by omega) (by omega),?_⟩⟩
 refine Qu ?_
 refine Qa ?_
 simp only[go_sem]
 refine Qe (Qb rfl (fun hn=>?_) (fun hn=>?_))
 ·refine Qa ?_
  simp only[go_sem]
  refine Qg ?_
  simp only[go_sem,Qq,Qz,Qat4,List.mem_singleton,forall_eq,RS.op]
  exact hK _ (by omega) (by omega) fun h=>by omega
 have h2:0≤left-rows.length:=by have:=of_decide_eq_false hn;omega
 refine Qd ?_
 try simp only[go_sem]
 refine Qu ?_
 refine Qa ?_
 simp only[go_sem]
 refine Qe (Qf (Qy (fun m e1 H1=>∃(i:Nat) (l0:List Fn) (lf:Int),m=rows.length-i∧i≤rows.length∧H1=H∧rows.take i=Qn l0∧0≤lf∧lf≤left∧(Qi3 l0:Int)+lf≤left-rows.length+i∧
  e1=[(0,.c (.sl false 3 rows)),(1,.c (.int .i64 lf)),(5,.c (.int .i64 i))]) rows.length ?_ ?_))
 ·exact⟨0,[],left-rows.length,by omega,by omega,rfl,rfl,h2,by omega,by simp only[Qi3];omega,rfl⟩
 ·rintro m e1 H1 ⟨i,l0,lf,hm,hi,rfl,htk,h3,h4,h5,rfl⟩
  refine Qu ?_
  refine Qa ?_
  simp only[go_sem,lenX]
  refine⟨.inl trivial,fun _=>?_⟩
  refine Qe (Qb rfl (fun hc=>?_) (fun hc=>?_))
  ·have hlt:i<rows.length:=by have:=of_decide_eq_true hc;omega
   obtain⟨r,hrr2⟩:∃r,rows[i]=r:=⟨_,rfl⟩
   have hrm:r∈rows:=by rw[←hrr2];exact List.getElem_mem hlt
   have hrow:rows.getD i []=r:=by rw[List.getD_eq_getElem?_getD,List.getElem?_eq_getElem hlt,hrr2];rfl
   have hr:=hr4 r hrm
   have htk4:List.take 3 r=r:=List.take_of_length_le (by omega)
   have hao:(r.all fun c=>!c.isOw)=true:=hro r hrm
   refine Qd ?_
   try simp only[go_sem]
   refine Qe (Qf ?_)
   refine Qa ?_
   simp only[go_sem,hlt,hrow,htk4,hao,hr]
   refine hf r hrm lf H1 _ h3 (by omega) fun rr b1 b2 hrr=>?_
   simp only[go_sem,Q4r]
   refine Qa ?_
   simp only[go_sem]
   refine Qb rfl (fun hn=>?_) (fun hn=>?_)
   ·refine Qa ?_
    simp only[go_sem]
    refine Qg ?_
    simp only[go_sem,AE.X.next,Qq,Qz,Qat4,List.mem_singleton,forall_eq,RS.op]
    exact hK _ (by omega) (by omega) fun h=>by omega
   have h6:0≤rr:=by have:=of_decide_eq_false hn;omega
   obtain⟨n,⟨x,hx,hxs⟩,hle⟩:=hrr h6
   refine Qd ?_
   try simp only[go_sem,AE.X.next]
   refine Qp ?_
   simp only[go_sem,AE.X.next]
   refine⟨Qr (by omega) (by omega),rows.length-(i+1),by omega,i+1,l0++[x],rr,rfl,by omega,?_,h6,by omega,?_,rfl⟩
   ·rw[List.take_succ_eq_append_getElem hlt,htk,hrr2,hx,Q5h]
   ·simp only[Qa8n,Qi3];omega
  ·have hge:rows.length≤i:=by have:=of_decide_eq_false hc;omega
   rw[List.take_of_length_le hge]at htk
   refine Qt ?_
   simp only[go_sem,AE.X.next]
   refine Qa ?_
   simp only[go_sem]
   refine Qg ?_
   simp only[go_sem,Qq,Qz,Qat4,List.mem_singleton,forall_eq,RS.op]
   exact hK lf (by omega) h4 fun _=>⟨Qi3 l0,⟨l0,htk,Nat.le_refl _⟩,by omega⟩
theorem Qa2v {c:C}(hka:SzE Qib (.c c) (okFs c))(hoa:c.isOw=false):SzE Qd7 (.ag [c]) fun n=>okFs c n:=by
 intro left H K h0 hl hK
 have hoa2:=hoa
 refine Qc Qah Qaj1 ?_
 refine Qa ?_
 simp only[go_sem,hoa2]
 refine Qa ?_
 simp only[go_sem,hoa2]
 refine hka left H _ h0 (by omega) fun r1 a0 b0 d0=>?_
 simp only[go_sem,Qp2,hoa2]
 refine Qu ?_
 refine Qa ?_
 simp only[go_sem,hoa2]
 refine Qe (Qb rfl (fun hn=>?_) (fun hn=>?_))
 ·refine Qa ?_
  simp only[go_sem]
  refine Qg ?_
  simp only[go_sem,Qq,Qz,Qat4,List.mem_singleton,forall_eq,RS.op]
  exact hK _ (by omega) (by omega) fun h=>by omega
 have k1:0≤r1:=by have:=of_decide_eq_false hn;omega
 obtain⟨n0,⟨x0,e0,f0⟩,g0⟩:=d0 k1
 refine Qd ?_
 try simp only[go_sem]
 refine Qa ?_
 simp only[go_sem]
 refine Qg ?_
 simp only[go_sem,Qq,Qz,Qat4,List.mem_singleton,forall_eq,RS.op]
 exact hK r1 (by omega) (by omega) fun _=>⟨n0,⟨x0,e0,f0⟩,by omega⟩
end Go.AE.Y

namespace Go.AE.Y
open Go.Proofs.Tryz
theorem Qdq:∀(a b:List C),SizeOf.sizeOf a≤SizeOf.sizeOf (a++b)∧SizeOf.sizeOf b≤SizeOf.sizeOf (a++b)
 |[],b=>⟨by cases b <;> simp <;> omega,Nat.le_refl _⟩
 |x::a,b=>by have:=Qdq a b;simp only[List.cons_append,List.cons.sizeOf_spec];omega
theorem Qa7n {cs:List C}(h:TyC prog Qasv cs):∃c,cs=[c]∧c.isOw=false∧SzE Qch (.c c) (okTs c):=by
 rcases h.of_sl Qbky with ⟨rows,rfl,h1,h2,h3⟩|⟨m,h1,h2,rfl⟩
 ·refine⟨_,rfl,rfl,(Qa2x h1 h3 (fun r hr=>(h2 r hr).noOw) fun r hr=>(h2 r hr).of_str Qbgd).imp fun n hn=>?_⟩
  obtain⟨l,rfl,h4⟩:=hn
  exact⟨l,rfl,h4⟩
 ·exact⟨_,rfl,rfl,Qasq h1 h2 _⟩
theorem Qa34 {k:Nat}(hf:∀cs,SizeOf.sizeOf cs≤k→TyC prog Qbch cs→SzE Qfr (.ag cs) fun n=>∃x:Ex,cs=x.cells∧x.size≤n+1){cs:List C}(h:TyC prog Qaot cs)(hk:SizeOf.sizeOf cs≤k+1):∃c,cs=[c]∧c.isOw=false∧SzE Qbj (.c c) (okXs c):=by
 rcases h.of_sl Qbma with ⟨rows,rfl,h1,h2,h3⟩|⟨m,h1,h2,rfl⟩
 ·refine⟨_,rfl,rfl,(Qbb7 h1 h3 (fun r hr=>(h2 r hr).noOw) fun r hr=>hf r ?_ (h2 r hr)).imp fun n hn=>?_⟩
  ·have:=List.sizeOf_lt_of_mem hr
   simp only[List.cons.sizeOf_spec,C.sl.sizeOf_spec]at hk
   omega
  ·obtain⟨l,rfl,h4⟩:=hn
   exact⟨l,rfl,h4⟩
 ·exact⟨_,rfl,rfl,Qa2u h1 h2 _⟩
theorem Qbf0:∀(k:Nat) (cs:List C),SizeOf.sizeOf cs≤k→TyC prog Qbch cs→SzE Qfr (.ag cs) fun n=>∃x:Ex,cs=x.cells∧x.size≤n+1:=by
 intro k
 induction k with
 |zero=>intro cs h _;cases cs <;> simp at h <;> omega
 |succ k ih=>
 intro cs hs h
 obtain⟨css,rfl,h1,h2⟩:=h.of_struct u_Ex
 match css,h1 with
 |[c0,c1,c2,c3],_=>
  obtain⟨a,rfl,_⟩:=(h2 0 _ _ rfl rfl).of_int Qbiz
  obtain⟨b,rfl,_⟩:=(h2 1 _ _ rfl rfl).of_int Qbiz
  obtain⟨cn,rfl,hn⟩:=(h2 2 _ _ rfl rfl).of_str Qbgd
  obtain⟨ck,rfl,h3,h4⟩:=Qa34 ih (h2 3 _ _ rfl rfl) (by
   have:SizeOf.sizeOf c3≤SizeOf.sizeOf ([[C.int .i64 a],[C.int .i64 b],[cn],c3].flatten):=by
    simp only[List.flatten_cons,List.flatten_nil,List.cons_append,List.nil_append,List.append_nil,List.cons.sizeOf_spec];omega
   omega)
  exact Qbf1 hn h4 h3
theorem Qbb8 {cs:List C}(h:TyC prog Qaot cs):∃c,cs=[c]∧c.isOw=false∧SzE Qbj (.c c) (okXs c):=Qa34 (k:=SizeOf.sizeOf cs) (fun cs2 _ h2=>Qbf0 _ cs2 (Nat.le_refl _) h2) h (by omega)
theorem Qasr {k:Nat}(hf:∀cs,SizeOf.sizeOf cs≤k→TyC prog Qbci cs→SzE Qfs (.ag cs) fun n=>∃x:St,cs=x.cells∧x.size≤n+1){cs:List C}(h:TyC prog Qajn cs)(hk:SizeOf.sizeOf cs≤k+1):∃c,cs=[c]∧c.isOw=false∧SzE Qaz (.c c) (okSs c):=by
 rcases h.of_sl Qbmc with ⟨rows,rfl,h1,h2,h3⟩|⟨m,h1,h2,rfl⟩
 ·refine⟨_,rfl,rfl,(Qbcb h1 h3 (fun r hr=>(h2 r hr).noOw) fun r hr=>hf r ?_ (h2 r hr)).imp fun n hn=>?_⟩
  ·have:=List.sizeOf_lt_of_mem hr
   simp only[List.cons.sizeOf_spec,C.sl.sizeOf_spec]at hk
   omega
  ·obtain⟨l,rfl,h4⟩:=hn
   exact⟨l,rfl,h4⟩
 ·exact⟨_,rfl,rfl,Qa2w h1 h2 _⟩
theorem Qbf4:∀(k:Nat) (cs:List C),SizeOf.sizeOf cs≤k→TyC prog Qbci cs→SzE Qfs (.ag cs) fun n=>∃x:St,cs=x.cells∧x.size≤n+1:=by
 intro k
 induction k with
 |zero=>intro cs h _;cases cs <;> simp at h <;> omega
 |succ k ih=>
 intro cs hs h
 obtain⟨css,rfl,h1,h2⟩:=h.of_struct u_St
 match css,h1 with
 |[c0,c1,c2,c3,c4],_=>
  have hb3:SizeOf.sizeOf c3≤SizeOf.sizeOf ([c0,c1,c2,c3,c4].flatten):=by
   have:=Qdq c3 (c4++[]);have:=Qdq c2 (c3++(c4++[]));have:=Qdq c1 (c2++(c3++(c4++[])));have:=Qdq c0 (c1++(c2++(c3++(c4++[]))))
   simp only[List.flatten_cons,List.flatten_nil];omega
  have hb4:SizeOf.sizeOf c4≤SizeOf.sizeOf ([c0,c1,c2,c3,c4].flatten):=by
   have:=Qdq c4 [];have:=Qdq c3 (c4++[]);have:=Qdq c2 (c3++(c4++[]));have:=Qdq c1 (c2++(c3++(c4++[])));have:=Qdq c0 (c1++(c2++(c3++(c4++[]))))
   simp only[List.flatten_cons,List.flatten_nil];omega
  obtain⟨a,rfl,_⟩:=(h2 0 _ _ rfl rfl).of_int Qbiz
  obtain⟨cn,rfl,hn⟩:=(h2 1 _ _ rfl rfl).of_str Qbgd
  obtain⟨ca,rfl,h3,h4⟩:=Qbb8 (h2 2 _ _ rfl rfl)
  obtain⟨cb,rfl,h5,h6⟩:=Qasr ih (h2 3 _ _ rfl rfl) (by omega)
  obtain⟨cd,rfl,h7,h8⟩:=Qasr ih (h2 4 _ _ rfl rfl) (by omega)
  exact Qbf5 hn h4 h3 h6 h5 h8 h7
theorem Qbcc {cs:List C}(h:TyC prog Qajn cs):∃c,cs=[c]∧c.isOw=false∧SzE Qaz (.c c) (okSs c):=Qasr (k:=SizeOf.sizeOf cs) (fun cs2 _ h2=>Qbf4 _ cs2 (Nat.le_refl _) h2) h (by omega)
theorem Qbf2 {cs:List C}(h:TyC prog Qbgc cs):SzE Qoq (.ag cs) fun n=>∃x:Fn,cs=x.cells∧1+x.params.length+Qj x.body≤n+1:=by
 obtain⟨css,rfl,h1,h2⟩:=h.of_struct u_Fn
 match css,h1 with
 |[c0,c1,c2],_=>
  obtain⟨cn,rfl,hn⟩:=(h2 0 _ _ rfl rfl).of_str Qbgd
  obtain⟨ct,rfl,h3,h4⟩:=Qa7n (h2 1 _ _ rfl rfl)
  obtain⟨cb,rfl,h5,h6⟩:=Qbcc (h2 2 _ _ rfl rfl)
  exact Qbkt hn h4 h3 h6 h5
theorem Qbca {cs:List C}(h:TyC prog Qa37 cs):∃c,cs=[c]∧c.isOw=false∧SzE Qib (.c c) (okFs c):=by
 rcases h.of_sl Qbmb with ⟨rows,rfl,h1,h2,h3⟩|⟨m,h1,h2,rfl⟩
 ·refine⟨_,rfl,rfl,(Qbiu h1 h3 (fun r hr=>(h2 r hr).noOw) fun r hr=>Qbf2 (h2 r hr)).imp fun n hn=>?_⟩
  obtain⟨l,rfl,h4⟩:=hn
  exact⟨l,rfl,h4⟩
 ·exact⟨_,rfl,rfl,Qbb9 h1 h2 _⟩
theorem Qa7m {cs:List C}(h:TyC prog Qasu cs):∃c,cs=[c]∧c.isOw=false∧SzE Qd7 (.ag [c]) (okFs c):=by
 obtain⟨css,rfl,h1,h2⟩:=h.of_struct Qbkx
 match css,h1 with
 |[c0],_=>
  obtain⟨c,rfl,h3,h4⟩:=Qbca (h2 0 _ _ rfl rfl)
  exact⟨c,rfl,h3,Qa2v h4 h3⟩
end Go.AE.Y

namespace Go.AE.Y
attribute [local go_sem] cond_true cond_false Bool.not_true Bool.not_false
open Go.Proofs.Tryz
variable {H H0 F:Heap}{K:V→Heap→Prop}{E B Lg:List (Nat×Obj)}{fns:List Fn}
end Go.AE.Y

namespace Go.AE.Y
attribute [local go_sem] cond_true cond_false Bool.not_true Bool.not_false
attribute [local instance] Classical.propDecidable
open Go.Proofs.Tryz
variable {H H0 F:Heap}{K:V→Heap→Prop}{E B Lg:List (Nat×Obj)}{fns:List Fn}
end Go.AE.Y

namespace Go.AE
variable {H0 H H1:Heap}{E L N Lg B:List (Nat×Obj)}{sz:Nat}{rows rows':List (List C)}{c:C}{S:Nat→Bool}
theorem Slc.kn (h:Slc H sz rows c)(kn:Kn H H1 [] L):Slc H1 sz rows c:=by
 match c,h with
 |.sl f z r,h=>exact⟨trivial,h.sz,h.rows,h.len⟩
 |.vsl l a st n,h=>
  have hl:H l≠.none:=fun e=>by
   have:=h.ok
   simp only[Qy4,e]at this
  have he:=kn.chg l hl (by simp)
  have h1:=h.ok
  have h2:=h.rows
  simp only[Qy4,Q9]at h1 h2
  refine⟨?_,h.sz,?_,h.len⟩
  ·simp only[Qy4,he];exact h1
  ·simp only[Q9,he];exact h2
theorem Kn.addNew (kn:Kn H0 H E L)(k2:Kn H H1 [] N):Kn H0 H1 E (L++N):=by
 refine⟨fun p hp=>?_,kn.ext,fun p hp=>?_,kn.dE,?_,fun m hm hn=>?_⟩
 ·rcases List.mem_append.1 hp with hp|hp
  ·obtain⟨h1,h2⟩:=kn.get p (List.mem_append_left _ hp)
   rw[k2.chg p.1 (by rw[h1];exact h2) (by simp)];exact⟨h1,h2⟩
  ·rcases List.mem_append.1 hp with hp|hp
   ·obtain⟨h1,h2⟩:=kn.get p (List.mem_append_right _ hp)
    rw[k2.chg p.1 (by rw[h1];exact h2) (by simp)];exact⟨h1,h2⟩
   ·exact k2.get p (by simpa using hp)
 ·rcases List.mem_append.1 hp with hp|hp
  ·exact kn.loc p hp
  ·exact (kn.newFree (k2.loc p hp)).1
 ·rw[List.map_append]
  refine List.nodup_append.2 ⟨kn.dL,k2.dL,fun a ha b hb hab=>?_⟩
  obtain⟨p,hp,rfl⟩:=List.mem_map.1 hb
  exact (kn.newFree (k2.loc p hp)).2.2 (hab▸ha)
 ·rw[k2.chg m (by rw[kn.chg m hm hn];exact hm) (by simp),kn.chg m hm hn]
theorem Gr.frzm (h:Gr Lg sz rows c)(hm:∀p∈Lg,H p.1=p.2∧S p.1=true)(hr:Y.FrzR H S rows rows'):FrzC H S c (.sl false sz rows'):=by
 rcases h with ⟨rfl,rfl,rfl⟩|⟨y,rfl,rfl⟩
 ·cases hr;exact Y.FrzR.nil.sl
 ·obtain⟨h1,h2⟩:=hm (y,.vec sz rows) (by simp)
  exact hr.vsl h2 h1 rfl
theorem Kn.frzN (kn:Kn H0 H E (B++Lg)):Kn H0 (H.frz fun m=>(Lg.map Prod.fst).contains m) E B:=by
 have hd:=kn.dL
 rw[List.map_append]at hd
 obtain⟨d1,d2,d3⟩:=List.nodup_append.1 hd
 have key:∀m,m∉Lg.map Prod.fst→(H.frz fun m=>(Lg.map Prod.fst).contains m) m=H m:=fun m hm=>by
  have:(Lg.map Prod.fst).contains m=false:=by
   cases hc:(Lg.map Prod.fst).contains m with
   |false=>rfl
   |true=>exact absurd (List.contains_iff_mem.1 hc) hm
  simp only[Heap.frz,this];rfl
 refine⟨fun p hp=>?_,kn.ext,fun p hp=>kn.loc p (List.mem_append_left _ hp),kn.dE,d1,fun m hm hx=>?_⟩
 ·have hg:H p.1=p.2∧p.2≠.none:=kn.get p (by
   rcases List.mem_append.1 hp with h|h
   ·exact List.mem_append_left _ h
   ·exact List.mem_append_right _ (List.mem_append_left _ h))
  refine⟨?_,hg.2⟩
  rw[key p.1 (fun hh=>?_)];exact hg.1
  rcases List.mem_append.1 hp with h|h
  ·obtain⟨r,hr,he⟩:=List.mem_map.1 hh
   exact kn.ext p h (he▸kn.loc r (List.mem_append_right _ hr))
  ·exact d3 _ (Qci h) _ hh rfl
 ·rw[key m (fun hh=>?_)];exact kn.chg m hm hx
  obtain⟨r,hr,he⟩:=List.mem_map.1 hh
  exact hm (he▸kn.loc r (List.mem_append_right _ hr))
theorem Qa8u {p:Nat×Obj}(h:p∈Lg):(fun m=>(Lg.map Prod.fst).contains m) p.1=true:=List.contains_iff_mem.2 (Qci h)
theorem Kn.frzS_out (kn:Kn H0 H E (B++Lg)){p:Nat×Obj}(h:p∈B):(fun m=>(Lg.map Prod.fst).contains m) p.1=false:=by
 have hd:=kn.dL
 rw[List.map_append]at hd
 cases hc:(Lg.map Prod.fst).contains p.1 with
 |false=>exact hc
 |true=>exact absurd rfl ((List.nodup_append.1 hd).2.2 _ (Qci h) _ (List.contains_iff_mem.1 hc))
end Go.AE
namespace Go.AE.Y
attribute [local go_sem] cond_true cond_false Bool.not_true Bool.not_false
open Go.Proofs.Tryz
variable {H H0 F:Heap}{K:V→Heap→Prop}{E B Lg:List (Nat×Obj)}{fns:List Fn}{S:Nat→Bool}
theorem Qaxw {α β:Type}{f:α→List C}{g:β→List C}{d:α→β}:∀(l:List α),(∀x∈l,FrzL H S (f x) (g (d x)))→FrzR H S (l.map f) ((l.map d).map g)
 |[],_=>.nil
 |x::l,h=>.cons (h x List.mem_cons_self) (Qaxw l fun z hz=>h z (List.mem_cons_of_mem _ hz))
structure OSt where
 x:St
 ac:C
 al:List (Nat×Obj)
def OSt.row (o:OSt):List C:=[.int .i64 o.x.op,.str o.x.name,o.ac,.sl false 5 (Qk o.x.body),.sl false 5 (Qk o.x.els)]
def OSt.ok (o:OSt):Prop:=Gr o.al 4 (Qm o.x.args) o.ac
theorem OSt.noOw {o:OSt}(h:o.ok):Go.AE.noOw o.row=true:=by
 have:=h.isOw
 simp only[OSt.row,Go.AE.noOw,List.all_cons,List.all_nil,Qqv,Qni,Qz7,this];rfl
theorem OSt.frz {o:OSt}(h:o.ok)(hm:∀p∈o.al,H p.1=p.2∧S p.1=true):FrzL H S o.row o.x.cells:=by
 rw[o.x.cells_eq]
 exact .cons (Qi rfl) (.cons (Qi rfl) (.cons (Gr.frzm h hm (FrzR.same (Qbp _))) (.cons (FrzR.same (Qa8 _)).sl (.cons (FrzR.same (Qa8 _)).sl .nil))))
theorem Qap3 {os:List OSt}{Lz:List (Nat×Obj)}{t:C}(ho:∀o∈os,o.ok)(hz:Gr Lz 5 (os.map OSt.row) t)(hm:∀p∈os.flatMap OSt.al++Lz,H p.1=p.2∧S p.1=true):FrzC H S t (.sl false 5 (Qk (os.map OSt.x))):=by
 rw[Qe8]
 refine Gr.frzm hz (fun p hp=>hm p (List.mem_append_right _ hp)) (Qaxw os fun o hoo=>OSt.frz (ho o hoo) fun p hp=>hm p (List.mem_append_left _ (List.mem_flatMap.2 ⟨o,hoo,hp⟩)))
theorem Qbea:∀(n:Nat) (x:Ex) {H:Heap} {K:V→Heap→Prop},x.size≤n→(∀H',Upd H H' []→K (.ag x.cells) H')→Ql prog Q20 [.ag x.cells] H K:=by
 intro n
 induction n with
 |zero=>intro x H K h;have:=x.size_pos;omega
 |succ n ih=>
 intro x H K hn hK
 have hsz:=x.size_kids
 refine Qab ?_
 refine Qc Qah Qbej ?_
 refine Qa ?_
 simp only[go_sem,x.cells_eq]
 intro x1 hx1 H1 h1
 have kn:=(Kn.start0 H).al hx1 h1
 simp only[go_sem,Qag1]
 intro x2 hx2 H2 h2
 have kn:Kn H H2 [] ([(x1,exO x.op x.n x.name (.sl false 4 (Qm x.kids))),(x2,exO 0 0 [] (.sl true 4 []))]):=kn.al hx2 h2
 refine Qa ?_
 simp only[go_sem]
 refine Qu ?_
 refine Qa ?_
 simp only[go_sem]
 refine Qe (Qf (Qy (fun m e2 H2=>∃(j:Nat) (Lk:List (Nat×Obj)) (t:C),m=x.kids.length-j∧j≤x.kids.length∧Gr Lk 4 (Qm (x.kids.take j)) t∧
  Kn H H2 [] ([(x1,exO x.op x.n x.name (.sl false 4 (Qm x.kids))),(x2,exO 0 0 [] (.sl true 4 []))]++Lk)∧
  e2=[(1,.c (.ptr x1 0)),(2,.c (.ptr x2 0)),(3,.c t),(4,.c (.int .i64 j))]) x.kids.length ?_ ?_))
 ·exact⟨0,[],.sl true 4 [],by omega,by omega,.nil 4,kn,rfl⟩
 ·clear kn
  rintro m e2 H3 ⟨j,Lk,t,hm,hj,hgk,kn,rfl⟩
  have hto:=hgk.isOw
  have g1:=kn.l 0 rfl
  refine Qu ?_
  refine Qa ?_
  simp only[go_sem,g1,hto,Qh]
  intro hl
  simp only[LIM]at hl
  refine Qe (Qb rfl ?_ ?_)
  ·intro hc
   have hlt:j<x.kids.length:=by simpa using hc
   have hms:=Qac (List.getElem_mem hlt)
   obtain⟨y,hy⟩:∃y,x.kids[j]=y:=⟨_,rfl⟩
   have htk:Qm (x.kids.take (j+1))=Qm (x.kids.take j)++[y.cells]:=by
    rw[Qei,List.take_succ_eq_append_getElem hlt,hy]
   rw[hy]at hms
   refine Qd ?_
   try simp only[go_sem]
   refine Qe (Qf ?_)
   refine Qp ?_
   simp only[go_sem,g1,hto,hlt,Qh,Q6 _ _ hlt,hy,Ex.take4,Ex.allOw,Ex.cells_len]
   refine ih y (by omega) fun H5 hu=>?_
   have kn:=kn.call0 hu
   simp only[go_sem,Qag3,hto,y.cells_len]
   refine kn.growR hgk (new:=[y.cells]) (.mk' _ true 4 _) (by simpa using y.noOw) (by simp only[Qh,List.length_take,List.length_cons,List.length_nil,LIM];omega) fun t' Lk' H6 hg' hto' kn=>?_
   rw[←htk]at hg'
   simp only[go_sem,Qag2,hto']
   refine Qp ?_
   simp only[go_sem,AE.X.next,hto']
   exact⟨Qr (by omega) (by omega),x.kids.length-(j+1),by omega,j+1,Lk',t',rfl,by omega,hg',kn,rfl⟩
  ·intro hc
   have hge:x.kids.length≤j:=by simpa using hc
   rw[List.take_of_length_le hge]at hgk
   refine Qt ?_
   simp only[go_sem,AE.X.next]
   refine Qa ?_
   simp only[go_sem,g1,hto]
   intro H4 h4
   have kn:=kn.stL 0 rfl h4
   have g1:=kn.l 0 rfl
   have g2:=kn.l 1 rfl
   refine Qa ?_
   simp only[go_sem,g1,g2,hto]
   intro H5 h5
   have kn:=kn.stL 1 rfl h5
   have g2:=kn.l 1 rfl
   refine Qg ?_
   simp only[go_sem,Qq,Qz,Qy7,List.mem_singleton,forall_eq,RS.op,g2,hto]
   rw[x.cells_eq]at hK
   exact⟨_,(FrzL.cons (Qi rfl) (.cons (Qi rfl) (.cons (Qi rfl) (.cons (hgk.frz (B:=[_,_]) kn (Qbp _)) .nil)))).ag,hK _ kn.fin⟩
structure SRd (H:Heap)(rows:List (List C))(l:List St):Prop where
 len:rows.length=l.length
 get:∀i (h:i<l.length),∃ac:C,rows.getD i []=[.int .i64 l[i].op,.str l[i].name,ac,.sl false 5 (Qk l[i].body),.sl false 5 (Qk l[i].els)]∧ac.isOw=false∧Slc H 4 (Qm l[i].args) ac
theorem SRd.fz (H:Heap)(l:List St):SRd H (Qk l) l:=⟨Qo l,fun i h=>⟨.sl false 4 (Qm l[i].args),by rw[Q4 _ _ h,St.cells_eq],rfl,.mk' H false 4 _⟩⟩
theorem SRd.kn {H1:Heap}{L:List (Nat×Obj)}{rows:List (List C)}{l:List St}(h:SRd H rows l)(kn:Kn H H1 [] L):SRd H1 rows l:=⟨h.len,fun i hi=>by
 obtain⟨ac,h1,h2,h3⟩:=h.get i hi
 exact⟨ac,h1,h2,h3.kn kn⟩⟩
theorem OSt.slc {o:OSt}(h:o.ok)(hm:∀p∈o.al,H p.1=p.2):Slc H 4 (Qm o.x.args) o.ac:=by
 have hk:Gr o.al 4 (Qm o.x.args) o.ac:=h
 refine⟨?_,hk.elemSz,?_,hk.lenC⟩
 ·rcases hk with ⟨h1,h2,h3⟩|⟨y,h1,h2⟩
  ·rw[h1];trivial
  ·have:H y=.vec 4 (Qm o.x.args):=hm (y,_) (by rw[h2];simp)
   rw[h1];simp[Qy4,this]
 ·rcases hk with ⟨h1,h2,h3⟩|⟨y,h1,h2⟩
  ·rw[h1,h2];rfl
  ·have:H y=.vec 4 (Qm o.x.args):=hm (y,_) (by rw[h2];simp)
   rw[h1];simp[Q9,this]
theorem SRd.os {os:List OSt}(ho:∀o∈os,o.ok)(hm:∀p∈os.flatMap OSt.al,H p.1=p.2):SRd H (os.map OSt.row) (os.map OSt.x):=by
 refine⟨by simp,fun i hi=>?_⟩
 have hi2:i<os.length:=by simpa using hi
 have hm2:=List.getElem_mem hi2
 refine⟨os[i].ac,?_,(ho _ hm2).isOw,?_⟩
 ·simp[List.getD_eq_getElem?_getD,hi2,OSt.row]
 ·rw[List.getElem_map]
  exact OSt.slc (ho _ hm2) fun p hp=>hm p (List.mem_flatMap.2 ⟨_,hm2,hp⟩)
def StO (n:Nat):Prop:=∀(l:List St) (rows:List (List C)) (c:C) (H:Heap) (K:V→Heap→Prop),Qj l≤n→Qj l≤2^38→c.isOw=false→Slc H 5 rows c→SRd H rows l→
 (∀(os:List OSt) t Lz H',os.map OSt.x=l→(∀o∈os,o.ok)→Gr Lz 5 (os.map OSt.row) t→Kn H H' [] (os.flatMap OSt.al++Lz)→K (.c t) H')→Ql prog Ql0 [.c c] H K
theorem Qbgo {n:Nat}(h:StO n){l:List St}{f:Bool}{H:Heap}{K:V→Heap→Prop}(hn:Qj l≤n)(hb:Qj l≤2^38)(hK:∀H',Upd H H' []→K (.c (.sl false 5 (Qk l))) H'):Ql prog Ql0 [.c (.sl f 5 (Qk l))] H K:=by
 refine Qab (h l (Qk l) (.sl f 5 (Qk l)) H _ hn hb rfl (.mk' H f 5 _) (.fz H l) fun os t Lz H' hx ho hz kn=>?_)
 refine⟨_,.c _ _ (Qap3 ho hz fun p hp=>⟨(kn.get p (by simpa using hp)).1,Qw6 (kn.loc p hp)⟩),?_⟩
 rw[hx]
 exact hK _ kn.fin
theorem Qbl6:∀n,StO n:=by
 intro n
 induction n using Nat.strongRecOn with
 |_ n ih=>
 intro l rows c H K hn hb how hs0 hr0 hK
 have hsl0:=Qeg l
 have hrl:=hr0.len
 refine Qc Qah Qa9x ?_
 refine Qa ?_
 simp only[go_sem,how]
 refine Qa ?_
 simp only[go_sem,how]
 refine Qu ?_
 refine Qa ?_
 simp only[go_sem,how]
 refine Qe (Qf (Qy (fun m e1 H1=>∃(i:Nat) (os:List OSt) (Lz:List (Nat×Obj)) (t:C),m=l.length-i∧i≤l.length∧os.map OSt.x=l.take i∧(∀o∈os,o.ok)∧Gr Lz 5 (os.map OSt.row) t∧Kn H H1 [] (os.flatMap OSt.al++Lz)∧
  e1=[(0,.c c),(3,.c t),(4,.c (.int .i64 i))]) l.length ?_ ?_))
 ·exact⟨0,[],[],.sl true 5 [],by omega,by omega,by simp,by simp,.nil 5,Kn.start0 H,rfl⟩
 ·rintro m e1 H1 ⟨i,os,Lz,t,hm,hi,hox,ho,hz,kn,rfl⟩
  have hto:=hz.isOw
  have hs1:=hs0.kn kn
  have hok:=eq_true hs1.ok
  have hrw:=hs1.rows
  have hln:=hs1.len
  have hsz:=hs1.sz
  rw[hrl]at hln
  refine Qu ?_
  refine Qa ?_
  simp only[go_sem,how,hok,hln,hto]
  intro hl
  simp only[LIM]at hl
  refine Qe (Qb rfl ?_ ?_)
  ·intro hc
   have hlt:i<l.length:=by simpa using hc
   have hms:=Qak (List.getElem_mem hlt)
   obtain⟨x,hx⟩:∃x,l[i]=x:=⟨_,rfl⟩
   rw[hx]at hms
   have hse:=x.size_eq
   obtain⟨ac,hrow,haw,_⟩:=hr0.get i hlt
   rw[hx]at hrow
   have hol:os.length=i:=by
    have:=congrArg List.length hox
    rw[List.length_map,List.length_take]at this;omega
   refine Qd ?_
   try simp only[go_sem]
   refine Qe (Qf ?_)
   refine Qa ?_
   simp only[go_sem,how,hok,hln,hrw,hsz,hto,haw,hlt,hrow]
   intro x5 hx5 H3 h3
   have kn:Kn H H3 [] ((os.flatMap OSt.al++Lz)++(x5,.st [.int .i64 0,.str [],.sl true 4 [],.sl true 5 [],.sl true 5 []])::[]):=kn.al hx5 h3
   have g5:=kn.getM
   simp only[go_sem,Q9h,g5,how,hto,haw]
   intro H4 h4
   have kn:Kn H H4 [] ((os.flatMap OSt.al++Lz)++(x5,stX x.op x.name ac (.sl false 5 (Qk x.body)) (.sl false 5 (Qk x.els)))::[]):=kn.stM h4
   refine Qa ?_
   simp only[go_sem,how,hto]
   refine Qu ?_
   refine Qa ?_
   simp only[go_sem,how,hto]
   refine Qe (Qf (Qy (fun m2 e2 H5=>∃(j:Nat) (La:List (Nat×Obj)) (ta:C),m2=x.args.length-j∧j≤x.args.length∧Gr La 4 (Qm (x.args.take j)) ta∧Kn H H5 [] ((os.flatMap OSt.al++Lz)++(x5,stX x.op x.name ac (.sl false 5 (Qk x.body)) (.sl false 5 (Qk x.els)))::La)∧
    e2=[(0,.c c),(3,.c t),(4,.c (.int .i64 i)),(5,.c (.ptr x5 0)),(6,.c ta),(7,.c (.int .i64 j))]) x.args.length ?_ ?_))
   ·exact⟨0,[],.sl true 4 [],by omega,by omega,.nil 4,kn,rfl⟩
   ·clear kn g5 h4 h3
    rintro m2 e2 H5 ⟨j,La,ta,hm2,hj,hga,kn,rfl⟩
    have hao:=hga.isOw
    have g5:=kn.getM
    obtain⟨ac',hrow',haw',hsa⟩:=(hr0.kn kn).get i hlt
    rw[hx]at hrow' hsa
    have hacc:ac=ac':=by
     rw[hrow]at hrow'
     simp only[List.cons.injEq]at hrow'
     exact hrow'.2.2.1
    subst hacc
    have hoka:=eq_true hsa.ok
    have hrwa:=hsa.rows
    have hlna:=hsa.len
    have hsza:=hsa.sz
    rw[Qh]at hlna
    refine Qu ?_
    refine Qa ?_
    simp only[go_sem,how,haw,hto,hao,g5,hoka,hlna]
    intro hl2
    simp only[LIM]at hl2
    refine Qe (Qb rfl ?_ ?_)
    ·intro hc2
     have hlt2:j<x.args.length:=by simpa using hc2
     have hms2:=Qac (List.getElem_mem hlt2)
     obtain⟨y,hy⟩:∃y,x.args[j]=y:=⟨_,rfl⟩
     have htk:Qm (x.args.take (j+1))=Qm (x.args.take j)++[y.cells]:=by
      rw[Qei,List.take_succ_eq_append_getElem hlt2,hy]
     refine Qd ?_
     try simp only[go_sem]
     refine Qe (Qf ?_)
     refine Qp ?_
     simp only[go_sem,how,haw,hto,hao,g5,hoka,hlna,hrwa,hsza,hlt2,Q6 _ _ hlt2,hy,Ex.take4,Ex.allOw,Ex.cells_len]
     refine Qbea y.size y (Nat.le_refl _) fun H6 hu=>?_
     have kn:=kn.call0 hu
     simp only[go_sem,how,haw,Q9j,hto,hao,y.cells_len]
     have kn:Kn H H6 [] (((os.flatMap OSt.al++Lz)++[(x5,stX x.op x.name ac (.sl false 5 (Qk x.body)) (.sl false 5 (Qk x.els)))])++La):=by rw[List.append_assoc _ [_]];exact kn
     refine kn.growR hga (new:=[y.cells]) (.mk' _ true 4 _) (by simpa using y.noOw) (by simp only[Qh,List.length_take,List.length_cons,List.length_nil,LIM];omega) fun ta' La' H7 hga' hao' kn=>?_
     rw[←htk]at hga'
     simp only[go_sem,how,haw,Q9i,hto,hao']
     refine Qp ?_
     simp only[go_sem,AE.X.next,how,haw,hto,hao']
     refine⟨Qr (by omega) (by omega),x.args.length-(j+1),by omega,j+1,La',ta',rfl,by omega,hga',?_,rfl⟩
     rw[List.append_assoc _ [_]]at kn;exact kn
    ·intro hc2
     have hge2:x.args.length≤j:=by simpa using hc2
     rw[List.take_of_length_le hge2]at hga
     refine Qt ?_
     simp only[go_sem,AE.X.next]
     refine Qaeg ?_
     simp only[go_sem,how,haw,hto,hao,g5]
     refine Qbgo (ih (Qj x.body) (by omega)) (Nat.le_refl _) (by omega) fun H6 hu=>?_
     have kn:=kn.call0 hu
     have g5:=kn.getM
     simp only[go_sem,how,haw,Q9m,hto,hao,g5]
     refine Qbgo (ih (Qj x.els) (by omega)) (Nat.le_refl _) (by omega) fun H7 hu=>?_
     have kn:=kn.call0 hu
     have g5:=kn.getM
     simp only[go_sem,how,haw,Q9l,hto,hao,g5]
     have kn:Kn H H7 [] ((os.flatMap OSt.al++(x5,stX x.op x.name ac (.sl false 5 (Qk x.body)) (.sl false 5 (Qk x.els)))::La)++Lz):=kn.perm (by
      rw[List.append_assoc,List.append_assoc]
      exact List.Perm.append_left _ List.perm_append_comm)
     have hok:OSt.ok ⟨x,ta,La⟩:=hga
     refine kn.growR hz (new:=[OSt.row ⟨x,ta,La⟩]) (.mk' _ true 5 _) (by simpa using OSt.noOw hok) (by simp only[List.length_map,List.length_cons,List.length_nil,LIM];omega) fun t' Lz' H8 hz' hto' kn=>?_
     have kn:Kn H H8 [] ((os++[(⟨x,ta,La⟩:OSt)]).flatMap OSt.al++Lz'):=by
      refine kn.sub ?_
      rw[List.flatMap_append,List.flatMap_cons,List.flatMap_nil,List.append_nil]
      exact List.Sublist.append (List.Sublist.append (List.Sublist.refl _) (List.sublist_cons_self _ _)) (List.Sublist.refl _)
     simp only[go_sem,how,haw,Q9k,hto']
     refine Qp ?_
     simp only[go_sem,AE.X.next,how,hto']
     refine⟨Qr (by omega) (by omega),l.length-(i+1),by omega,i+1,os++[(⟨x,ta,La⟩:OSt)],Lz',t',rfl,by omega,?_,?_,?_,kn,rfl⟩
     ·rw[List.map_append,hox,List.take_succ_eq_append_getElem hlt,hx];rfl
     ·intro o hoo
      rcases List.mem_append.1 hoo with hoo|hoo
      ·exact ho o hoo
      ·simp only[List.mem_singleton]at hoo;subst hoo;exact hok
     ·rw[List.map_append];exact hz'
  ·intro hc
   have hge:l.length≤i:=by simpa using hc
   rw[List.take_of_length_le hge]at hox
   refine Qt ?_
   simp only[go_sem,AE.X.next]
   refine Qa ?_
   simp only[go_sem,hto]
   refine Qg ?_
   simp only[go_sem,Qq,Qz,Qic,List.mem_singleton,forall_eq,RS.op,hto]
   exact hK os t Lz _ hox ho hz kn
theorem Qbaf (A B C D:List (Nat×Obj)):(((A++B)++C)++D).Perm ((A++(C++D))++B):=by
 simp only[List.append_assoc]
 refine List.Perm.append_left _ (List.perm_append_comm.trans ?_)
 simp only[List.append_assoc]
 exact .refl _
structure OFn where
 f:Fn
 pc:C
 pl:List (Nat×Obj)
 os:List OSt
 bc:C
 bl:List (Nat×Obj)
def OFn.row (u:OFn):List C:=[.str u.f.name,u.pc,u.bc]
def OFn.lg (u:OFn):List (Nat×Obj):=u.pl++(u.os.flatMap OSt.al++u.bl)
structure OFn.ok (u:OFn):Prop where
 p:Gr u.pl 1 (Q1 u.f.params) u.pc
 o:∀o∈u.os,o.ok
 b:Gr u.bl 5 (u.os.map OSt.row) u.bc
 x:u.os.map OSt.x=u.f.body
theorem OFn.noOw {u:OFn}(h:u.ok):Go.AE.noOw u.row=true:=by
 have h1:=h.p.isOw
 have h2:=h.b.isOw
 simp only[OFn.row,Go.AE.noOw,List.all_cons,List.all_nil,Qni,h1,h2];rfl
theorem OFn.frz {u:OFn}(h:u.ok)(hm:∀p∈u.lg,H p.1=p.2∧S p.1=true):FrzL H S u.row u.f.cells:=by
 have hb:=Qap3 (H:=H) (S:=S) h.o h.b fun p hp=>hm p (List.mem_append_right _ hp)
 rw[h.x]at hb
 exact .cons (Qi rfl) (.cons (Gr.frzm h.p (fun p hp=>hm p (List.mem_append_left _ hp)) (FrzR.same (Qry _))) (.cons hb .nil))
theorem Qa9g {l:List Fn}{c:C}(how:c.isOw=false)(hs:Slc H 3 (Qn l) c)(hb:Qs l≤2^38)(hp:∀f∈l,f.params.length≤2^38)
  (hK:∀(us:List OFn) t Lz H',us.map OFn.f=l→(∀u∈us,u.ok)→Gr Lz 3 (us.map OFn.row) t→t.isOw=false→Kn H H' [] (us.flatMap OFn.lg++Lz)→K (.ag [t]) H'):Ql prog Q22 [.ag [c]] H K:=by
 refine Qc Qah Qbeo ?_
 refine Qa ?_
 simp only[go_sem,how]
 intro x2 hx2 H1 h1
 have kn:=(Kn.start0 H).al hx2 h1
 refine Qa ?_
 simp only[go_sem,how]
 intro x3 hx3 H2 h2
 have kn:=kn.al hx3 h2
 have g3:=kn.l 1 rfl
 simp only[go_sem,Qahl,g3,how]
 intro H3 h3
 have kn:Kn H H3 [] ((x2,.st [.sl true 3 []])::(x3,.st [.sl true 3 []])::([]++[])):=kn.stL 1 rfl h3
 refine Qu ?_
 refine Qa ?_
 simp only[go_sem,how]
 refine Qe (Qf (Qy (fun m e1 H1=>∃(i:Nat) (us:List OFn) (Lz:List (Nat×Obj)) (t:C),m=l.length-i∧i≤l.length∧us.map OFn.f=l.take i∧(∀o∈us,o.ok)∧Gr Lz 3 (us.map OFn.row) t∧
  Kn H H1 [] ((x2,.st [.sl true 3 []])::(x3,.st [t])::(us.flatMap OFn.lg++Lz))∧
  e1=[(1,.c (.pp [c])),(2,.c (.ptr x2 0)),(3,.c (.ptr x3 0)),(4,.c (.int .i64 i))]) l.length ?_ ?_))
 ·exact⟨0,[],[],.sl true 3 [],by omega,by omega,by simp,by simp,.nil 3,kn,rfl⟩
 ·clear kn g3 h3 h2 h1
  rintro m e1 H1 ⟨i,us,Lz,t,hm,hi,hux,hu,hz,kn,rfl⟩
  have hto:=hz.isOw
  have hs1:=hs.kn kn
  have hok:=eq_true hs1.ok
  have hrw:=hs1.rows
  have hln:=hs1.len
  have hsz:=hs1.sz
  rw[Qw]at hln
  refine Qu ?_
  refine Qa ?_
  simp only[go_sem,how,hto,hok,hln]
  intro hl
  simp only[LIM]at hl
  refine Qe (Qb rfl ?_ ?_)
  ·intro hc
   have hlt:i<l.length:=by simpa using hc
   have hms:=Qco (List.getElem_mem hlt)
   have hpl:=hp _ (List.getElem_mem hlt)
   obtain⟨x,hx⟩:∃x,l[i]=x:=⟨_,rfl⟩
   rw[hx]at hms hpl
   have hul:us.length=i:=by
    have:=congrArg List.length hux
    rw[List.length_map,List.length_take]at this;omega
   refine Qd ?_
   try simp only[go_sem]
   refine Qe (Qf ?_)
   refine Qa ?_
   simp only[go_sem,how,hto,hok,hln,hrw,hsz,hlt,Qal _ _ hlt,hx,Fn.cells]
   intro x5 hx5 H3 h3
   have kn:=(kn.al hx5 h3).perm (L':=(x2,.st [.sl true 3 []])::(x3,.st [t])::(x5,_)::(us.flatMap OFn.lg++Lz)) (.cons _ (.cons _ List.perm_append_comm))
   have g5:=kn.l 2 rfl
   simp only[go_sem,Qahm,g5,how,hto]
   intro H4 h4
   have kn:Kn H H4 [] ((x2,.st [.sl true 3 []])::(x3,.st [t])::(x5,fnO x)::(us.flatMap OFn.lg++Lz)):=kn.stL 2 rfl h4
   have g5:=kn.l 2 rfl
   have g3:=kn.l 1 rfl
   refine Qaeg ?_
   simp only[go_sem,g5,g3,how,hto,Qv]
   refine⟨.inl trivial,Qry _,by simp only[LIM];omega,fun z hz0 H5 h5=>?_⟩
   have kn:=kn.al hz0 h5
   have g5:=kn.l 2 rfl
   have g3:=kn.l 1 rfl
   simp only[go_sem,Qahp,g5,g3,how,hto]
   refine Qbl6 (Qj x.body) x.body _ (.sl false 5 (Qk x.body)) H5 _ (Nat.le_refl _) (by omega) rfl (.mk' _ false 5 _) (.fz _ _) fun os tb Lb H6 hox ho hzb k2=>?_
   have kn:=kn.addNew k2
   have htb:=hzb.isOw
   have g5:=kn.l 2 rfl
   have g3:=kn.l 1 rfl
   simp only[go_sem,Qaho,g5,g3,how,hto,htb]
   obtain⟨u,hue⟩:∃u:OFn,u=⟨x,.vsl z 1 0 (0+x.params.length),[(z,.vec 1 ([]++Q1 x.params))],os,tb,Lb⟩:=⟨_,rfl⟩
   have huo:u.ok:=by
    rw[hue]
    exact⟨by simpa using Gr.mk (n:=0+x.params.length) z 1 (Q1 x.params) (by rw[Qv];omega),ho,hzb,hox⟩
   have hulg:u.lg=[(z,.vec 1 ([]++Q1 x.params))]++(os.flatMap OSt.al++Lb):=by rw[hue];rfl
   have hur:u.row=[.str x.name,.vsl z 1 0 (0+x.params.length),tb]:=by rw[hue];rfl
   have kn:Kn H H6 [] (((x2,.st [.sl true 3 []])::(x3,.st [t])::(x5,fnO x)::(us.flatMap OFn.lg++u.lg))++Lz):=kn.perm (by
    rw[hulg]
    exact .cons _ (.cons _ (.cons _ (Qbaf _ _ _ _))))
   refine kn.growR hz (new:=[u.row]) (by rw[hur];exact .mk' _ true 3 _) (by simpa using OFn.noOw huo) (by simp only[List.length_map,List.length_cons,List.length_nil,LIM];omega) fun t' Lz' H8 hz' hto' kn=>?_
   have g3:=kn.l 1 rfl
   simp only[go_sem,Qahn,g3,how,hto']
   intro H9 h9
   have kn:=kn.stL 1 rfl h9
   have kn:Kn H H9 [] ((x2,.st [.sl true 3 []])::(x3,.st [t'])::((us++[u]).flatMap OFn.lg++Lz')):=by
    refine kn.sub ?_
    rw[List.flatMap_append,List.flatMap_cons,List.flatMap_nil,List.append_nil]
    exact .cons_cons _ (.cons_cons _ (.cons _ (List.Sublist.refl _)))
   try simp only[go_sem,AE.X.next]
   refine Qp ?_
   simp only[go_sem,AE.X.next,how]
   refine⟨Qr (by omega) (by omega),l.length-(i+1),by omega,i+1,us++[u],Lz',t',rfl,by omega,?_,?_,?_,kn,rfl⟩
   ·rw[List.map_append,hux,List.take_succ_eq_append_getElem hlt,hx,hue];rfl
   ·intro o hoo
    rcases List.mem_append.1 hoo with hoo|hoo
    ·exact hu o hoo
    ·simp only[List.mem_singleton]at hoo;subst hoo;exact huo
   ·rw[List.map_append];exact hz'
  ·intro hc
   have hge:l.length≤i:=by simpa using hc
   rw[List.take_of_length_le hge]at hux
   have g3:=kn.l 1 rfl
   have g2:=kn.l 0 rfl
   refine Qt ?_
   simp only[go_sem,AE.X.next]
   refine Qa ?_
   simp only[go_sem,g3,g2,hto]
   intro H3 h3
   have kn:=kn.stL 0 rfl h3
   have g2:=kn.l 0 rfl
   refine Qg ?_
   simp only[go_sem,Qq,Qz,Qa3u,List.mem_singleton,forall_eq,RS.op,g2,hto]
   exact hK us t Lz _ hux hu hz hto (kn.sub (.cons _ (.cons _ (List.Sublist.refl _))))
end Go.AE.Y

namespace Go.AE.Y
attribute [local go_sem] cond_true cond_false Bool.not_true Bool.not_false
open Go.Proofs.Tryz
variable {H H' H0 F:Heap}{K:V→Heap→Prop}{fns:List Fn}{L:List (Nat×Obj)}
theorem Qafg:∀fns:List Fn,Qs fns≤Qi3 fns
 |[]=>Nat.le_refl _
 |f::r=>by have:=Qafg r;simp only[Qs,Qi3];omega
theorem Qw5 {fl:Bool}(hK:∀H',Upd H H' []→K (.ag [.sl false 3 (Qn fns)]) H'):Ql prog Qbv [.ag [.sl fl 3 (Qn fns)]] H K:=
 Qab (Qajk fun H' L cs kn ho=>⟨_,(ho.frz fun p hp=>⟨(kn.get p (by simpa using hp)).1,Qw6 (kn.loc p hp)⟩).ag,hK _ kn.fin⟩)
end Go.AE.Y

namespace Go.AE.Y
open Go.Proofs.Tryz
end Go.AE.Y

namespace Go.AE.Y
open Go.Proofs.Tryz
end Go.AE.Y

namespace Go.AE.Y
open Go.Proofs.Tryz
end Go.AE.Y

namespace Go.AE.Y
open Go.Proofs.Tryz
end Go.AE.Y

namespace Go.AE.Y
open Go.Proofs.Tryz
end Go.AE.Y

namespace Go.AE.Y
open Go.Proofs.Tryz
end Go.AE.Y

namespace Go.AE.Y
open Go.Proofs.Tryz
end Go.AE.Y

namespace Go.AE.Y
open Go.Proofs.Tryz
end Go.AE.Y

namespace Go.AE.Y
open Go.Proofs.Tryz
variable {F H:Heap}{w:Nat}{s:LS}{K:V→Heap→Prop}
end Go.AE.Y

namespace Go.AE.Y
open Go.Proofs.Tryz
variable {F H:Heap}{w:Nat}{s:LS}{K:V→Heap→Prop}
end Go.AE.Y

namespace Go.AE.Y
open Go.Proofs.Tryz
variable {F H:Heap}{w:Nat}{s:LS}{K:V→Heap→Prop}
end Go.AE.Y

namespace Go.AE.Y
open Go.Proofs.Tryz
variable {F H:Heap}{w:Nat}{s:LS}{K:V→Heap→Prop}
end Go.AE.Y

namespace Go.AE.Y
open Go.Proofs.Tryz
variable {F H:Heap}{w:Nat}{s:LS}{K:V→Heap→Prop}
end Go.AE.Y

namespace Go.AE.Y
open Go.Proofs.Tryz
variable {H:Heap}{K:V→Heap→Prop}
end Go.AE.Y

namespace Go.AE.Y
structure Lw where
 regs:Int
 bs:List BlkD
 at_:Nat
def blk0:BlkD:=⟨[],[],0,0,[]⟩
def Lw.put (s:Lw)(op to n:Int)(args:List Int):Lw:={ s with bs:=s.bs.modify s.at_ fun b=>{ b with ins:=b.ins++[⟨op,to,args,n⟩] } }
def Lw.fresh (s:Lw):Lw:={ s with regs:=s.regs+1 }
def Lw.add (s:Lw)(n:Nat):Lw:={ s with bs:=s.bs++List.replicate n blk0 }
def Lw.jump (s:Lw)(kind on:Int)(next:List Int)(at':Nat):Lw:={ s with bs:=s.bs.modify s.at_ fun b=>{ b with jump:=kind,on:=on,next:=next },at_:=at' }
def Qbii (v:Vars)(dflt:Int)(s:List UInt8):Int:=match v.find s with
 |some n=>(n:Int)
 |none=>dflt
structure Lv where
 s:Lw
 v:Vars
 next:Nat
def parV (ps:List (List UInt8)):Vars×Nat:=ps.foldl (fun s p=>(Qe6 s.1 p s.2,s.2+1)) ([[]],0)
end Go.AE.Y

namespace Go.AE.Y
def Qad6 (n:Nat):List UInt8:=[118,UInt8.ofNat (97+n)]
theorem Qaxe {a b:Nat}(ha:a<26)(hb:b<26)(h:Qad6 a=Qad6 b):a=b:=by
 have:∀x y:Fin 26,Qad6 x.val=Qad6 y.val→x=y:=by decide
 have:=this ⟨a,ha⟩ ⟨b,hb⟩ h
 exact congrArg Fin.val this
def renV (v:Vars):Vars:=v.map fun b=>b.map fun p=>(Qad6 p.2,p.2)
def VOk (v:Vars)(n:Nat):Prop:=(v.flatten.map Prod.snd).Nodup∧∀p∈v.flatten,p.2<n
theorem Qaud (v:Vars):(renV v).flatten=v.flatten.map fun p=>(Qad6 p.2,p.2):=by
 induction v with
 |nil=>rfl
 |cons b r ih=>simp only[renV,List.map_cons,List.flatten_cons,List.map_append]at ih⊢;rw[ih]
theorem Qbdg {l:List (List UInt8×Nat)}{n:Nat}(hn:n≤26)(h1:(l.map Prod.snd).Nodup)(h2:∀p∈l,p.2<n){s:List UInt8}{m:Nat}(hf:(l.find? fun p=>decide (p.1=s)).map Prod.snd=some m) :
  ((l.map fun p=>(Qad6 p.2,p.2)).find? fun p=>decide (p.1=Qad6 m)).map Prod.snd=some m:=by
 obtain⟨p,hp,rfl⟩:=Option.map_eq_some_iff.1 hf
 have hpm:=List.mem_of_find?_eq_some hp
 clear hf hp
 induction l with
 |nil=>simp at hpm
 |cons a r ih=>
  have ha:=h2 a List.mem_cons_self
  have hp2:=h2 p hpm
  rw[List.map_cons,List.find?_cons]
  by_cases he:Qad6 a.2=Qad6 p.2
  ·have:=Qaxe (by omega) (by omega) he
   simp[this]
  ·simp only[he,decide_false]
   have:p≠a:=fun e=>he (by rw[e])
   exact ih (List.nodup_cons.1 h1).2 (fun q hq=>h2 q (List.mem_cons_of_mem _ hq)) (by simpa[this]using hpm)
theorem VOk.find {v:Vars}{n:Nat}(h:VOk v n)(hn:n≤26){s:List UInt8}{m:Nat}(hf:v.find s=some m):(renV v).find (Qad6 m)=some m:=by
 rw[Vars.find,Qaud];exact Qbdg hn h.1 h.2 hf
theorem VOk.put {v:Vars}{n:Nat}(h:VOk v n)(s:List UInt8):VOk (Qe6 v s n) (n+1):=by
 have e:(Qe6 v s n).flatten=(s,n)::v.flatten:=by
  cases v with
  |nil=>rfl
  |cons b r=>simp[Qe6]
 refine⟨?_,fun p hp=>?_⟩
 ·rw[e,List.map_cons,List.nodup_cons]
  refine⟨fun hm=>?_,h.1⟩
  obtain⟨p,hp,he⟩:=List.mem_map.1 hm
  have:=h.2 p hp
  omega
 ·rw[e]at hp
  rcases List.mem_cons.1 hp with rfl|hp
  ·show n<n+1;omega
  ·have:=h.2 p hp;omega
theorem VOk.push {v:Vars}{n:Nat}(h:VOk v n):VOk ([]::v) n:=by
 have e:(([]:List (List UInt8×Nat))::v).flatten=v.flatten:=by simp
 exact⟨by rw[e];exact h.1,by rw[e];exact h.2⟩
theorem VOk.mono {v:Vars}{n m:Nat}(h:VOk v n)(hm:n≤m):VOk v m:=⟨h.1,fun p hp=>by have:=h.2 p hp;omega⟩
theorem VOk.top {v:Vars}{n:Nat}(h:VOk v n)(hn:n<26):Qen (renV v) (Qad6 n)=false:=by
 rw[Qen,List.any_eq_false]
 intro p hp
 have hm:p∈(renV v).flatten:=by
  cases hv:renV v with
  |nil=>rw[hv]at hp;simp at hp
  |cons b r=>rw[hv]at hp;simp at hp;simp[hp]
 rw[Qaud]at hm
 obtain⟨q,hq,rfl⟩:=List.mem_map.1 hm
 have h2:=h.2 q hq
 simp only[decide_eq_true_eq]
 intro he
 have:=Qaxe (by omega) hn he
 omega
end Go.AE.Y

namespace Go.AE.Y
theorem VOk.st {v:Vars}{n:Nat}(h:VOk v n)(op:Int)(name:List UInt8):VOk (if op=1 then Qe6 v name n else v) (n+if op=1 then 1 else 0):=by
 by_cases h1:op=1
 ·simp only[h1,if_true];exact h.put name
 ·simp only[h1,if_false];exact h
end Go.AE.Y

namespace Go.AE.Y
def parW (ps:List (List UInt8))(v:Vars)(n:Nat):Vars×Nat:=ps.foldl (fun s p=>(Qe6 s.1 p s.2,s.2+1)) (v,n)
theorem Qbab:∀(ps:List (List UInt8)) (v:Vars) (n:Nat),VOk v n→VOk (parW ps v n).1 (parW ps v n).2∧(parW ps v n).2=n+ps.length
 |[],v,n,h=>⟨h,rfl⟩
 |p::r,v,n,h=>by
  obtain⟨h1,h2⟩:=Qbab r _ _ (h.put p)
  refine⟨h1,?_⟩
  have:parW (p::r) v n=parW r (Qe6 v p n) (n+1):=rfl
  rw[this,h2,List.length_cons];omega
theorem Qa99:∀(ps:List (List UInt8)) (v:Vars) (n:Nat),(Qtz ps ⟨v,0,n⟩).c=0→Qtz ps ⟨v,0,n⟩=⟨(parW ps v n).1,0,(parW ps v n).2⟩
 |[],v,n,h=>rfl
 |p::r,v,n,h=>by
  have e:Qtz (p::r) ⟨v,0,n⟩=Qtz r ⟨Qe6 v p n,Qcm 0 (if Qen v p then 2 else 0),n+1⟩:=rfl
  rw[e]at h⊢
  have h0:=Qat1 h
  simp only at h0
  rw[h0]at h⊢
  exact Qa99 r _ _ h
theorem vok0:VOk [[]] 0:=⟨by simp,by simp⟩
theorem FineP.fn {fns:List Fn}(h:FineP fns){k:Nat}(hk:k<fns.length) :
  Qtz fns[k].params ⟨[[]],0,0⟩=⟨(parV fns[k].params).1,0,fns[k].params.length⟩∧VOk (parV fns[k].params).1 fns[k].params.length∧(Qam fns k fns[k].body ⟨(parV fns[k].params).1,0,fns[k].params.length⟩).c=0∧
   fns[k].params.all Qc6=true∧Qc6 fns[k].name=true∧fns[k].params.length≤3∧Q2 fns[k].body 4=true:=by
 have hc:=h.c k hk
 have h1:=Qa99 _ _ _ (Qbr _ hc).1
 obtain⟨h2,h3⟩:=Qbab fns[k].params [[]] 0 vok0
 rw[Nat.zero_add]at h3
 rw[h3]at h1 h2
 have hv:=h.v
 simp only[Qmn,Bool.and_eq_true,decide_eq_true_eq,List.all_eq_true]at hv
 have hf:=hv.1.2 _ (List.getElem_mem hk)
 simp only[Fn.form,Bool.and_eq_true,decide_eq_true_eq]at hf
 refine⟨h1,h2,?_,hf.1.1.1,hf.1.1.2,hf.1.2,hf.2⟩
 rw[h1]at hc;exact hc
end Go.AE.Y

namespace Go.AE.Y
def Lw.ok (s:Lw):Prop:=s.at_<s.bs.length
theorem Qaey {l:List Ex}(h:∀a∈l,a.valid=true):Qa6 l 6=true:=by
 rw[Qqh,List.all_eq_true]
 intro a ha
 have:=h a ha
 simp only[Ex.valid,Bool.and_eq_true]at this
 exact this.1
end Go.AE.Y

namespace Go.AE.Y
open Go.Proofs.Tryz
variable {F H:Heap}{w:Nat}{s:LS}{K:V→Heap→Prop}
def intB (l:List (List C)):List Int:=l.map fun r=>match r with
 |[.int _ n]=>n
 |_=>0
def rowI (r:List C):InsD:=match r with
 |[.int _ op,.int _ to,.sl _ _ a,.int _ n]=>⟨op,to,intB a,n⟩
 |_=>⟨0,0,[],0⟩
def Blk.d (b:Blk):BlkD:=⟨[],b.irows.map rowI,b.jump,b.on,b.next⟩
def LS.d (s:LS):Lw:=⟨s.regs,s.blocks.map Blk.d,s.at_⟩
end Go.AE.Y

namespace Go.AE.Y
open Go.Proofs.Tryz
def Qle:List Item:=[sJ 3 7 13]
def Qlf:List Item:=[mJ 5 19]
def Qlg:List Item:=fI 18 (.bsl 3 [.t 17])::xJ 19 3 14 18::Qlf
def Q0y:SC:=.reg (mJ 14 5::mJ 15 1::tJ 16 3 7::eI 17 (.callv (.t 15) [.t 16])::Qlg) [1,5,8,9,10]
def Q0z:SC:=.reg [cJ 20 .add 10 1,mJ 10 20] [1,5,8,9,10]
def Q00:SC:=.seq (.block 1 (sR (iJ 12 3 8 10::tJ 13 3 12::eI 7 (.alloc [.str [],.sl true 1 [],.sl true 5 []])::Qle) [1,5,7,8,9,10] Q0y)) Q0z
def Qyl:SC:=sR [bJ 11 .lss 10 9] [1,5,8,9,10,11] (cX 11 0 Q00)
def Q01:SC:=sR [mJ 21 5,mJ 4 21] [4] .ret
def Q02:SC:=.seq (sR [mJ 8 0,nJ 9 8,zJ 10 0] [1,5,8,9,10] (bL 0 Qyl)) Q01
def Q03:SC:=sR [fI 5 (.mv (.k (.c (.sl true 3 []))))] [0,1,5] Q02
def Q6q:SC:=sR [fI 4 (.mv (.k (.c (.sl true 3 []))))] [0,1] Q03
theorem Q5v:mFn prog Qdu 2 22 Q6q Qat4=true:=by kernel_rfl
end Go.AE.Y

namespace Go.AE.Y
open Go.Proofs.Tryz
end Go.AE.Y

namespace Go.AE.Y
open Go.Proofs.Tryz
structure IS where
 fns:List Fn
 pfl:Bool
 params:Int
 regs:Int
 bc:C
 lb:List (Nat×Obj)
 blocks:List Blk
 at_:Nat
def IS.o (s:IS):Obj:=.st [.sl s.pfl 3 (Qn s.fns),.int .i64 s.params,.int .i64 s.regs,s.bc,.int .i64 s.at_]
structure IS.ok (s:IS)(N:Nat):Prop where
 r0:0≤s.regs
 r1:s.regs≤N
 b1:s.blocks.length≤N
 i1:∀b∈s.blocks,b.irows.length≤N
theorem IS.ok.mono {s:IS}{N M:Nat}(h:s.ok N)(hm:N≤M):s.ok M:=
 ⟨h.r0,by have:=h.r1;omega,by have:=h.b1;omega,fun b hb=>by have:=h.i1 b hb;omega⟩
def IS.d (s:IS):Lw:=⟨s.regs,s.blocks.map Blk.d,s.at_⟩
variable {F H H':Heap}{w:Nat}{s:IS}{K:V→Heap→Prop}
end Go.AE.Y

namespace Go.AE
variable {F H H':Heap}{A M:List (Nat×Obj)}
end Go.AE
namespace Go.AE.Y
attribute [local go_sem] cond_true cond_false Bool.not_true Bool.not_false
open Go.Proofs.Tryz
variable {F H H':Heap}{w:Nat}{s:IS}{K:V→Heap→Prop}{M Lg:List (Nat×Obj)}
end Go.AE.Y

namespace Go.AE.Y
open Go.Proofs.Tryz
variable {F H:Heap}{w:Nat}{s:LS}{K:V→Heap→Prop}
end Go.AE.Y

namespace Go.AE.Y
open Go.Proofs.Tryz
variable {F H:Heap}{w:Nat}{s:LS}{K:V→Heap→Prop}
end Go.AE.Y

namespace Go.AE.Y
attribute [local go_sem] cond_true cond_false Bool.not_true Bool.not_false
open Go.Proofs.Tryz
variable {F H H':Heap}{w:Nat}{s:IS}{K:V→Heap→Prop}{M Lg:List (Nat×Obj)}{sc:ScD}{v:Vars}
end Go.AE.Y

namespace Go.AE.Y
open Go.Proofs.Tryz
variable {F H:Heap}{w:Nat}{s:LS}{K:V→Heap→Prop}
end Go.AE.Y

namespace Go.AE.Y
end Go.AE.Y

namespace Go.AE.Y
attribute [local go_sem] cond_true cond_false Bool.not_true Bool.not_false
open Go.Proofs.Tryz
variable {F H H':Heap}{w q:Nat}{s:IS}{K:V→Heap→Prop}{M Lg:List (Nat×Obj)}{sc:ScD}{v:Vars}{ls:List Nat}{lv:Lv}
end Go.AE.Y

namespace Go.AE.Y
attribute [local go_sem] cond_true cond_false Bool.not_true Bool.not_false
open Go.Proofs.Tryz
variable {F H H':Heap}{w q:Nat}{s:IS}{K:V→Heap→Prop}{M Lg:List (Nat×Obj)}{sc:ScD}{v:Vars}{ls:List Nat}{lv:Lv}
end Go.AE.Y

namespace Go.AE.Y
attribute [local go_sem] cond_true cond_false Bool.not_true Bool.not_false
open Go.Proofs.Tryz
end Go.AE.Y

namespace Go.AE.Y
open Go.Proofs.Tryz
variable {F H:Heap}{w:Nat}{s:LS}{K:V→Heap→Prop}
end Go.AE.Y

namespace Go.AE.Y
open Go.Proofs.Tryz
variable {F H:Heap}{w:Nat}{s:LS}{K:V→Heap→Prop}
end Go.AE.Y

namespace Go.AE.Y
open Go.Proofs.Tryz
variable {H:Heap}{K:V→Heap→Prop}
end Go.AE.Y

namespace Go.AE.Y
attribute [local go_sem] cond_true cond_false Bool.not_true Bool.not_false
open Go.Proofs.Tryz
variable {H:Heap}{K:V→Heap→Prop}
end Go.AE.Y

namespace Go.AE.Y
attribute [local go_sem] cond_true cond_false Bool.not_true Bool.not_false
open Go.Proofs.Tryz
variable {H:Heap}{K:V→Heap→Prop}
end Go.AE.Y

namespace Go.AE.Y
open Go.Proofs.Tryz
variable {H:Heap}{K:V→Heap→Prop}
end Go.AE.Y

namespace Go.AE.Y
open Go.Proofs.Tryz
variable {H:Heap}{K:V→Heap→Prop}
attribute [local instance] Classical.propDecidable
end Go.AE.Y

namespace Go.AE.Y
attribute [local go_sem] cond_true cond_false Bool.not_true Bool.not_false
attribute [local instance] Classical.propDecidable
open Go.Proofs.Tryz
variable {H:Heap}{K:V→Heap→Prop}{fns:List Fn}
end Go.AE.Y

namespace Go.AE.Y
open Go.Proofs.Tryz
variable {H:Heap}{K:V→Heap→Prop}
end Go.AE.Y

namespace Go.AE.Y
open Go.Proofs.Tryz
variable {H:Heap}{K:V→Heap→Prop}
end Go.AE.Y

namespace Go.AE.Y
open Go.Proofs.Tryz
variable {H:Heap}{K:V→Heap→Prop}
end Go.AE.Y

namespace Go.AE.Y
attribute [local go_sem] cond_true cond_false Bool.not_true Bool.not_false
open Go.Proofs.Tryz
variable {H:Heap}{K:V→Heap→Prop}
end Go.AE.Y

namespace Go.AE.Y
attribute [local go_sem] cond_true cond_false Bool.not_true Bool.not_false
open Go.Proofs.Tryz
variable {H:Heap}{K:V→Heap→Prop}
attribute [local instance] Classical.propDecidable
end Go.AE.Y

namespace Go.AE.Y
attribute [local go_sem] cond_true cond_false Bool.not_true Bool.not_false
open Go.Proofs.Tryz
variable {H:Heap}{K:V→Heap→Prop}
attribute [local instance] Classical.propDecidable
end Go.AE.Y

namespace Go.AE.Y
attribute [local go_sem] cond_true cond_false Bool.not_true Bool.not_false
attribute [local instance] Classical.propDecidable
open Go.Proofs.Tryz
variable {H:Heap}{K:V→Heap→Prop}{fns:List Fn}
end Go.AE.Y

namespace Go.AE
variable {H0 H:Heap}{E B Lg:List (Nat×Obj)}{sz:Nat}{rows:List (List C)}{c:C}
end Go.AE
namespace Go.AE.Y
open Go.Proofs.Tryz
attribute [local go_sem] cond_true cond_false Bool.not_true Bool.not_false
variable {H H0 F:Heap}{K:V→Heap→Prop}{E B Lg:List (Nat×Obj)}
end Go.AE.Y

namespace Go.AE
variable {H0 H:Heap}{E B Lg:List (Nat×Obj)}{sz:Nat}{rows rows':List (List C)}{c c':C}{S:Nat→Bool}
end Go.AE
namespace Go.AE.Y
attribute [local go_sem] cond_true cond_false Bool.not_true Bool.not_false
open Go.Proofs.Tryz
variable {H H0 F:Heap}{K:V→Heap→Prop}{E B Lg:List (Nat×Obj)}
end Go.AE.Y

namespace Go.AE.Y
open Go.Proofs.Tryz
end Go.AE.Y

namespace Go.AE
variable {H0 H H':Heap}{E L:List (Nat×Obj)}
end Go.AE
namespace Go.AE.Y
attribute [local go_sem] cond_true cond_false Bool.not_true Bool.not_false
open Go.Proofs.Tryz
variable {H H0 F:Heap}{K:V→Heap→Prop}{E B Lg:List (Nat×Obj)}
theorem Gr.vec {sz:Nat}{rows:List (List C)}{c:C}(h:Gr Lg sz rows c):∀p∈Lg,∃z r,p.2=Obj.vec z r:=by
 rcases h with ⟨_,_,rfl⟩|⟨y,_,rfl⟩
 ·simp
 ·intro p hp;simp only[List.mem_singleton]at hp;subst hp;exact⟨_,_,rfl⟩
theorem OFn.vec {u:OFn}(h:u.ok):∀p∈u.lg,∃z r,p.2=Obj.vec z r:=by
 intro p hp
 rcases List.mem_append.1 hp with hp|hp
 ·exact Gr.vec h.p p hp
 ·rcases List.mem_append.1 hp with hp|hp
  ·obtain⟨o,ho,hp⟩:=List.mem_flatMap.1 hp
   exact Gr.vec (h.o o ho) p hp
  ·exact Gr.vec h.b p hp
end Go.AE.Y

namespace Go.AE.Y
open Go.Proofs.Tryz
variable {H:Heap}{K:V→Heap→Prop}
end Go.AE.Y

namespace Go.AE.Y
attribute [local go_sem] cond_true cond_false Bool.not_true Bool.not_false
attribute [local instance] Classical.propDecidable
open Go.Proofs.Tryz
variable {H:Heap}{K:V→Heap→Prop}{bs:List UInt8}
end Go.AE.Y

namespace Go.AE.Y
open Go.Proofs.Tryz
variable {H:Heap}{K:V→Heap→Prop}
end Go.AE.Y

namespace Go.AE.Y
attribute [local go_sem] cond_true cond_false Bool.not_true Bool.not_false
open Go.Proofs.Tryz
variable {H H0 F:Heap}{K:V→Heap→Prop}{E B Lg:List (Nat×Obj)}{fns:List Fn}
theorem ScOk.upd {H':Heap}{val:Nat→Int}:∀{ls:List Nat} {v:Vars},ScOk val H ls v→(∀m,H m≠.none→H' m=H m)→ScOk val H' ls v
 |[],[],_,_=>trivial
 |_::_,_::_,⟨⟨n,es,h1,h2⟩,h3⟩,hu=>⟨⟨n,es,by rw[hu _ (by rw[h1];nofun),h1],h2⟩,h3.upd hu⟩
end Go.AE.Y

namespace Go.AE.Y
def trI (b:Prop) [Decidable b]:Int:=if b then 1 else 0
def arR (op a b:Int):Option Int:=
 if op=3 then some ((a+b) % 256)else if op=4 then some ((a-b+256) % 256)else if op=5 then some (a * b % 256)
 else if op=6 then (if b=0 then none else some (a / b))else if op=7 then (if b=0 then none else some (a % b))
 else if op=8 then some (trI (a<b))else if op=9 then some (trI (a=b))else some (trI (a=0))
def byI (v:Int):Prop:=0≤v∧v≤255
end Go.AE.Y

namespace Go.AE.Y
open Go.Proofs.Tryz
def Qaug:SC:=cT 29 .skip (.reg [cJ 31 .eql 9 7,mJ 29 31] [0,1,2,8,9,29])
def Qauh:SC:=cT 33 (sR [zJ 6 0,fB 7 false] [6,7] .ret) .skip
def Qaui:SC:=cT 35 (sR [mJ 36 1,mJ 37 2,bJ 38 .quo 36 37,mJ 6 38,fB 7 true] [6,7] .ret) .skip
def Qauj:SC:=sR [mJ 39 1,mJ 40 2,bJ 41 .rem 39 40,mJ 6 41,fB 7 true] [6,7] .ret
def Qauk:SC:=.seq (sR [mJ 34 0,cJ 35 .eql 34 6] [1,2,35] Qaui) Qauj
def Q3v:List Item:=[mJ 6 48,fB 7 true]
def Q3w:List Item:=[mJ 6 55,fB 7 true]
def Q3x:List Item:=[mJ 6 65,fB 7 true]
def Qaul:SC:=cT 56 (sR (mJ 58 8::mJ 59 1::cJ 60 .neq 59 0::mJ 61 60::gTm 62 61 2::gT 63 61 (.bin 0 .neq (.t 62) (kI 0))::pF 64 61 63::eI 65 (.callv (.t 58) [.t 64])::Q3x) [6,7] .ret) .skip
def Qaum:SC:=cT 49 (sR (mJ 51 8::mJ 52 1::mJ 53 2::bJ 54 .eql 52 53::eI 55 (.callv (.t 51) [.t 54])::Q3w) [6,7] .ret) (sR [cJ 57 .eql 9 10,mJ 56 57] [1,2,8,56] Qaul)
def Qaqd:SC:=cT 42 (sR (mJ 44 8::mJ 45 1::mJ 46 2::bJ 47 .lss 45 46::eI 48 (.callv (.t 44) [.t 47])::Q3v) [6,7] .ret) (sR [cJ 50 .eql 9 9,mJ 49 50] [1,2,8,9,49] Qaum)
def Q3t:SC:=cT 29 (.seq (sR [mJ 32 2,cJ 33 .eql 32 0] [0,1,2,33] Qauh) Qauk) (sR [cJ 43 .eql 9 8,mJ 42 43] [1,2,8,9,42] Qaqd)
def Qaqe:SC:=cT 23 (sR [mJ 25 1,mJ 26 2,bJ 27 .mul 25 26,cJ 28 .rem 27 256,mJ 6 28,fB 7 true] [6,7] .ret) (.seq (sR [cJ 30 .eql 9 6,mJ 29 30] [0,1,2,8,9,29] Qaug) Q3t)
def Qaqf:SC:=cT 16 (sR [mJ 18 1,mJ 19 2,bJ 20 .sub 18 19,cJ 21 .add 20 256,cJ 22 .rem 21 256,mJ 6 22,fB 7 true] [6,7] .ret) (sR [cJ 24 .eql 9 5,mJ 23 24] [0,1,2,8,9,23] Qaqe)
def Qaqg:SC:=cT 10 (sR [mJ 12 1,mJ 13 2,bJ 14 .add 12 13,cJ 15 .rem 14 256,mJ 6 15,fB 7 true] [6,7] .ret) (sR [cJ 17 .eql 9 4,mJ 16 17] [0,1,2,8,9,16] Qaqf)
def Qaqh:SC:=.block 0 (sR [cJ 11 .eql 9 3,mJ 10 11] [0,1,2,8,9,10] Qaqg)
def Qzf:List Item:=[mJ 6 69,fB 7 true]
def Q3u:SC:=sR (mJ 66 8::mJ 67 1::cJ 68 .eql 67 0::eI 69 (.callv (.t 66) [.t 68])::Qzf) [6,7] .ret
def Qaqi:SC:=.seq (sR [mJ 9 0] [0,1,2,8,9] Qaqh) Q3u
def Qaqj:SC:=sR [fI 8 (.mv (.k (.c (.fn Qiu []))))] [0,1,2,8] Qaqi
def Qa5d:SC:=sR [zJ 6 0,fB 7 false] [0,1,2] Qaqj
def Ql6:List RS:=[.tmp 6,.tmp 7]
theorem Q5r:mFn prog Qh6 3 70 Qa5d Ql6=true:=by kernel_rfl
def Qaf8:SC:=cT 3 (sR [zJ 2 1] [2] .ret) .skip
def Qaf9:SC:=sR [zJ 2 0] [2] .ret
def Qaga:SC:=.seq (sR [mJ 3 0] [3] Qaf8) Qaf9
def Qaqk:SC:=sR [zJ 2 0] [0] Qaga
theorem Qapq:mFn prog Qiu 1 4 Qaqk Qic=true:=by kernel_rfl
end Go.AE.Y

namespace Go.AE.Y
attribute [local go_sem] cond_true cond_false Bool.not_true Bool.not_false
open Go.Proofs.Tryz
variable {H:Heap}{K:V→Heap→Prop}
theorem Qast {b:Bool}(hK:K (.c (.int .i64 (trI (b=true)))) H):Ql prog Qiu [.c (.bool b)] H K:=by
 refine Qc Qah Qapq ?_
 refine Qa ?_
 simp only[go_sem]
 refine Qu ?_
 refine Qa ?_
 simp only[go_sem]
 refine Qe (Qb rfl ?_ ?_)
 ·intro hc
  subst hc
  refine Qa ?_
  simp only[go_sem]
  refine Qg ?_
  simp only[go_sem,Qq,Qz,Qic,List.mem_singleton,forall_eq,RS.op]
  exact hK
 ·intro hc
  subst hc
  refine Qd ?_
  try simp only[go_sem]
  refine Qa ?_
  simp only[go_sem]
  refine Qg ?_
  simp only[go_sem,Qq,Qz,Qic,List.mem_singleton,forall_eq,RS.op]
  exact hK
theorem Qass {p:Prop} [Decidable p]:trI (decide p=true)=trI p:=by simp[trI]
def arP (op a b:Int):Int×Bool:=match arR op a b with
 |some v=>(v,true)
 |none=>(0,false)
theorem Qaaa {a b:Int}(h:0≤a):a.tmod b=a % b:=Int.tmod_eq_emod_of_nonneg h
theorem Qa35 {a b:Int}(h:0≤a):a.tdiv b=a / b:=Int.tdiv_eq_ediv_of_nonneg h
theorem Qbgv {op a b:Int}(ha:byI a)(hb:byI b)(h3:3≤op)(h9:op≤9)(hK:K (.tup [.c (.int .i64 (arP op a b).1),.c (.bool (arP op a b).2)]) H) :
  Ql prog Qh6 [.c (.int .i64 op),.c (.int .i64 a),.c (.int .i64 b)] H K:=by
 obtain⟨a0,a1⟩:=ha
 obtain⟨b0,b1⟩:=hb
 refine Qc Qah Q5r ?_
 have retf:∀(v:Int) (t:Bool) (e:Env),arP op a b=(v,t)→lk 6 e=.c (.int .i64 v)→lk 7 e=.c (.bool t)→Qq Ql6 K .ret e H:=by
  intro v t e h1 h2 h3
  simp only[go_sem,Qq,Qz,Ql6,RS.op,h2,h3]
  rw[h1]at hK
  exact hK
 refine Qa ?_
 simp only[go_sem]
 refine Qa ?_
 simp only[go_sem]
 refine Qu ?_
 refine Qa ?_
 simp only[go_sem]
 refine Qe (Qf ?_)
 refine Qa ?_
 simp only[go_sem]
 refine Qb rfl ?_ ?_
 ·intro hc
  have ho:op=3:=of_decide_eq_true hc
  subst ho
  refine Qa ?_
  simp only[go_sem]
  refine⟨Qr (by omega) (by omega),by omega,?_⟩
  refine Qg ?_
  simp only[go_sem]
  refine retf _ _ _ ?_ rfl rfl
  rw[Qaaa (by omega)];rfl
 intro hc
 have n3:=of_decide_eq_false hc
 refine Qa ?_
 simp only[go_sem]
 refine Qb rfl ?_ ?_
 ·intro hc
  have ho:op=4:=of_decide_eq_true hc
  subst ho
  refine Qa ?_
  simp only[go_sem]
  refine⟨Qr (by omega) (by omega),Qr (by omega) (by omega),by omega,?_⟩
  refine Qg ?_
  simp only[go_sem]
  refine retf _ _ _ ?_ rfl rfl
  rw[Qaaa (by omega)];rfl
 intro hc
 have n4:=of_decide_eq_false hc
 refine Qa ?_
 simp only[go_sem]
 refine Qb rfl ?_ ?_
 ·intro hc
  have ho:op=5:=of_decide_eq_true hc
  subst ho
  have hab:0≤a * b:=Int.mul_nonneg a0 b0
  have hab2:a * b≤255 * 255:=Int.mul_le_mul a1 b1 b0 (by omega)
  refine Qa ?_
  simp only[go_sem]
  refine⟨Qr (by omega) (by omega),by omega,?_⟩
  refine Qg ?_
  simp only[go_sem]
  refine retf _ _ _ ?_ rfl rfl
  rw[Qaaa hab];rfl
 intro hc
 have n5:=of_decide_eq_false hc
 refine Qu ?_
 refine Qa ?_
 simp only[go_sem]
 have h67:∀(t:Bool),(t=decide (op=6∨op=7))→Qae prog Q3t (X.inBlock 0 (X.sq prog Q3u (Qq Ql6 K))) [(0,.c (.int .i64 op)),(1,.c (.int .i64 a)),(2,.c (.int .i64 b)),(8,.c (.fn Qiu [])),(9,.c (.int .i64 op)),(29,.c (.bool t))] H:=by
  intro t ht
  refine Qb rfl ?_ ?_
  ·intro h
   have h67:op=6∨op=7:=by rw[ht]at h;exact of_decide_eq_true h
   refine Qu ?_
   refine Qa ?_
   simp only[go_sem]
   refine Qe (Qb rfl ?_ ?_)
   ·intro hc
    have hb:b=0:=of_decide_eq_true hc
    subst hb
    refine Qa ?_
    simp only[go_sem]
    refine Qg ?_
    simp only[go_sem]
    refine retf _ _ _ ?_ rfl rfl
    rcases h67 with rfl|rfl <;> rfl
   intro hc
   have hb:¬b=0:=of_decide_eq_false hc
   refine Qd ?_
   try simp only[go_sem]
   refine Qu ?_
   refine Qa ?_
   simp only[go_sem]
   refine Qe (Qb rfl ?_ ?_)
   ·intro hc
    have ho:op=6:=of_decide_eq_true hc
    subst ho
    have hd1:0≤a / b:=Int.ediv_nonneg a0 b0
    have hd2:a / b≤a:=Int.ediv_le_self _ a0
    refine Qa ?_
    simp only[go_sem]
    refine⟨⟨hb,by rw[Qa35 a0];exact Qr (by omega) (by omega)⟩,?_⟩
    refine Qg ?_
    simp only[go_sem]
    refine retf _ _ _ ?_ rfl rfl
    rw[Qa35 a0,arP,arR];simp[hb]
   ·intro hc
    have ho:op=7:=by have:=of_decide_eq_false hc;omega
    subst ho
    refine Qd ?_
    try simp only[go_sem]
    refine Qa ?_
    simp only[go_sem]
    refine⟨hb,?_⟩
    refine Qg ?_
    simp only[go_sem]
    refine retf _ _ _ ?_ rfl rfl
    rw[Qaaa a0,arP,arR];simp[hb]
  ·intro h
   have h67:¬(op=6∨op=7):=by rw[ht]at h;exact of_decide_eq_false h
   refine Qa ?_
   simp only[go_sem]
   refine Qb rfl ?_ ?_
   ·intro hc
    have ho:op=8:=of_decide_eq_true hc
    subst ho
    refine Qa ?_
    simp only[go_sem]
    refine Qast ?_
    rw[Qass]
    simp only[go_sem,Q3v]
    refine Qg ?_
    simp only[go_sem]
    exact retf _ _ _ rfl rfl rfl
   intro hc
   have n8:=of_decide_eq_false hc
   have ho:op=9:=by omega
   subst ho
   refine Qa ?_
   simp only[go_sem]
   refine Qb rfl ?_ (fun h=>by simp at h)
   intro _
   refine Qa ?_
   simp only[go_sem]
   refine Qast ?_
   rw[Qass]
   simp only[go_sem,Q3w]
   refine Qg ?_
   simp only[go_sem]
   exact retf _ _ _ rfl rfl rfl
 refine Qe (Qb rfl ?_ ?_)
 ·intro hc
  have ho:op=6:=of_decide_eq_true hc
  refine Qd ?_
  simp only[go_sem]
  exact h67 _ (by rw[hc];simp[ho])
 ·intro hc
  have n6:=of_decide_eq_false hc
  refine Qp ?_
  simp only[go_sem]
  exact h67 _ (by simp[n6])
end Go.AE.Y

