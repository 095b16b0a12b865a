/- Part 7 of the proof: the engine, codes, walks and plain laws, each named where it stands. -/
import Derived.Test.YtklkchlmmdjpaaaGreatZF
import Derived.Below
import Derived.OpenShut
import Derived.ProofKit
open Nat (reduceEqDiff reduceAdd reduceLeDiff reduceLT)
set_option linter.unusedVariables false
set_option linter.unusedSimpArgs false
set_option maxRecDepth 4000
open Bool renaming and_eq_true->Jt
open Classical renaming byContradiction->Jy
open Int renaming eq_ofNat_of_zero_le->Jn
open List renaming getElem_mem->Ja,drop_zero->Jb,mem_map->Jc,getD_eq_getElem?_getD->Je,take_of_length_le->Jg,mem_singleton->Jh,length_map->Ji,mem_or_eq_of_mem_set->Jj,take_succ_eq_append_getElem->Jk,getElem?_eq_none->Jl,mem_append->Jm,mem_append_right->Jo,set_cons_zero->Jp,append_assoc->Jr,map_set->Js,cons_append->Ju,mem_flatMap->Jv,map_append->Jw,nil_append->Jx,mem_range->Jz
open Nat renaming zero_add->Jd,le_refl->Jf,eq_zero_or_pos->Jq,lt_or_ge->J0
open Option.some renaming injEq->J1
namespace Go.AE.Y
attribute [local go_sem] cond_true cond_false Bool.not_true Bool.not_false
attribute [local instance] Classical.propDecidable
open Go.Proofs.Tryz
variable {H H0 F:Heap}{S:Nat->Bool}{K:V->Heap->Prop}{E B L M Lg X cl:List (Nat×Obj)}{q:CodeD}{cs:List CodeD}
theorem OCode.frzD (x:OCode)(ay:x.ok)(h:Held H S x.lg):FrzL H S x.row x.d.cells:=
 .cons (Qi rfl) (.cons (Qi rfl) (.cons (Gr.frzM ay.b h.r (FX (f:=OBlk.row) (g:=BlkD.cells) (d:=OBlk.d) x.blocks λb hb=>b.frzD (ay.bs b hb) (h.l.m hb))) .nil))
theorem OCodes.frzD {us:List OCode}{cc:C}{cl:List (Nat×Obj)}(hg:Gr cl 3 (us.map OCode.row) cc)(hu:∀u∈us,u.ok)(h:Held H S (us.flatMap OCode.lg++cl)) :
  FrzC H S cc (.sl false 3 (Qw (us.map OCode.d))):=
 Gr.frzM hg h.r (FX (f:=OCode.row) (g:=CodeD.cells) (d:=OCode.d) us λu dx=>u.frzD (hu u dx) (h.l.m dx))
theorem Kn.startL (k:Kn H0 F [] L):Kn F F L []:=.startE (λp hp=>k.get p ZaI) k.dL
theorem Kn.compL {L':List (Nat×Obj)}(k1:Kn H0 F [] L)(k2:Kn F H L' M)(hL:L'.map Prod.fst=L.map Prod.fst):Kn H0 H [] (L'++M):=by
 have hm:∀m,m∈L'.map Prod.fst->H0 m=.none:=λm h=>by
  rw[hL]at h;obtain⟨p,hp,rfl⟩:=Jc.1 h;exact k1.loc p hp
 have hM:∀p∈M,H0 p.1=.none:=λp hp=>by
  refine Jy λhn=>?_;have:=k1.chg p.1 hn ZF;rw[k2.loc p hp]at this;exact hn this.symm
 refine⟨λp hp=>k2.get p ZaI,ZF,λp hp=>?_,ZF,?_,λm h1 _=>?_⟩
 ·rcases Jm.1 hp with h|h
  ·exact hm _ (Jc.2 ⟨p,h,rfl⟩)
  ·exact hM p h
 ·rw[Jw,List.nodup_append];refine⟨k2.dE,k2.dL,λa ha b hb df=>?_⟩;obtain⟨p,hp,rfl⟩:=Jc.1 ha;obtain⟨r,hr,rfl⟩:=Jc.1 hb;have:=k2.ext p hp;rw[df]at this;exact this (k2.loc r hr)
 ·have h2:=k1.chg m h1 ZF;have h3:=k2.chg m (by rw[h2];exact h1) (λh=>h1 (hm m h));rw[h3,h2]
set_option maxHeartbeats 2000000 in
theorem Qaz7 {cs:List CodeD}{fl:Bool}(hs:∀c∈cs,c.sg)(hl:cs.length<=1000000)
  (hK:∀(us:List OCode) (cc:C) (cl:List (Nat×Obj)) (H':Heap),Kn H H' [] (us.flatMap OCode.lg++cl)->Gr cl 3 (us.map OCode.row) cc->(∀u∈us,u.ok)->us.map OCode.d=cs->K (.ag [cc]) H') :
  Qv prog Hr [.ag [.sl fl 3 (Qw cs)]] H K:=by
 refine CX ?_;refine Qc Ab Q8s ?_;refine Za ?_;intro x2 aW H1 h1;have kn:=(Kn.ar H).al aW h1;refine Za ?_;intro x3 aF H2 h2;have kn:=kn.al aF h2;have ge:=kn.l 1 rfl;simp only[go_sem,SH,ge];intro H3 h3;have kn:=kn.aB 1 rfl h3;refine Wa ?_;refine Qg (Qd (Qs (λn e1 H1=>∃(i:Nat) (os:List OCode) (bc:C) (bl:List (Nat×Obj)),n=cs.length-i/\i<=cs.length/\os.map OCode.d=cs.take i/\(∀o∈os,o.ok)/\Gr bl 3 (os.map OCode.row) bc/\
  Kn H H1 [] (([(x2,.st [.sl true 3 []]),(x3,.st [bc])]++os.flatMap OCode.lg)++bl)/\
  e1=[(1,.c (.pp [.sl fl 3 (Qw cs)])),(2,.c (.ptr x2 0)),(3,.c (.ptr x3 0)),(4,.c (.int .i64 i))]) cs.length ?_ ?_))
 ·exact⟨0,[],_,[],ZD,ZD,rfl,ZF,.nil 3,ZO,rfl⟩
 ·rintro n e1 H1 ⟨i,os,bc,bl,dz,hi,eZ,ay,aq,kn,rfl⟩;have dJ:os.length=i:=by have:=congrArg List.length eZ;rw[Ji,List.length_take]at this;omega
  have cw:=aq.ai;have dP:=kn.l 1 rfl;refine Q3 (Qa ?_);simp only[go_sem,Q6];intro _;refine Wv ?_ ?_
  ·intro hc;have ae:i<cs.length:=ZG
   refine Wo ?_;simp only[go_sem,dP,cw,ae,Q6,Bd _ _ ae,CodeD.take3,CodeD.bt,CodeD.len3];refine DI (hs _ (Ja ae)) λo H4 k2 fT vm _=>?_;have kn:=kn.comp0 k2;have i8:=kn.l 1 rfl;simp only[go_sem,SF,i8,cw,o.len3];have kn:=kn.perm BI;refine kn.grow (new:=[o.row]) aq (.mk' _ _ _ _) (by intro r hr;simp only[Jh]at hr;subst hr;exact o.an fT) (by simp only[Ji,List.length_cons,List.length_nil,LIM];omega) λz H5 kn=>?_;have kn:Kn H H5 [] (([(x2,.st [.sl true 3 []]),(x3,.st [bc])]++(os++[o]).flatMap OCode.lg)++[(z,.vec 3 ((os++[o]).map OCode.row))]):=by
    simpa[List.flatMap_append,Jr]using kn
   have gc:=kn.l 1 rfl;simp only[go_sem,SG,gc];intro H6 h6;have kn:=kn.aB 1 rfl h6;refine Zg ?_;refine⟨Qo,cs.length-(i+1),ZD,i+1,os++[o],_,_,rfl,ZD,by rw[Jw,eZ,Jk ae,List.map_cons,List.map_nil,vm],λo' eQ=>?_,.mk _ _ _ ZF,kn,rfl⟩;rcases Jm.1 eQ with h|h
   ·exact ay o' h
   ·simp at h;subst h;exact fT
  ·intro hc;have aY:cs.length<=i:=ZG
   have gf:=kn.l 0 rfl;refine Zb ?_;refine Zo dP gf cw ?_;intro H4 h4;have kn:=kn.aB 0 rfl h4;have i9:=kn.l 0 rfl;refine Qk ?_;simp only[go_sem,Q4,Aa,Jh,forall_eq,RS.op,i9,cw];have kn:Kn H H4 [] ([(x2,.st [bc]),(x3,.st [bc])]++(os.flatMap OCode.lg++bl)):=by
    simpa[Jr]using kn
   exact⟨unx H _,.ag [bc],H4.frz (unx H _),FrzL.ag (.cons (.same _ cw) .nil),CL _ _,hK os bc bl _ kn.finK aq ay (by rw[eZ,Jg aY])⟩
theorem YZ {us:List OCode}{ci bi yb:Nat}{u:OCode}{b':OBlk}{cc:C}(hc:ci<us.length)(hu:us[ci]=u)(hb:bi<u.blocks.length)
  (bG:u.bl=[(yb,.vec 5 (u.blocks.map OBlk.row))]) (ay:∀u∈us,u.ok/\u.d.gd) (kK:b'.ok) (js:b'.d.sg/\b'.d.next.length<=2) (hg:Gr cl 3 (us.map OCode.row) cc)
  (kn:Kn H0 H E ([(yb,.vec 5 ((u.blocks.set bi b').map OBlk.row))]++(b'.lg++(Cm us ci bi hc++(X++cl))))) :
  ∃us':List OCode,us'.length=us.length/\Gr cl 3 (us'.map OCode.row) cc/\(∀u∈us',u.ok/\u.d.gd)/\Kn H0 H E (X++us'.flatMap OCode.lg++cl):=by
 obtain⟨h1,h2⟩:=ay _ (Ja hc);rw[hu]at h1 h2;refine⟨us.set ci (u.put bi b' [(yb,.vec 5 ((u.blocks.set bi b').map OBlk.row))]),ZF,?_,λv hv=>?_,kn.perm (Qt λf hf h0 bF hp=>?_)⟩
 ·rw[Ie us ci hc _ (by rw[hu];rfl)];exact hg
 ·rcases Jj hv with hv|rfl
  ·exact ay v hv
  ·refine⟨OCode.put_ok h1 kK bG,?_⟩;have bz:∀d∈(u.put bi b' [(yb,.vec 5 ((u.blocks.set bi b').map OBlk.row))]).d.blocks,d=b'.d\/d∈u.d.blocks:=λd hd=>by
    obtain⟨b,hb,rfl⟩:=Jc.1 hd;rcases Jj hb with hb|rfl
    ·exact .inr (Jc.2 ⟨b,hb,rfl⟩)
    ·exact .inl rfl
   have nG:(u.put bi b' [(yb,.vec 5 ((u.blocks.set bi b').map OBlk.row))]).d.blocks.length=u.d.blocks.length:=by simp[OCode.d,OCode.put]
   refine⟨by rw[nG];exact h2.b0,by rw[nG];exact h2.b1,λd hd=>?_,λd hd=>?_,by rw[nG];exact h2.s.b,λd hd=>?_⟩
   ·rcases bz d hd with rfl|h
    ·exact js.2
    ·exact h2.n d h
   ·rcases bz d hd with rfl|h
    ·have h3:=js.1.i;have h4:=js.1.p;omega
    ·exact h2.f d h
   ·rcases bz d hd with rfl|h
    ·exact js.1
    ·exact h2.s.bs d h
 ·subst hu;have h1:=hp _ _ (If us ci bi hc hb b' [(yb,.vec 5 ((us[ci].blocks.set bi b').map OBlk.row))]);simp only[hf]at h1⊢;omega
set_option maxHeartbeats 8000000 in
theorem Qang {fl:Bool}{bs:List UInt8}(hK:∀(cs:List CodeD) H',Upd H H' []->UnitOk cs->K (.ag [.sl false 3 (Qw cs)]) H') :
  Qv prog Tu [.c (.sl fl 1 (Bb bs))] H K:=by
 refine Q0 ?_;refine Qc Ab Q6l ?_;refine Za ?_;intro x2 aW H1 h1;have kn1:=(Kn.ar H).al aW h1;refine Za ?_;refine Qbnc λR H2 hR h2=>?_;have kn1:Kn H H2 [] [(x2,.st [.sl true 3 []]),(R.l,R.o 0)]:=kn1.al hR h2 (R.aj 0);simp only[go_sem,Qg7];have kn:=Kn.startL kn1;refine Za ?_;refine Qbm6 (kn.e 1 rfl) ZD λcs H3 k1 gr dK hu ay=>?_;have kn:=kn.am 1 rfl hu (R.aj _);simp only[go_sem,Qha];have j9:=ay.1;have hcs4:=ay.2.1;refine Qaz7 (λc hc=>(ay.2.2 c hc).s) ZD λus cc cl H4 k2 aq uz xN=>?_;have kn:=kn.comp0 k2;have b9:=aq.ai;have me:us.length=cs.length:=by rw[<-xN,Ji]
 have gg:∀u∈us,u.ok/\u.d.gd:=λu hu=>⟨uz u hu,ay.2.2 _ (by rw[<-xN];exact Jc.2 ⟨u,hu,rfl⟩)⟩;simp only[go_sem,Qg9];intro x4 bO H5 h5;have kn:=kn.al bO h5;have kn:=kn.perm List.perm_append_comm;have bO:=kn.l 0 rfl;simp only[go_sem,Qg8,bO];intro H6 h6;have kn:=kn.aB 0 rfl h6;have kn:Kn H2 H6 [(x2,.st [.sl true 3 []]),(R.l,R.o k1)] (([(x4,.st [cc])]++us.flatMap OCode.lg)++cl):=kn.perm (Qt λf hf h0 bF hp=>by
  simp only[Ju,Jx,Jp,hf,bF _ (_::_),bF _ (_++_)])
 have bO:=kn.l 0 rfl;have hs:=aq.slc kn;have aE:=eq_true hs.ok;have ak:=hs.len;have bj:=hs.sz;rw[Ji]at ak;obtain⟨ci,hci0⟩:∃ci,us.length-1=ci:=⟨_,rfl⟩;have cn:ci<us.length:=ZD
 have e1:((us.length:Int)-1)=(ci:Int):=ZD
 refine Qa ?_;simp only[go_sem,bO,b9,aE,ak,bj,e1,cn];intro _;refine⟨Qo,?_⟩;have fin:∀(us':List OCode) (H':Heap) (e':Env) (k':Nat),us'.length=us.length->Gr cl 3 (us'.map OCode.row) cc->(∀u∈us',u.ok/\u.d.gd)->Kn H2 H' [(x2,.st [.sl true 3 []]),(R.l,R.o k')] (([(x4,.st [cc])]++us'.flatMap OCode.lg)++cl)->
   lk 2 e'=.c (.ptr x2 0)->lk 4 e'=.c (.ptr x4 0)->Ad prog TA (Q4 PP (unK H K)) e' H':=by
  clear kn bO hs aE;intro us' H' e' k' cZ aq gg kn l2 l4;have aW:=kn.e 0 rfl;have bO:=kn.l 0 rfl;refine Qa ?_;simp only[go_sem,aW,bO,b9,l2,l4];intro H8 h8;have kn:=kn.stE 0 rfl h8;have kn:Kn H H8 [] ([(x2,.st [cc]),(R.l,R.o k')]++(([(x4,.st [cc])]++us'.flatMap OCode.lg)++cl)):=Kn.compL kn1 kn rfl;have aW:=kn.l 0 rfl;refine Qk ?_;simp only[go_sem,Q4,Aa,Jh,forall_eq,RS.op,aW,b9];have fv:Held H8 (un H) (us'.flatMap OCode.lg++cl):=λp hp=>by
   have ej:p∈([(x2,Obj.st [cc]),(R.l,R.o k')]++(([(x4,Obj.st [cc])]++us'.flatMap OCode.lg)++cl)):=by
    rcases Jm.1 hp with h|h
    ·simp[h]
    ·simp[h]
   exact⟨(kn.get p (Jo _ ej)).1,BE (kn.loc p ej)⟩
  have hf:=OCodes.frzD aq (λu hu=>(gg u hu).1) fv;exact⟨_,FrzL.ag (.cons hf .nil),hK (us'.map OCode.d) _ kn.fin ⟨by rw[Ji];omega,by rw[Ji];omega,λc hc=>by
   obtain⟨u,hu,rfl⟩:=Jc.1 hc;exact (gg u hu).2⟩⟩
 obtain⟨u,hu⟩:∃u,us[ci]=u:=⟨_,rfl⟩;obtain⟨dh,kw⟩:=gg _ (Ja cn);rw[hu]at dh kw;have a8:(us.map OCode.row).getD ci []=[.int .i64 u.params,.int .i64 u.ab,u.bc]:=by rw[<-hu];simp[Je,cn,OCode.row]
 have kx:0<u.blocks.length:=by simpa[OCode.d]using kw.b0
 have qQ:u.blocks.length<=160:=by simpa[OCode.d]using kw.b1
 obtain⟨yb,db,bG⟩:=OCode.bvec dh kx;have fW:(C.ah yb 5 0 u.blocks.length).ai=false:=rfl;have hD:ax (C.ah yb 5 0 u.blocks.length)=u.blocks.length:=rfl;rw[db]at a8;have jl:(yb,Obj.vec 5 (u.blocks.map OBlk.row))∈(([(x4,Obj.st [cc])]++us.flatMap OCode.lg)++cl):=by
  have:(yb,Obj.vec 5 (u.blocks.map OBlk.row))∈us.flatMap OCode.lg:=Jv.2 ⟨u,by rw[<-hu];exact Ja cn,Jo _ (by rw[bG];simp)⟩;simp[this]
 have cd:=kn.lm jl;have ce:=hs.rows;have bI:(u.blocks.map OBlk.row).length=u.blocks.length:=ZF
 have b8:List.take u.blocks.length (u.blocks.map OBlk.row)=u.blocks.map OBlk.row:=Jg ZF;refine Aj ?_;simp only[go_sem,aE,ak,bj,cn,ce,a8,cd,bI,Jd,Jf];refine Au (kn.e 1 rfl) ZD λv H7 hv u6=>?_;have kn:=kn.am 1 rfl u6 (R.aj _);rw[if_neg ZD]at hv;obtain⟨bi,rfl⟩:=Jn hv.1;have bA:bi<u.blocks.length:=ZD
 have hs:=aq.slc kn;have aE:=eq_true hs.ok;have ce:=hs.rows;have cd:=kn.lm jl;simp only[go_sem,Qhb,aE,ak,bj,cn,ce,a8,cd,bI,bA,Jd,Jf];refine Wa ?_;refine Au (kn.e 1 rfl) ZD λkd H8 _ u5=>?_;have kn:Kn H2 H8 [(x2,.st [.sl true 3 []]),(R.l,R.o (k1+1+1))] (([(x4,.st [cc])]++us.flatMap OCode.lg)++cl):=kn.am 1 rfl u5 (R.aj _);obtain⟨blk,cH⟩:∃blk,u.blocks[bi]=blk:=⟨_,rfl⟩;have bn:=dh.bs _ (Ja bA);rw[cH]at bn;have du:(u.blocks.map OBlk.row).getD bi []=[blk.pc,blk.ic,.int .i64 blk.jump,.int .i64 blk.on,.ah blk.nx.y 1 0 blk.nx.ns.length]:=by rw[<-cH];simp[Je,bA,OBlk.row,OInts.c]
 have cA:=bn.i.ai;have dM:ax blk.ic=blk.ins.length:=by rw[bn.i.ax];simp
 have knB:=KU kn cn hu bA cH bG;have fL:aZ H8 blk.ic=True:=eq_true (bn.i.slcM knB (λp hp=>by simp[OBlk.lg,hp])).ok;have hs:=aq.slc kn;have aE:=eq_true hs.ok;have ce:=hs.rows;have cd:=kn.lm jl;by_cases iP:kd=0
 rotate_left
 ·have lh:decide (kd=0)=false:=decide_eq_false iP;simp only[go_sem,PU,lh,aE,ak,bj,cn,ce,a8,cd,bI,b8,bA,du,cA,dM,fL,Jb,Jd,Jf];refine Qg (Qf rfl (λh=>by cases h) (λ_=>?_));refine Zr ?_;exact fin us _ _ _ rfl aq gg kn ZE ZE
 have lh:decide (kd=0)=true:=decide_eq_true iP;by_cases bY:0<blk.ins.length
 rotate_left
 ·have bT:decide ((0:Int)<(blk.ins.length:Int))=false:=decide_eq_false ZD;simp only[go_sem,PU,lh,bT,aE,ak,bj,cn,ce,a8,cd,bI,b8,bA,du,cA,dM,fL,Jb,Jd,Jf];try intro _
  refine Qg (Qf rfl (λh=>by cases h) (λ_=>?_));refine Zr ?_;exact fin us _ _ _ rfl aq gg kn ZE ZE
 have bT:decide ((0:Int)<(blk.ins.length:Int))=true:=decide_eq_true ZD;simp only[go_sem,PU,lh,bT,aE,ak,bj,cn,ce,a8,cd,bI,b8,bA,du,cA,dM,fL,Jb,Jd,Jf];try intro _
 refine Wv ?_ ?_
 rotate_left
 ·intro _;refine Zr ?_;exact fin us _ _ _ rfl aq gg kn ZE ZE
 intro gR;have gR:0<u.ab:=by simpa using gR
 obtain⟨yi,fM,ck⟩:=OBlk.ivec bn bY;rw[fM]at du;have knI:=D8 knB ck;have cU:=knI.l 0 rfl;have dU:(blk.ins.map OIns.row).length=blk.ins.length:=ZF
 refine Aj ?_;simp only[go_sem,cd,bI,b8,bA,du,BB,Jb,Jd,Jf,cU,dU];refine Au (knI.e 1 rfl) ZD λw H9 hw qg=>?_;have knI:=knI.am 1 rfl qg (R.aj _);rw[if_neg ZD]at hw;obtain⟨ii,rfl⟩:=Jn hw.1;have gI:ii<blk.ins.length:=ZD
 have cU:=knI.l 0 rfl;have cd:=knI.l 1 rfl;simp only[go_sem,Qhc,cd,bI,b8,bA,du,BB,cU,dU,gI,Jb,Jd,Jf];obtain⟨x,hx⟩:∃x,blk.ins[ii]=x:=⟨_,rfl⟩;have jo:(blk.ins.map OIns.row).getD ii []=[.int .i64 x.op,.int .i64 x.to,.ah x.a.y 1 0 x.a.ns.length,.int .i64 x.n]:=by rw[<-hx];simp[Je,gI,OIns.row,OInts.c]
 have fC:List.take blk.ins.length (blk.ins.map OIns.row)=blk.ins.map OIns.row:=Jg ZF;have jC:blk.d.sg:=kw.s.bs _ (Jc.2 ⟨blk,by rw[<-cH];exact Ja bA,rfl⟩);have wH:blk.d.next.length<=2:=kw.n _ (Jc.2 ⟨blk,by rw[<-cH];exact Ja bA,rfl⟩);have hxsg:x.a.ns.length<=1000000:=jC.ia x.d (Jc.2 ⟨x,by rw[<-hx];exact Ja gI,rfl⟩);have wz:∀(x':OIns) (H':Heap) (e':Env) (k':Nat),x'.a.ns.length=x.a.ns.length->
   Kn H2 H' [(x2,.st [.sl true 3 []]),(R.l,R.o k')] ([(yb,.vec 5 (u.blocks.map OBlk.row))]++(OBlk.lg { blk with ins:=blk.ins.set ii x',il:=[(yi,.vec 4 ((blk.ins.set ii x').map OIns.row))] }++(Cm us ci bi cn++([(x4,.st [cc])]++cl))))->
   lk 2 e'=.c (.ptr x2 0)->lk 4 e'=.c (.ptr x4 0)->Ad prog TA (Q4 PP (unK H K)) e' H':=by
  intro x' H' e' k' dv kn l2 l4;have hrs:(u.blocks.set bi { blk with ins:=blk.ins.set ii x',il:=[(yi,.vec 4 ((blk.ins.set ii x').map OIns.row))] }).map OBlk.row=u.blocks.map OBlk.row:=OS bA Zbk;rw[<-hrs]at kn;obtain⟨us',g1,g2,g3,g4⟩:=YZ cn hu bA bG gg (OBlk.ins_ok bn fM) ⟨⟨jC.n,by simpa[OBlk.d]using jC.i,jC.p,λy hy=>by
   obtain⟨z,hz,rfl⟩:=Jc.1 hy;rcases Jj hz with hz|rfl
   ·exact jC.ia z.d (Jc.2 ⟨z,hz,rfl⟩)
   ·show z.a.ns.length<=_;omega,jC.pa⟩,wH⟩ aq kn
  exact fin us' _ _ _ g1 g2 g3 g4 l2 l4
 have knA:Kn H2 H9 [(x2,.st [.sl true 3 []]),(R.l,R.o (k1+1+1+1))] ([(x.a.y,.vec 1 (Qb x.a.ns))]++([(yi,.vec 4 (blk.ins.map OIns.row))]++([(yb,.vec 5 (u.blocks.map OBlk.row))]++(blk.nx.lg++(blk.aa.flatMap OPhi.lg++(blk.pl++((blk.ins.eraseIdx ii).flatMap OIns.lg++(Cm us ci bi cn++([(x4,Obj.st [cc])]++cl))))))))):=knI.perm (Qt λf hf h0 bF hp=>by
  have h1:=hp _ _ (Cr OIns.lg blk.ins ii gI);rw[hx]at h1;have h2:x.lg=[(x.a.y,.vec 1 (Qb x.a.ns))]:=rfl;rw[h2]at h1;simp only[hf]at h1⊢;omega)
 have ka:=knA.l 0 rfl;have oC:List.take x.a.ns.length (Qb x.a.ns)=Qb x.a.ns:=Jg (by simp[Qe]);have qX:=aq.slcM knI (λp hp=>Za2);have aE:=eq_true qX.ok;have ce:=qX.rows;refine Qa ?_;simp only[go_sem,cd,bI,b8,bA,du,BB,cU,dU,fC,gI,jo,ka,oC,Qe,Jb,Jd,Jf];try intro _
 refine Ww ?_ ?_
 ·intro hc;have nT:0<x.a.ns.length:=ZG
  refine Aw ?_;simp only[go_sem,aE,ak,bj,cn,ce,a8,cd,bI,b8,bA,du,BB,cU,dU,fC,gI,jo,Jb,Jd,Jf];refine Au (knI.e 1 rfl) ZD λv H10 _ fh=>?_;have knA:=knA.am 1 rfl fh (R.aj _);have ka:=knA.l 0 rfl;have cU:=knA.l 1 rfl;have cd:=knA.l 2 rfl;simp only[go_sem,Qhd,cd,bI,b8,bA,du,BB,cU,dU,fC,gI,jo,ka,nT,Qe,Jb,Jd,Jf];refine⟨ZD,λH11 dG=>?_⟩;have di:(Qb x.a.ns).set 0 (C.int IntKind.i64 v::List.drop 1 ((Qb x.a.ns).getD 0 []))=Qb (x.a.ns.set 0 v):=by
   rw[Qn _ _ nT];simp[Qb,Js]
  rw[di]at dG;have knA:=knA.aB 0 rfl dG;obtain⟨x',dv⟩:∃x':OIns,x'={ x with a:=⟨x.a.ns.set 0 v,x.a.y⟩ }:=⟨_,rfl⟩;have d9:x'.a.ns.length=x.a.ns.length:=by rw[dv];simp
  have cZ:x'.lg=[(x.a.y,.vec 1 (Qb (x.a.ns.set 0 v)))]:=by rw[dv];rfl
  have hir:(blk.ins.set ii x').map OIns.row=blk.ins.map OIns.row:=by
   rw[Js];refine List.ext_getElem ZF λi h1 h2=>?_;rw[List.getElem_set];split
   ·rename_i h;subst h;simp only[List.getElem_map,hx];rw[dv];simp[OIns.row,OInts.c]
   ·rfl
  refine wz x' H11 _ (k1+1+1+1+1) d9 ?_ ZE ZE;rw[hir];refine knA.perm (Qt λf hf h0 bF hp=>?_);have h1:=hp _ _ (C1 OIns.lg blk.ins ii x' gI);rw[cZ]at h1;simp only[OBlk.lg,Ju,Jx,Jp,List.set_cons_succ,hf,bF _ (_::_),bF _ (_++_),bF _ (List.flatMap _ _)]at h1⊢;omega
 ·intro hc;refine Qa ?_;simp only[go_sem,cd,bI,b8,bA,du,BB,cU,dU,fC,gI,jo,Jb,Jd,Jf];refine Ww ?_ ?_
  ·intro _;refine Qp ?_;simp only[go_sem,aE,ak,bj,cn,ce,a8,cd,bI,b8,bA,du,BB,cU,dU,fC,gI,jo,Jb,Jd,Jf];refine Au (knI.e 1 rfl) ZD λv H10 _ fh=>?_;have knI:=knI.am 1 rfl fh (R.aj _);have cU:=knI.l 0 rfl;have cd:=knI.l 1 rfl;simp only[go_sem,Qhe,cd,bI,b8,bA,du,BB,cU,dU,fC,gI,jo,Jb,Jd,Jf];intro H11 dG;have bh:[C.int IntKind.i64 x.op,C.int IntKind.i64 v,C.ah x.a.y 1 0 x.a.ns.length,C.int IntKind.i64 x.n]=({ x with to:=v }:OIns).row:=rfl;rw[bh,<-Js]at dG;have knD:=FP (b:=blk) (is:=blk.ins.set ii { x with to:=v }) (knI.aB 0 rfl dG) (R9 gI (by rw[hx];rfl));exact wz { x with to:=v } H11 _ _ rfl knD ZE ZE
  ·intro _;refine Zr ?_;exact fin us _ _ _ rfl aq gg ((kn.am 1 rfl qg (R.aj _))) ZE ZE
theorem Qblx {f:Bool}{ns:List Nat}{n:Int}(hK:K (.c (.bool (decide (∃x∈ns,n<=(x:Int))))) H) :
  Qv prog S7 [.c (.sl f 1 (Q7 ns)),.c (.int .i64 n)] H K:=by
 have retf:∀(v:Bool) (e:Env) (H':Heap),(v=true↔∃x∈ns,n<=(x:Int))->H'=H->lk 4 e=.c (.bool v)->Q4 RZ K .ret e H':=by
  rintro v e H' hv rfl h3;simp only[go_sem,Q4,Aa,Jh,forall_eq,RS.op,h3];rw[show v=decide (∃x∈ns,n<=(x:Int))by rw[Bool.eq_iff_iff,hv];simp];exact hK
 refine Qc Ab Qaux ?_;refine Wg ?_;simp only[go_sem,Q1];intro hl;simp only[LIM]at hl;refine Qg (Qd (Qs (λm e1 H1=>∃(i:Nat),m=ns.length-i/\i<=ns.length/\H1=H/\(∀x∈ns.take i,¬n<=(x:Int))/\e1=[(1,.c (.int .i64 n)),(7,.c (.sl f 1 (Q7 ns))),(8,.c (.int .i64 ns.length)),(9,.c (.int .i64 i))]) ns.length ?_ ?_))
 ·exact⟨0,ZD,ZD,rfl,ZF,rfl⟩
 ·rintro m e1 H1 ⟨i,hm,hi,rfl,bR,rfl⟩;refine Za ?_;refine Wv ?_ ?_
  ·intro hc;have ae:i<ns.length:=ZG
   refine Wq ?_;simp only[go_sem,ae,Q1,Bk _ _ ae];refine Za ?_;have bQ:ns.getD i 0=ns[i]:=by simp[Je,ae]
   refine Ww ?_ ?_
   ·intro ao;have hv:n<=(ns[i]:Int):=Zay;refine Za ?_;refine Zu ?_;exact retf true _ _ ⟨λ_=>⟨_,Ja ae,hv⟩,λ_=>rfl⟩ rfl ZE
   ·intro ao;have hv:¬n<=(ns[i]:Int):=Zay;refine Ze ?_
    refine ZC ?_;refine⟨Qo,ns.length-(i+1),ZD,i+1,rfl,ZD,?_,rfl⟩;rw[Jk ae];intro x hx;rcases Jm.1 hx with hx|hx
    ·exact bR x hx
    ·simp only[Jh]at hx;subst hx;exact hv
  ·intro hc;have aY:ns.length<=i:=ZG
   rw[Jg aY]at bR;refine Zs ?_;refine Za ?_;refine Qk ?_;exact retf false _ _ ⟨nofun,λ⟨x,hx,h⟩=>absurd h (bR x hx)⟩ rfl rfl
theorem VP (ho:q.ok)(h:SglP q){r:Nat}(hr:r<q.ab.toNat):(Am q r).length<=1/\((r:Int)<q.params->(Am q r).length=0)/\
  (¬(r:Int)<q.params->(Am q r).length=0->(usTo q q.blocks.length).count (r:Int)=0):=by
 obtain⟨h1,h2⟩:=h.one r hr;refine⟨h1,λh3=>by rw[h2 h3];rfl,λh3 h4=>List.count_eq_zero.2 λhm=>?_⟩;obtain⟨b,hb,hv⟩:=Jv.1 hm;rcases VO ho h (Jz.1 hb) hv with h5|h5
 ·exact h3 h5
 ·rw[Int.toNat_natCast]at h5;exact h5 (List.length_eq_zero_iff.1 h4)
theorem Qbqv (ho:q.ok)(h:SglP q):¬∃x∈ascL q.ab.toNat ((Ac q).LI 0),q.params<=(x:Int):=by
 rintro⟨x,hx,h1⟩;have:=Y5 ho h (ascL_mem.1 hx).2;omega
theorem Qbqw (ho:q.ok)(h:SglP q):(Ci q.blocks.length (gnx q)).length=q.blocks.length:=by
 rw[Ci,if_pos ho.fitB,List.filter_eq_self.2,List.length_range];exact λb hb=>h.re b (Jz.1 hb)
set_option maxHeartbeats 8000000 in
theorem FnIsSingle_c {bs:List UInt8}(hK:∀H',K (.c (.bool true)) H'):Qv prog Qo4 [.c (.sl false 1 (Bb bs))] H K:=by
 refine Qc Ab Qagd ?_;have retT':∀(e:Env) (H':Heap),lk 2 e=.c (.bool true)->Q4 SP K .ret e H':=by
  intro e H' h2;simp only[go_sem,Q4,Aa,Jh,forall_eq,RS.op,h2];exact hK H'
 refine Wg ?_;simp only[go_sem,C8];intro _;refine Qg (Qf rfl (λhc=>?_) (λhc=>?_))
 ·refine Za ?_;refine Qk ?_;exact retT' _ _ rfl
 refine Ze ?_
 refine Za ?_;refine Qang λcs H1 hu ay=>?_;have aL:=ay.fits;have kn:=(Kn.ar H).aw hu;simp only[go_sem,Qkr];intro x3 aF H2 h2;have kn:=kn.al aF h2;have aF:=kn.l 0 rfl;simp only[go_sem,Qkq,aF];intro H3 h3;have kn:Kn H H3 [] [(x3,.st [.sl false 3 (Qw cs)])]:=kn.aB 0 rfl h3;have aF:=kn.l 0 rfl;refine Zh aF ?_;refine Qazz aL λH4 hu=>?_;have kn:=kn.aw hu;have aF:=kn.l 0 rfl;simp only[go_sem,Qks];refine Q3 (Qa ?_);simp only[go_sem,aF];refine MX aL λH5 hu=>?_;have kn:=kn.aw hu;have aF:=kn.l 0 rfl
 cases hi:B2 cs with
 |false=>
  simp only[go_sem,Tq];refine Qg (Qf rfl (λ_=>?_) (λh=>ZK));refine Zh aF ?_;refine MX aL λH6 hu=>?_;simp only[go_sem,Qkt,hi];refine Qk ?_;exact retT' _ _ ZE
 |true=>
  obtain⟨hG,hS⟩:=of_decide_eq_true hi;simp only[go_sem,Tq];refine Qg (Qf rfl (λh=>ZK) (λ_=>?_));refine Ze ?_
  refine Q3 (Qa ?_);simp only[go_sem,aF,Q6];intro eu;simp only[LIM]at eu;refine Qg (Qd (Qs (λmm e1 H1=>∃(k:Nat),mm=cs.length-k/\k<=cs.length/\Kn H H1 [] [(x3,.st [.sl false 3 (Qw cs)])]/\
   e1=[(3,.c (.ptr x3 0)),(29,.c (.sl false 3 (Qw cs))),(30,.c (.int .i64 cs.length)),(31,.c (.int .i64 k))]) cs.length ?_ ?_))
  ·exact⟨0,ZD,ZD,kn,rfl⟩
  ·clear kn aF;rintro mm e1 H7 ⟨k,eB,hk,kn,rfl⟩;refine Za ?_;refine Wv ?_ ?_
   ·intro ao;have ae:k<cs.length:=ZI;have rZ:=XF hG ae;obtain⟨q,hq⟩:∃q,cs[k]=q:=⟨_,rfl⟩;have ho:q.ok:=(by rw[<-hq];exact CA hG ae);have wX:SglP q:=(by rw[<-hq];exact hS k ae);have bH:=ho.r0;have dC:=ho.r1;have fw:=ho.b0;have bf:=ho.b1;obtain⟨R,hR⟩:∃R:Nat,q.ab.toNat=R:=⟨_,rfl⟩;have lz:q.ab=(R:Int):=ZD;refine Ze ?_
    refine Wh ?_;simp only[go_sem,ae,Q6,Bd _ _ ae,CodeD.cells,hq];intro x6 ba H8 h8;have kn:=kn.al ba h8;have ba:=kn.l 1 rfl;simp only[go_sem,Qku,ba];intro H9 h9;have kn:Kn H H9 [] [(x3,.st [.sl false 3 (Qw cs)]),(x6,.st [.int .i64 q.params,.int .i64 q.ab,.sl false 5 (Ql q.blocks)])]:=kn.aB 1 rfl h9;clear ba h8 h9;have ba:=kn.l 1 rfl;refine Q3 (Qa ?_);simp only[go_sem,ba,lz];refine Qg (Qd (Qs (λmm e1 H1=>∃(r:Nat),mm=R-r/\r<=R/\Kn H H1 [] [(x3,.st [.sl false 3 (Qw cs)]),(x6,.st [.int .i64 q.params,.int .i64 q.ab,.sl false 5 (Ql q.blocks)])]/\
     e1=[(3,.c (.ptr x3 0)),(5,.c (.int .i64 k)),(6,.c (.ptr x6 0)),(29,.c (.sl false 3 (Qw cs))),(30,.c (.int .i64 cs.length)),(31,.c (.int .i64 k)),(37,.c (.int .i64 R)),(38,.c (.int .i64 r))]) R ?_ ?_))
    ·exact⟨0,ZD,ZD,kn,rfl⟩
    ·clear kn ba;rintro m2 e2 H10 ⟨r,eK,iD,kn,rfl⟩;refine Za ?_;refine Wv ?_ ?_
     ·intro bk;have hr:r<R:=ZM;have gR:regB cs (k:Int) (r:Int)=true:=by
       rw[FJ rZ ae,hq,Jt,decide_eq_true_eq,decide_eq_true_eq];omega
      have cP:GA cs (k:Int) (r:Int)=Am q r:=(by rw[KC gR ae,hq]);have uz:BY cs (k:Int) (r:Int)=((usTo q q.blocks.length).count (r:Int):Nat):=(by rw[Is gR ae,hq]);obtain⟨g1,g2,g3⟩:=VP ho wX (r:=r) ZD;have aF:=kn.l 0 rfl;refine Ze ?_
      refine Wm ?_;refine Zh aF ?_;refine Qaz0 aL λH11 hu=>?_;have kn:=kn.aw hu;rw[cP];simp only[go_sem,Qkv];have aF:=kn.l 0 rfl;have ba:=kn.l 1 rfl;have bU:∀(H':Heap),Kn H H' [] [(x3,.st [.sl false 3 (Qw cs)]),(x6,.st [.int .i64 q.params,.int .i64 q.ab,.sl false 5 (Ql q.blocks)])]->True:=λ_ _=>trivial;obtain⟨l,hl⟩:∃l,(Am q r).length=l:=⟨_,rfl⟩;rw[hl]at g1 g2 g3;have bT:decide ((1:Int)<(l:Int))=false:=decide_eq_false ZD;by_cases hp:(r:Int)<q.params
      ·have cD:decide ((r:Int)<q.params)=true:=decide_eq_true hp;have w5:decide ((0:Int)<(l:Int))=false:=decide_eq_false (by have:=g2 hp;omega);have pI:decide (q.params<=(r:Int))=false:=decide_eq_false ZD;refine Qa ?_;simp only[go_sem,aF,ba,BW,hl,bT,cD,w5,pI,PW];try intro _
       refine Qf rfl (λh=>by cases h) (λ_=>?_);refine Ze ?_
       refine ZC ?_;exact⟨Qo,R-(r+1),ZD,r+1,rfl,ZD,kn,rfl⟩
      ·have cD:decide ((r:Int)<q.params)=false:=decide_eq_false hp;have pI:decide (q.params<=(r:Int))=true:=decide_eq_true ZD;by_cases gp:l=0
       ·have tz:decide ((l:Int)=0)=true:=decide_eq_true ZD;have jW:=g3 hp gp;refine Qa ?_;simp only[go_sem,aF,ba,BW,hl,bT,cD,pI,tz];try intro _
        refine Qbh7 aL λH12 hu=>?_;have kn:=kn.aw hu;rw[uz,jW];simp only[go_sem,PW,bT,cD,pI,tz];refine Qf rfl (λh=>by cases h) (λ_=>?_);refine Ze ?_
        refine ZC ?_;exact⟨Qo,R-(r+1),ZD,r+1,rfl,ZD,kn,rfl⟩
       ·have tz:decide ((l:Int)=0)=false:=decide_eq_false ZD;refine Qa ?_;simp only[go_sem,aF,ba,BW,hl,bT,cD,pI,tz,PW];try intro _
        refine Qf rfl (λh=>by cases h) (λ_=>?_);refine Ze ?_
        refine ZC ?_;exact⟨Qo,R-(r+1),ZD,r+1,rfl,ZD,kn,rfl⟩
     ·intro bk;have aF:=kn.l 0 rfl;have ba:=kn.l 1 rfl;have vH:Ch cs (k:Int) AP=AP q:=(by rw[Ch,if_pos rZ];simp[ae,hq]);have hL:0<(AP q).length:=(by simp[AP];omega);have wr:(AP q)[0]=ascL q.ab.toNat ((Ac q).LI 0):=(by simp[AP]);have rF:=Qa8z (AP q) 0 hL;rw[wr]at rF;refine Zs ?_;refine Aj ?_;simp only[go_sem,aF,ba];refine Qa8s aL λH11 hu=>?_;have kn:=kn.aw hu;rw[vH];have aF:=kn.l 0 rfl;have ba:=kn.l 1 rfl;simp only[go_sem,Qji,ba,KG,hL,rF];refine⟨ZD,Qblx ?_⟩;rw[decide_eq_false (Qbqv ho wX)];simp only[go_sem,Qjh,ba,Qj];try intro _
      refine Qa77 (rows:=Ql q.blocks) (nx:=gnx q) (Cs _ q false) (by rw[Qj];omega) λH12 hu=>?_;have kn:=kn.aw hu;have ba:=kn.l 1 rfl;have dA:=Qbqw ho wX;simp only[go_sem,Qjg,ba,Qj,Q1,dA,decide_true];try intro _
      refine Qf rfl (λh=>by cases h) (λ_=>?_);refine Ze ?_
      have kn:=Kn.drop (A:=[(x3,.st [.sl false 3 (Qw cs)])]) kn;refine ZC ?_;exact⟨Qo,cs.length-(k+1),ZD,k+1,rfl,ZD,kn,rfl⟩
   ·intro ao;refine Zs ?_;refine Za ?_;refine Qk ?_;exact retT' _ _ rfl
end Go.AE.Y
namespace Go.AE.Y
open Go.ChangeShapes Go.WideShapes Go.ChangeAt Go.RowKit
def Ez (w:World)(a:Option Addr)(len cap:Nat)(zs:List Int):Prop:=
 (a=none/\len=0/\cap=0/\zs=[])\/
 ∃x,a=some x/\len<=cap/\zs.length=cap/\(∀i,i<zs.length->w.cell? (x.add i)=some (.int .u8 (zs.getD i 0)))/\∀n∈zs,(Lit.int .u8 n).wf=true
theorem Qbqr (w:World):Sat (λ_=>.none) ⟨λb=>decide (b<w.heap.size),λ_=>none,λ_=>none⟩ w:=by
 refine⟨λb hb=>⟨by simp;omega,rfl⟩,⟨0,λ_ _=>rfl⟩,λb x h=>ZK,λb l p h=>ZK,λl=>trivial⟩
theorem Yd {n:Int}(h:(Lit.int .u8 n).wf=true):((UInt8.ofNat n.toNat).toNat:Int)=n:=by
 simp only[Lit.wf,Jt,decide_eq_true_eq]at h;have a1:IntKind.min .u8=0:=ZR
 have a2:IntKind.max .u8=255:=ZR
 rw[a1,a2]at h;rw[UInt8.toNat_ofNat'];omega
theorem calls_of_acall {P:Program}{f:Nat}(h:∀bs:List UInt8,bs.length<=1048576->Qv P f [.c (.sl false 1 (Bb bs))] (λ_=>.none) λv _=>v=.c (.bool true))
  {a0:Option Addr} {len0 cap0:Nat} {z0:List Int} {w:World} (hr:Ez w a0 len0 cap0 z0) (hl:len0<=1048576) :
  Calls P f #[.slice a0 len0 cap0] w λe w'=>e=.returned (.bool true)/\Below w.heap.size w w':=by
 have key:∃bs:List UInt8,bs.length=len0/\RepC w ⟨λb=>decide (b<w.heap.size),λ_=>none,λ_=>none⟩ (.sl false 1 (Bb bs)) (.slice a0 len0 cap0):=by
  rcases hr with ⟨rfl,rfl,rfl,rfl⟩|⟨x,rfl,tq,hz,cj,hwf⟩
  ·exact⟨[],rfl,.ca _ _ _⟩
  ·obtain⟨b,off,spot⟩:=x;have bG:((z0.take len0).map λn=>UInt8.ofNat n.toNat).length=len0:=ZJ
   by_cases h0:cap0=0
   ·subst h0;have:len0=0:=ZD;subst this;exact⟨[],rfl,.ca _ _ _⟩
   have de:=cj 0 ZD;have qV:spot=none:=by simpa[Addr.add]using World.cell?_spot de
   subst qV;have wP:∀i,(⟨b,off,none⟩:Addr).add i=⟨b,off+i,none⟩:=by
    intro i;by_cases h:i=0 <;> simp[Addr.add,h]
   have hb:b<w.heap.size:=by
    rcases J0 b w.heap.size with h|h
    ·exact h
    ·simp[World.cell?,Addr.add,Array.getElem?_eq_none h]at de
   refine⟨_,bG,?_⟩;have b7:∀(i:Nat) (row:List C),(Bb ((z0.take len0).map λn=>UInt8.ofNat n.toNat))[i]? = some row->i<len0/\row=[.int .u8 (z0.getD i 0)]:=by
    intro i row hi;have ae:i<len0:=by
     rcases J0 i len0 with h|h
     ·exact h
     ·rw[Jl (by rw[C8];omega)]at hi;simp at hi
    have qa:i<z0.length:=ZD;refine⟨ae,?_⟩;simp only[Bb,List.getElem?_map,List.getElem?_take,if_pos ae,List.getElem?_eq_getElem qa,Option.map_some,J1]at hi;rw[<-hi,Yd (hwf _ (Ja qa))];simp[Je,qa]
   have:=RepC.sl (w:=w) (g:=⟨λb=>decide (b<w.heap.size),λ_=>none,λ_=>none⟩) false 1 (Bb ((z0.take len0).map λn=>UInt8.ofNat n.toNat)) b off cap0 (λi _=>.int .u8 (z0.getD i 0))
    (by rw[C8,bG];simp only[LIM];omega) ZF (by rw[C8,bG];exact tq) ZW
    (λi row hi=>by rw[(b7 i row hi).2];rfl)
    (λi row j c hi hj=>by
     obtain⟨h1,rfl⟩:=b7 i row hi;have jQ:j=0:=by
      rcases Jq j with h|h
      ·exact h
      ·rw[Jl ZJ]at hj;simp at hj
     subst jQ;have:=cj i ZD;rw[wP]at this;simpa using this)
    (λi row j c hi hj=>by
     obtain⟨h1,rfl⟩:=b7 i row hi;have jQ:j=0:=by
      rcases Jq j with h|h
      ·exact h
      ·rw[Jl ZJ]at hj;simp at hj
     subst jQ;simp at hj;subst hj;exact .int _ _)
   rw[C8,bG]at this;exact this
 obtain⟨bs,bG,dj⟩:=key;have hc:=(h bs ZD).2 _ w [.slice a0 len0 cap0] (Qbqr w) rfl (λj x u hj hu=>by
  cases j with
  |zero=>simp at hj hu;subst hj;subst hu;exact .c _ _ dj
  |succ j=>simp at hj)
 refine hc.mono λe w'=>?_;rintro (⟨v,x,H',g',rfl,rfl,aR,hv⟩|⟨v,H',g',_,h,_⟩)
 rotate_left
 ·cases h
 have:v=.bool true:=by cases hv with|c _ _ h=>cases h;rfl
 subst this;exact⟨rfl,aR.le.os,aR.le.tape,aR.le.output,aR.le.size,λk hk=>(aR.le.per k (by simpa using hk)).2⟩
end Go.AE.Y
