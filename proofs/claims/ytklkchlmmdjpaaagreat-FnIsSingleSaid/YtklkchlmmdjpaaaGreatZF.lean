/- Part 6 of the proof: the engine, codes, walks and plain laws, each named where it stands. -/
import Derived.Test.YtklkchlmmdjpaaaGreatZE
open Nat (reduceEqDiff reduceAdd reduceLeDiff reduceLT)
set_option linter.unusedVariables false
set_option linter.unusedSimpArgs false
set_option maxRecDepth 4000
open Bool renaming and_eq_true->J3,eq_iff_iff->Jaa,not_eq_true'->Jaz
open Classical renaming byContradiction->J7
open Int renaming toNat_natCast->Jr,natCast_nonneg->Jae,le_refl->Jan
open List renaming mem_singleton->Ja,getD_eq_getElem?_getD->Jb,getElem_mem->Jc,mem_append_right->Jd,getElem?_eq_getElem->Je,length_map->Jf,take_of_length_le->Jg,length_cons->Jh,mem_append_left->Ji,length_nil->Jj,take_succ_eq_append_getElem->Jk,mem_map->Jl,length_append->Jm,mem_append->Jp,mem_flatMap->Jq,getD_cons_zero->Js,map_append->Jt,nodup_append->Ju,getD_cons_succ->Jv,mem_range->Jw,mem_cons->Jx,mem_iff_getElem->Jy,getElem?_map->J0,perm_append_comm->J1,length_take->J4,contains_iff_mem->J5,forall_mem_cons->J8,getElem?_of_mem->J9,append_assoc->Jab,eq_of_mem_replicate->Jac,mem_filter->Jad,length_filter_le->Jaf,length_set->Jag,nil_append->Jah,flatMap_cons->Jai,mem_or_eq_of_mem_set->Jaj,cons_append->Jak,getElem_set->Jal,not_mem_nil->Jam,nodup_cons->Jao,getElem_cons_succ->Jaq,length_replicate->Jas,ext_getElem->Jau,getElem_map->Jav,mem_of_mem_take->Jaw,getElem?_eq_some_iff->Jay,length_eq_zero_iff->Ja0,map_cons->Ja1,any_eq_true->Ja3,getElem_cons_zero->Ja4,count_le_length->Ja6,mem_cons_of_mem->Ja7,mem_of_getElem?->Ja8,flatMap_append->Ja9,map_eq_nil_iff->Jba,getElem_range->Jbb,mem_cons_self->Jbc,length_range->Jbd,map_set->Jbe,take_length->Jbf,append_nil->Jbi,range_succ->Jbj,map_map->Jbk
open List.Nodup renaming length_le_of_subset->Jar
open List.Perm renaming refl->Jax
open Nat renaming zero_add->Jn,le_refl->Jo,lt_or_ge->J6,succ_pos->Jat,add_sub_cancel_left->Ja2,le_trans->Ja5,le_add_right->Jbg,zero_lt_succ->Jbh,succ_mul->Jbl,zero_le->Jbm
open Option renaming getD_some->Jz,map_some->J2
open Option.some renaming inj->Jap
namespace Go.AE.Y
attribute [local go_sem] cond_true cond_false Bool.not_true Bool.not_false
open Go.Proofs.Tryz
variable {H H0:Heap}{K:V->Heap->Prop}{E B Lg:List (Nat×Obj)}{q:CodeD}
theorem Qa9t {nx:Nat->List Int}{f:Int}{n i:Nat}(h:i<(Qz nx f n).length):∃p:Nat,(Qz nx f n).getD i 0=(p:Int)/\p<n:=by
 have h1:(Qz nx f n)[i]∈Qz nx f n:=Jc h;have e:(Qz nx f n).getD i 0=(Qz nx f n)[i]:=by simp[Jb,h]
 rw[e];generalize (Qz nx f n)[i]=v at h1;simp only[Qz,Jl,Jad,Jw]at h1;obtain⟨p,⟨h2,_⟩,rfl⟩:=h1;exact⟨p,rfl,h2⟩
theorem Fm {ns:List Int}(h:∀x∈ns,0<=x):Qb ns=Q7 (ns.map Int.toNat):=by
 have hk:ns=(ns.map Int.toNat).map Int.ofNat:=by
  rw[Jbk]
  conv=>lhs;rw[<-List.map_id ns]
  refine List.map_congr_left λx hx=>?_;have:=h x hx;simp;omega
 conv=>lhs;rw[hk]
 rfl
theorem GR {ns:List Int}(h:∀x∈ns,0<=x)(ha:ns.Pairwise (· < ·)):(ns.map Int.toNat).Pairwise (· < ·):=by
 rw[List.pairwise_map];refine ha.imp_of_mem λ{a b} h1 h2 h3=>?_;have:=h a h1;have:=h b h2;omega
theorem CF {l:List Nat}{n:Nat}(ha:l.Pairwise (· < ·))(hn:∀x∈l,x<n):l.length<=n:=by
 have h1:l.Nodup:=ha.imp λh=>ZD
 have h2:l ⊆ List.range n:=λx hx=>Jw.2 (hn x hx);have:=(List.nodup_iff_count.1 h1);have h3:=Jar h1 h2;simpa using h3
set_option maxHeartbeats 2000000 in
theorem Qaue {fl flo:Bool}{b:Nat}(ho:q.ok)(hb:b<q.blocks.length)
  (hK:∀(fl':Bool) (fs:List Nat) H',Upd H H' []->fs.Pairwise (· < ·)->(∀x∈fs,x<q.blocks.length)->K (.c (.sl fl' 1 (Q7 fs))) H') :
  Qv prog S9 [.ag [.int .i64 q.params,.int .i64 q.ab,.sl fl 5 (Ql q.blocks)],.c (.sl flo 1 (A7 q.blocks.length (nxN (gnx q)) q.blocks.length)),.c (.int .i64 b)] H K:=by
 have bf:=ho.b1;obtain⟨n,hn⟩:∃n,q.blocks.length=n:=⟨_,rfl⟩;obtain⟨g,hg⟩:∃g,nxN (gnx q)=g:=⟨_,rfl⟩;rw[hn]at hb bf hK;rw[hn,hg];refine Q0 ?_;refine Qc Ab Qauq ?_;refine Wd ?_;refine Wa ?_;refine Qg (Qd (Qs (λm e1 H1=>∃(f:Nat) (fo:Bool) (ns:List Int),m=n-f/\f<=n/\ns.Pairwise (· < ·)/\(∀x∈ns,0<=x/\x<n)/\ns.length<=f * 200/\Kn H H1 [] []/\
  lk 1 e1=.c (.sl flo 1 (A7 n g n))/\lk 2 e1=.c (.int .i64 b)/\lk 3 e1=.c (.pp [.int .i64 q.params,.int .i64 q.ab,.sl fl 5 (Ql q.blocks)])/\lk 7 e1=.c (.sl fo 1 (Qb ns))/\lk 8 e1=.c (.int .i64 f)) n ?_ ?_))
 ·exact⟨0,true,[],ZD,ZD,ZF,ZF,ZF,Kn.ar H,rfl,rfl,rfl,rfl,rfl⟩
 ·rintro m e1 H1 ⟨f,fo,ns,hm,hf,ha,dq,cC,kn,l1,l2,l3,l7,l8⟩;refine Q3 (Qa ?_);simp only[go_sem,l1,l2,l3,l7,l8,CS];try intro _
  refine Wv ?_ ?_
  ·intro hc;have ae:f<n:=ZG
   refine Ze ?_
   refine Wm ?_;refine CY (nx:=gnx q) (.mk' _ _ _ _) rfl (Cs H1 q fl).x λH2 hu=>?_;have kn:=kn.aw hu;rw[Qj,hn];have cP:=Ct (gnx q) (f:Int) n;have mo:=λ(i:Nat)=>Qa9t (nx:=gnx q) (f:=(f:Int)) (n:=n) (i:=i);generalize Qz (gnx q) (f:Int) n=pr at *;simp only[go_sem,Qpp];refine Za ?_;refine Qd (Qs (λm e1 H1=>∃(i:Nat) (fo:Bool) (ns:List Int),m=pr.length-i/\i<=pr.length/\ns.Pairwise (· < ·)/\(∀x∈ns,0<=x/\x<n)/\ns.length<=f * 200+i/\Kn H H1 [] []/\
    lk 1 e1=.c (.sl flo 1 (A7 n g n))/\lk 2 e1=.c (.int .i64 b)/\lk 3 e1=.c (.pp [.int .i64 q.params,.int .i64 q.ab,.sl fl 5 (Ql q.blocks)])/\lk 7 e1=.c (.sl fo 1 (Qb ns))/\lk 8 e1=.c (.int .i64 f)/\lk 9 e1=.c (.sl false 1 (Qb pr))/\lk 10 e1=.c (.int .i64 i)) pr.length ?_ ?_)
   ·exact⟨0,fo,ns,ZD,ZD,ha,dq,ZD,kn,rfl,rfl,rfl,rfl,rfl,rfl,rfl⟩
   ·clear kn ha dq cC l1 l2 l3 l7 l8;clear ns fo;rintro m2 e2 H3 ⟨i,fo,ns,eK,hi,ha,dq,cC,kn,l1,l2,l3,l7,l8,l9,l10⟩;refine Q3 (Qa ?_);simp only[go_sem,l1,l2,l3,l7,l8,l9,l10,Qe];try intro _
    refine Wv ?_ ?_
    ·intro ao;have aI:i<pr.length:=ZI;obtain⟨p,ql,ej⟩:=mo i aI;have hpd:p<(AS n g b).length:=(by rw[Cw];exact ej);have hfd:f<(AS n g b).length:=(by rw[Cw];exact ae);refine Ze ?_
     refine Az (λe2 H2=>∃(fo:Bool) (ns:List Int),ns.Pairwise (· < ·)/\(∀x∈ns,0<=x/\x<n)/\ns.length<=f * 200+(i+1)/\Kn H H2 [] []/\
      lk 1 e2=.c (.sl flo 1 (A7 n g n))/\lk 2 e2=.c (.int .i64 b)/\lk 3 e2=.c (.pp [.int .i64 q.params,.int .i64 q.ab,.sl fl 5 (Ql q.blocks)])/\lk 7 e2=.c (.sl fo 1 (Qb ns))/\lk 8 e2=.c (.int .i64 f)/\lk 9 e2=.c (.sl false 1 (Qb pr))/\lk 10 e2=.c (.int .i64 i)) ?_ ?_
     ·intro Q br _ _;refine Qd (Aj ?_);simp only[go_sem,hb,CS,Gg hb,aI,Qe,Qn _ _ aI,ql,ej,ae,Cw,Qu,Qx _ _ hpd,Qx _ _ hfd];refine Ww ?_ ?_
      ·intro _;refine Zi ?_;refine Pe ha ZD λfl2 ns2 H4 hu ly fq ft=>?_;have kn:=kn.aw hu;simp only[go_sem,Qpq];refine br _ _ ⟨fl2,ns2,ly,λx hx=>?_,ZD,kn,rfl,rfl,rfl,rfl,rfl,rfl,rfl⟩;rcases (fq x).1 hx with rfl|hx
       ·omega
       ·exact dq x hx
      ·intro _;refine Ze ?_
       exact br _ _ ⟨fo,ns,ha,dq,ZD,kn,rfl,rfl,rfl,rfl,rfl,rfl,rfl⟩
     ·rintro e3 H4 ⟨fo,ns,ha,dq,cC,kn,l1,l2,l3,l7,l8,l9,l10⟩;refine Qp ?_;simp only[go_sem,l1,l2,l3,l7,l8,l9,l10];refine⟨Qo,?_⟩;show ∃m,_;exact⟨pr.length-(i+1),ZD,i+1,fo,ns,rfl,ZD,ha,dq,cC,kn,rfl,rfl,rfl,rfl,rfl,rfl,rfl⟩
    ·intro ao;refine Zb ?_;refine Zi ?_;refine⟨Qo,?_⟩;show ∃m,_;exact⟨n-(f+1),ZD,f+1,fo,ns,rfl,ZD,ha,dq,ZD,kn,rfl,rfl,rfl,rfl,rfl⟩
  ·intro hc;refine Wn ?_;have h0:∀x∈ns,0<=x:=λx hx=>(dq x hx).1;rw[Fm h0];refine⟨_,.c _ _ (FrzR.same (Cu _)).sl,hK false _ _ kn.fin (GR h0 ha) λx hx=>?_⟩;obtain⟨v,hv,rfl⟩:=Jl.1 hx;have:=dq v hv;omega
set_option maxHeartbeats 2000000 in
theorem Qank {fl flo fll:Bool}{ls:List Nat}(ho:q.ok)(tn:ls.length<=1000000)
  (hK:∀(fs:List Nat) H',Upd H H' []->fs.Pairwise (· < ·)->(∀x∈fs,x<q.blocks.length)->K (.c (.sl false 1 (Q7 fs))) H') :
  Qv prog ST [.ag [.int .i64 q.params,.int .i64 q.ab,.sl fl 5 (Ql q.blocks)],.c (.sl flo 1 (A7 q.blocks.length (nxN (gnx q)) q.blocks.length)),.c (.sl fll 1 (Q7 ls))] H K:=by
 have bf:=ho.b1;obtain⟨n,hn⟩:∃n,q.blocks.length=n:=⟨_,rfl⟩;obtain⟨OV,tG⟩:∃OV,A7 q.blocks.length (nxN (gnx q)) q.blocks.length=OV:=⟨_,rfl⟩;have xe:OV.length=n:=by rw[<-tG,CS,hn]
 rw[hn]at bf hK;rw[tG];refine Q0 ?_;refine Qc Ab Qanw ?_;refine Wd ?_;refine Za ?_;refine⟨.inl trivial,Cu _,by rw[Q1];simp only[LIM];omega,λy0 qc H1 h1=>?_⟩;have kn:Kn H H1 [] ([]++[(y0,.vec 1 (Q7 ls))]):=(Kn.ar H).al qc h1;obtain⟨wc0,uu⟩:∃wc0,C.ah y0 1 0 (0+(Q7 ls).length)=wc0:=⟨_,rfl⟩;have uR:Gq [(y0,.vec 1 (Q7 ls))] ls wc0:=by rw[<-uu];exact Gr.gq (.mk _ _ _ ZD)
 have xI:=uR.ai;rw[uu];simp only[go_sem,Qna];refine Qg (Qd (Qs (λm e1 H1=>∃(O:List Int) (W:List Nat) (fo:Bool) (wc:C) (Lg:List (Nat×Obj)),m=W.length+2 * (n-O.length)/\W.length+2 * (n-O.length)<=ls.length+2 * n/\O.Pairwise (· < ·)/\(∀x∈O,0<=x/\x<n)/\Gq Lg W wc/\Kn H H1 [] ([]++Lg)/\
  lk 1 e1=.c (.sl flo 1 OV)/\lk 3 e1=.c (.pp [.int .i64 q.params,.int .i64 q.ab,.sl fl 5 (Ql q.blocks)])/\lk 7 e1=.c (.sl fo 1 (Qb O))/\lk 8 e1=.c wc) (ls.length+2 * n) ?_ ?_))
 ·exact⟨[],ls,true,wc0,[(y0,.vec 1 (Q7 ls))],ZF,ZF,ZF,ZF,uR,kn,rfl,rfl,rfl,rfl⟩
 ·clear kn uR xI uu h1 qc;rintro m e1 H2 ⟨O,W,fo,wc,Lg,hm,pP,ha,hO,hq,kn,l1,l3,l7,l8⟩;have uP:=hq.ai;obtain⟨jv,xS⟩:=hq.get kn;have jv:=eq_true jv;have oN:=hq.ax;have rh:=hq.aN;refine Q3 (Qa ?_);simp only[go_sem,l1,l3,l7,l8,jv,oN];try intro _
  refine Wv ?_ ?_
  ·intro ao;obtain⟨b,W,rfl⟩:∃b W',W=b::W':=by
    cases W with
    |nil=>simp at ao
    |cons b W=>exact⟨b,W,rfl⟩
   have bH:(Q7 (b::W)).getD 0 []=[.int .i64 (b:Int)]:=rfl;obtain⟨wc2,qW,kC⟩:∃wc2,sliC (some 1) none wc=wc2/\Gq Lg W wc2:=by
    refine⟨_,rfl,?_⟩;rcases hq with ⟨_,h,_⟩|⟨z,st,R,rfl,rfl,h3,h4⟩
    ·simp at h
    ·refine .inr ⟨z,st+1,R,?_,rfl,?_,by simp at h4;omega⟩
     ·simp[sliC]
     ·have:=congrArg (List.drop 1) h3;rw[<-List.drop_drop,List.drop_take]at *;simp only[Jh,Nat.add_sub_cancel]at this;rw[this];rfl
   refine Ze ?_
   refine Qd (Qa ?_);simp only[go_sem,jv,xS,rh,oN,bH,Jat,Jh]
   first|refine⟨ZD,?_⟩|skip
   refine Qa ?_;simp only[go_sem,jv,rh,oN,qW,Jh];refine⟨⟨ZD,ZD,ZD⟩,?_⟩;have uO:=kC.ai;simp only[Jh]at pP hm;refine Q3 (Qa ?_);simp only[go_sem,xe];try intro _
   refine⟨Qo,?_⟩;refine AW ?_;simp only[go_sem,Qnb];refine Wv ?_ ?_
   ·intro _;refine Qq ?_;show ∃m,_;exact⟨W.length+2 * (n-O.length),ZD,O,W,fo,wc2,Lg,rfl,ZD,ha,hO,kC,kn,rfl,rfl,rfl,rfl⟩
   ·intro bk;have cM:b<n:=by
     have:=A8 bk;have:=of_decide_eq_true this;omega
    refine Ze ?_
    refine Za ?_;rw[<-tG];refine Qaue ho (by rw[hn];exact cM) λflf fs H3 hu jT iR=>?_;rw[tG];rw[hn]at iR;have kn:=kn.aw hu;have fz:=CF jT iR;simp only[go_sem,Qnc];refine Za ?_;refine Qd (Qs (λm2 e1 H1=>∃(i:Nat) (O2:List Int) (W:List Nat) (fo:Bool) (wc:C) (Lg:List (Nat×Obj)),m2=fs.length-i/\i<=fs.length/\W.length+2 * (n-O2.length)<m/\O2.Pairwise (· < ·)/\(∀x∈O2,0<=x/\x<n)/\Gq Lg W wc/\Kn H H1 [] ([]++Lg)/\
     lk 1 e1=.c (.sl flo 1 OV)/\lk 3 e1=.c (.pp [.int .i64 q.params,.int .i64 q.ab,.sl fl 5 (Ql q.blocks)])/\lk 7 e1=.c (.sl fo 1 (Qb O2))/\lk 8 e1=.c wc/\lk 10 e1=.c (.sl flf 1 (Q7 fs))/\lk 11 e1=.c (.int .i64 i)) fs.length ?_ ?_)
    ·exact⟨0,O,W,fo,wc2,Lg,ZD,ZD,ZD,ha,hO,kC,kn,rfl,rfl,rfl,rfl,rfl,rfl⟩
    ·clear kn kC uO jv xS oN rh uP hq qW ha hO l1 l3 l7 l8;have gH:m<=ls.length+2 * n:=ZD;clear hm pP;rintro m2 e2 H4 ⟨i,O,W,fo,wc,Lg,eK,hi,pP,ha,hO,hq,kn,l1,l3,l7,l8,l10,l11⟩;have uP:=hq.ai;refine Q3 (Qa ?_);simp only[go_sem,l1,l3,l7,l8,l10,l11,Q1];try intro _
     refine Wv ?_ ?_
     ·intro bN;have ae:i<fs.length:=ZQ;obtain⟨f,hf⟩:∃f,fs[i]=f:=⟨_,rfl⟩;have mU:fs.getD i 0=f:=(by simp[Jb,ae,hf]);have hfn2:f<n:=(by rw[<-hf];exact iR _ (Jc ae));have hO0:∀x∈O,0<=x:=λx hx=>(hO x hx).1;have hOl:O.length<=n:=by
       have:=CF (n:=n) (GR hO0 ha) λx hx=>by
        obtain⟨v,hv,rfl⟩:=Jl.1 hx;have:=hO v hv;omega
       simpa using this
      refine Ze ?_
      refine Az (λe1 H1=>∃(O:List Int) (W:List Nat) (fo:Bool) (wc:C) (Lg:List (Nat×Obj)),W.length+2 * (n-O.length)<m/\O.Pairwise (· < ·)/\(∀x∈O,0<=x/\x<n)/\Gq Lg W wc/\Kn H H1 [] ([]++Lg)/\
       lk 1 e1=.c (.sl flo 1 OV)/\lk 3 e1=.c (.pp [.int .i64 q.params,.int .i64 q.ab,.sl fl 5 (Ql q.blocks)])/\lk 7 e1=.c (.sl fo 1 (Qb O))/\lk 8 e1=.c wc/\lk 10 e1=.c (.sl flf 1 (Q7 fs))/\lk 11 e1=.c (.int .i64 i)) ?_ ?_
      ·intro Q br _ _;refine Qd (Qa ?_);simp only[go_sem,ae,Q1,Bk _ _ ae,mU];refine Dy (ns:=O) (.mk' _ _ _ _) rfl λr hr=>?_;simp only[go_sem,Qnd];refine Ww ?_ ?_
       ·intro iS;have oX:r<0:=ZaJ;have vq:(f:Int)∉O:=by
         rcases hr with ⟨_,h⟩|⟨i,rfl,_⟩
         ·exact h
         ·omega
        refine Qa ?_;simp only[go_sem,ae,Q1,Bk _ _ ae,mU];refine Pe ha ZD λfl2 O2 H5 hu ly fq ft=>?_;have kn:=kn.aw hu;have hO2l:O2.length=O.length+1:=by
         have h1:((f:Int)::O).Nodup:=Jao.2 ⟨vq,ha.imp λh=>ZD⟩;have h2:((f:Int)::O) ⊆ O2:=λx hx=>by
          rw[fq];rcases Jx.1 hx with h|h
          ·exact .inl h
          ·exact .inr h
         have:=Jar h1 h2;simp only[Jh]at this;omega
        have xf:∀x∈O2,0<=x/\x<n:=λx hx=>by
         rcases (fq x).1 hx with rfl|hx
         ·omega
         ·exact hO x hx
        have hO2n:O2.length<=n:=by
         have:=CF (n:=n) (GR (λx hx=>(xf x hx).1) ly) λx hx=>by
          obtain⟨v,hv,rfl⟩:=Jl.1 hx;have:=xf v hv;omega
         simpa using this
        simp only[go_sem,Qne];refine Qp ?_;simp only[go_sem,ae,Q1,Bk _ _ ae,mU];refine Kn.growQ kn (new:=[f]) hq (.mk' _ _ _ _) (by simp only[LIM,Jh,Jj];omega) λwc2 Lg2 H6 kC mc kn=>?_;simp only[go_sem,Qnf];refine br _ _ ⟨O2,W++[f],fl2,wc2,Lg2,by simp only[Jm,Jh,Jj];omega,ly,xf,kC,kn,rfl,rfl,rfl,rfl,rfl,rfl⟩
       ·intro _;refine Ze ?_
        exact br _ _ ⟨O,W,fo,wc,Lg,pP,ha,hO,hq,kn,rfl,rfl,rfl,rfl,rfl,rfl⟩
      ·rintro e3 H5 ⟨O,W,fo,wc,Lg,pP,ha,hO,hq,kn,l1,l3,l7,l8,l10,l11⟩;have uP:=hq.ai;refine Qp ?_;simp only[go_sem,l1,l3,l7,l8,l10,l11];refine⟨Qo,?_⟩;show ∃m,_;exact⟨fs.length-(i+1),ZD,i+1,O,W,fo,wc,Lg,rfl,ZD,pP,ha,hO,hq,kn,rfl,rfl,rfl,rfl,rfl,rfl⟩
     ·intro _;refine Qq ?_;show ∃m,_;exact⟨_,pP,O,W,fo,wc,Lg,rfl,ZD,ha,hO,hq,kn,rfl,rfl,rfl,rfl⟩
  ·intro _;refine Wn ?_;have h0:∀x∈O,0<=x:=λx hx=>(hO x hx).1;rw[Fm h0];refine⟨_,.c _ _ (FrzR.same (Cu _)).sl,hK _ _ kn.fin (GR h0 ha) λx hx=>?_⟩;obtain⟨v,hv,rfl⟩:=Jl.1 hx;have:=hO v hv;omega
end Go.AE.Y
namespace Go.AE.Y
attribute [local go_sem] cond_true cond_false Bool.not_true Bool.not_false
open Go.Proofs.Tryz
variable {H H0:Heap}{K:V->Heap->Prop}{E B Lg:List (Nat×Obj)}{q:CodeD}{S:Nat->Bool}
theorem OBlks.frzD {os:List OBlk}(ay:∀b∈os,b.ok)(h:Held H S (os.flatMap OBlk.lg)):FrzR H S (os.map OBlk.row) (Ql (os.map OBlk.d)):=by
 rw[Ql,Jbk];exact DO os λx hx=>x.frzD (ay x hx) (h.m hx)
theorem Qbqs {r:Nat}{p:Plc}(h:p∈Am q r):∃b:Nat,p.1=(b:Int)/\b<q.blocks.length:=by
 simp only[Am,A6,Jq,Jw]at h;obtain⟨b,hb,h⟩:=h;refine⟨b,?_,hb⟩;simp only[blS,phS,inS,Jp,Jl]at h;rcases h with ⟨_,_,rfl⟩|⟨_,_,rfl⟩ <;> rfl
theorem Ek:(AR q).length=q.ab.toNat:=by simp[AR]
theorem Hk {r:Nat}(h:r<q.ab.toNat):(AR q).getD r []=[.sl false 1 (AA (Am q r))]:=by simp[AR,Jb,h]
structure PhS (q:CodeD)(k:Nat->Nat)(os:List OBlk):Prop where
 n:os.length=q.blocks.length
 ok:∀b∈os,b.ok
 d:∀j (h:j<os.length) (h':j<q.blocks.length),os[j].d.ins=q.blocks[j].ins/\os[j].jump=q.blocks[j].jump/\os[j].on=q.blocks[j].on/\os[j].nx.ns=q.blocks[j].next
 p:∀j (h:j<os.length),∀p∈os[j].aa,rIn q p.to/\(∀v∈p.ns,rIn q v)/\p.ns.length=(Qz (gnx q) (j:Int) q.blocks.length).length
 l:∀j (h:j<os.length) (h':j<q.blocks.length),os[j].aa.length<=q.blocks[j].aa.length+k j
variable {k k':Nat->Nat}{os:List OBlk}
theorem PhS.up (h:PhS q k os)(hk:∀j,k j<=k' j):PhS q k' os:=⟨h.n,h.ok,h.d,h.p,λj h1 h2=>by have:=h.l j h1 h2;have:=hk j;omega⟩
theorem Qbtt (ho:q.ok){o:OCode}(ay:o.ok)(hd:o.d=q):PhS q (λ_=>0) o.blocks:=by
 have hb:o.blocks.map OBlk.d=q.blocks:=by rw[<-hd];rfl
 have hl:o.blocks.length=q.blocks.length:=by rw[<-hb,Jf]
 have hg:∀j (h:j<o.blocks.length) (h':j<q.blocks.length),o.blocks[j].d=q.blocks[j]:=λj h h'=>by
  have h1:(o.blocks.map OBlk.d)[j]? = some o.blocks[j].d:=ZaY
  rw[hb,Je h']at h1;exact (Jap h1).symm
 refine⟨hl,ay.bs,λj h h'=>by rw[<-hg j h h'];exact⟨rfl,rfl,rfl,rfl⟩,λj h p hp=>?_,λj h h'=>?_⟩
 ·have h':j<q.blocks.length:=ZD
  have o1:=ho.bs j h';rw[<-hg j h h']at o1;have hm:p.d∈o.blocks[j].d.aa:=Jl.2 ⟨p,hp,rfl⟩;exact⟨o1.pto _ hm,o1.pargs _ hm,o1.pal _ hm⟩
 ·rw[<-hg j h h'];simp[OBlk.d]
theorem PhS.step {b:Nat}(h:PhS q k os)(hb:b<os.length){o:OBlk}(aX:os[b]=o){p:OPhi}{pc:C}{pl:List (Nat×Obj)}(hp:p.ok)(hg:Gr pl 2 ((p::o.aa).map OPhi.row) pc)
  (h1:rIn q p.to) (h2:∀v∈p.ns,rIn q v) (h3:p.ns.length=(Qz (gnx q) (b:Int) q.blocks.length).length) (hk:∀j,k' j=if j=b then k j+1 else k j) :
  PhS q k' (os.set b ⟨p::o.aa,pc,pl,o.ins,o.ic,o.il,o.jump,o.on,o.nx⟩):=by
 subst aX;have ay:=h.ok _ (Jc hb);refine⟨by rw[Jag];exact h.n,λw hw=>?_,λj hj cQ=>?_,λj hj x hx=>?_,λj hj cQ=>?_⟩
 ·rcases Jaj hw with hw|rfl
  ·exact h.ok w hw
  ·refine⟨hg,ay.i,λx hx=>?_⟩;rcases Jx.1 hx with rfl|hx
   ·exact hp
   ·exact ay.a x hx
 ·have eS:j<os.length:=Zac
  have hd:=h.d j eS cQ;rw[Jal];split
  ·rename_i e;subst e;exact hd
  ·exact hd
 ·have eS:j<os.length:=Zac
  rw[Jal]at hx;split at hx
  ·rename_i e;subst e
   rcases Jx.1 hx with rfl|hx
   ·exact⟨h1,h2,h3⟩
   ·exact h.p _ eS x hx
  ·exact h.p j eS x hx
 ·have eS:j<os.length:=Zac
  have hl:=h.l j eS cQ;rw[Jal,hk];split
  ·rename_i e;subst e;rw[if_pos rfl];show (p::os[b].aa).length<=_;simp only[Jh];omega
  ·rename_i e;rw[if_neg (λh=>e h.symm)];exact hl
theorem PhS.fin (ho:q.ok)(h:PhS q k os)(hk:∀j (hj:j<q.blocks.length),q.blocks[j].aa.length+k j<=1200):(CodeD.mk q.params q.ab (os.map OBlk.d)).ok:=by
 obtain⟨d,hd⟩:∃d:CodeD,d=⟨q.params,q.ab,os.map OBlk.d⟩:=⟨_,rfl⟩;rw[<-hd];have hl:d.blocks.length=q.blocks.length:=by rw[hd];simpa using h.n
 have b7:∀j (h1:j<d.blocks.length) (h2:j<os.length),d.blocks[j]=os[j].d:=λj h1 h2=>by subst hd;simp
 have iN:d.blocks.map BlkD.next=q.blocks.map BlkD.next:=Jau Zbd λj h1 h2=>by
  simp only[Jf]at h1 h2;have h3:j<os.length:=Za8
  simp only[Jav,b7 j h1 h3];exact (h.d j h3 h2).2.2.2
 have hg:gnx d=gnx q:=by funext i;rw[gnx,gnx,iN]
 have hr:∀v,rIn q v->rIn d v:=λv hv=>by simp only[rIn,hd]at hv⊢;exact hv
 have iC:d.ab=q.ab:=by rw[hd]
 refine⟨by rw[iC];exact ho.r0,by rw[iC];exact ho.r1,by rw[hl];exact ho.b0,by rw[hl];exact ho.b1,λb hb=>?_,λb hb=>?_⟩
 ·have h2:b<q.blocks.length:=ZD
  have h3:b<os.length:=Za8
  have o:=ho.bs b h2;obtain⟨e1,e2,e3,e4⟩:=h.d b h3 h2;have hp:=h.p b h3;rw[b7 b hb h3];have dB:∀p∈os[b].d.aa,rIn q p.to/\(∀v∈p.args,rIn q v)/\p.args.length=(Qz (gnx q) (b:Int) q.blocks.length).length:=λp bX=>by
   obtain⟨x,hx,rfl⟩:=Jl.1 bX;exact hp x hx
  refine⟨by show os[b].nx.ns.length<=2;rw[e4];exact o.nxl,λv hv=>by rw[hl];exact o.nx v (by rw[<-e4];exact hv),by show os[b].jump=1\/os[b].jump=2\/os[b].jump=3;rw[e2];exact o.jmp,λhj=>?_,
   λx hx v hv=>hr _ (o.args x Za9 v hv),λx hx hm=>hr _ (o.to x Za9 hm),λp hp=>hr _ (dB p hp).1,λp hp v hv=>hr _ ((dB p hp).2.1 v hv),λp hp=>by rw[hg,hl];exact (dB p hp).2.2,
   λx hx=>o.al x Za9⟩
  show rIn d os[b].on;rw[e3];exact hr _ (o.on (by rw[<-e2];exact hj))
 ·have h2:b<q.blocks.length:=ZD
  have h3:b<os.length:=Za8
  have o:=ho.il b h2;have e1:=(h.d b h3 h2).1;have:=h.l b h3 h2;have:=hk b h2;rw[b7 b hb h3,e1];refine⟨o.1,?_⟩;simp only[OBlk.d,Jf];omega
theorem I2 {l:List Nat}(h:l.Nodup){i:Nat}(hi:i<l.length):l[i]∉l.take i:=λhh=>by
 obtain⟨j,hj,he⟩:=Jy.1 hh;rw[J4]at hj;rw[List.getElem_take]at he;have fK:j<l.length:=ZD
 have:=(List.getElem?_inj fK h (j:=i)).1 (by rw[Je fK,Je hi,he]);omega
def OBlk.rst (o:OBlk):List (Nat×Obj):=o.nx.lg++(o.aa.flatMap OPhi.lg++(o.ins.flatMap OIns.lg++o.il))
theorem OBlk.lg_perm (o:OBlk):o.lg.Perm (o.rst++o.pl):=Qt λf hf h0 hc hp=>by simp only[hf,OBlk.lg,OBlk.rst];omega
set_option maxHeartbeats 8000000 in
theorem Qbm8 (ho:q.ok)(dB:∀y∈q.blocks,y.aa.length<=900)(hK:∀(d:CodeD) H',d.ok->d.params=q.params->d.ab=q.ab->Upd H H' []->K (.ag d.cells) H') :
  Qv prog Q57 [.ag [.int .i64 q.params,.int .i64 q.ab,.sl false 5 (Ql q.blocks)]] H K:=by
 have bH:=ho.r0;have dC:=ho.r1;have fw:=ho.b0;have bf:=ho.b1;obtain⟨n,hn⟩:∃n,q.blocks.length=n:=⟨_,rfl⟩;obtain⟨R,hR⟩:∃R:Nat,q.ab.toNat=R:=⟨_,rfl⟩;have lz:q.ab=(R:Int):=ZD
 have hgf:=GC ho.gd;refine Q0 ?_;refine Qc Ab Qbnz ?_;refine Za ?_;intro x2 aW H1 h1;have kn:=(Kn.ar H).al aW h1;refine Za ?_;refine DI ho.sg λo H2 k2 ay eZ _=>?_;have kn:=kn.comp0 k2;have fj:o.params=q.params:=Zbc
 have gR:o.ab=q.ab:=Zbc
 have dJ:o.blocks.length=n:=by rw[<-hn,<-eZ];simp[OCode.d]
 obtain⟨zb,db,bG⟩:∃z,o.bc=.ah z 5 0 n/\o.bl=[(z,.vec 5 (o.blocks.map OBlk.row))]:=by
  rcases ay.b with ⟨_,h,_⟩|⟨y,h1,h2⟩
  ·have:=congrArg List.length h;simp only[Jf,Jj]at this;omega
  ·exact⟨y,by rw[h1,Jf,dJ],h2⟩
 have a8:o.row=[.int .i64 q.params,.int .i64 q.ab,.ah zb 5 0 n]:=by rw[OCode.row,fj,gR,db]
 have hP:=Qbtt ho ay eZ;have tp:o.lg=o.blocks.flatMap OBlk.lg++[(zb,.vec 5 (o.blocks.map OBlk.row))]:=by rw[OCode.lg,bG]
 rw[tp]at kn;rw[a8];generalize o.blocks=os0 at *;clear ay eZ fj gR a8 tp db bG k2;simp only[go_sem,NL];intro x3 aF H3 h3;have kn:=(kn.al aF h3).perm J1;have aF:=kn.l 0 rfl;simp only[go_sem,NM,aF];intro H4 h4;have kn:Kn H H4 [] ([(x3,.st [.int .i64 q.params,.int .i64 q.ab,.ah zb 5 0 n])]++([(x2,.st [.int .i64 0,.int .i64 0,.sl true 5 []])]++(os0.flatMap OBlk.lg++[(zb,.vec 5 (os0.map OBlk.row))]))):=kn.aB 0 rfl h4;refine Za ?_;refine FG (rows:=Ql q.blocks) (nx:=gnx q) hgf ZaC λH5 hu=>?_;have kn:=kn.aw hu;rw[Qj];simp only[go_sem,NK];refine Za ?_;refine Km ho (.sl _ _ _ _) λzi zo H6 hu cL=>?_;have kn:=kn.aw hu;simp only[go_sem,NI];intro x5 bm H7 h7;have kn:=(kn.al bm h7).perm J1;have bm:=kn.l 0 rfl;simp only[go_sem,NJ,bm];intro H8 h8;have kn:Kn H H8 [] (([(x3,.st [.int .i64 q.params,.int .i64 q.ab,.ah zb 5 0 n]),(x2,.st [.int .i64 0,.int .i64 0,.sl true 5 []]),(x5,.st [.sl false 1 (Ck zi),.sl false 1 (Ck zo)])]++[(zb,.vec 5 (os0.map OBlk.row))])++os0.flatMap OBlk.lg):=
  (kn.aB 0 rfl h8).perm (Qt λf hf h0 hc hp=>by
   have e3:∀(a b c:Nat×Obj),f [a,b,c]=f [a]+f [b]+f [c]:=λa b c=>by rw[hc a [b,c],hc b [c]];omega
   show f ([(x5,_)]++_)=_;simp only[hf,e3];omega)
 obtain⟨XL,hX⟩:∃XL,[(x3,Obj.st [.int .i64 q.params,.int .i64 q.ab,.ah zb 5 0 n]),(x2,.st [.int .i64 0,.int .i64 0,.sl true 5 []]),(x5,.st [.sl false 1 (Ck zi),.sl false 1 (Ck zo)])]=XL:=⟨_,rfl⟩;rw[hX]at kn;have gX:∀{H1:Heap} {A:List (Nat×Obj)},Kn H H1 [] (XL++A)->H1 x3=.st [.int .i64 q.params,.int .i64 q.ab,.ah zb 5 0 n]/\H1 x5=.st [.sl false 1 (Ck zi),.sl false 1 (Ck zo)]:=λ{H1 A} k=>by
  rw[<-hX]at k;exact⟨k.l 0 rfl,k.l 2 rfl⟩
 clear aF bm h8 h4 h1 aW;refine Za ?_;refine Kl ho λH9 hu=>?_;have kn:=kn.aw hu;simp only[go_sem,NH];refine Wa ?_;refine⟨Qo,?_⟩;have nX:PhS q (λ_=>0) os0:=hP;refine Qg (Qd (Qs (λm e1 H1=>∃(r:Nat) (os:List OBlk),m=r/\r<=R/\PhS q (λ_=>R-r) os/\Kn H H1 [] ((XL++[(zb,.vec 5 (os.map OBlk.row))])++os.flatMap OBlk.lg)/\
  lk 1 e1=.c (.pp [.int .i64 q.params,.int .i64 q.ab,.sl false 5 (Ql q.blocks)])/\lk 2 e1=.c (.ptr x2 0)/\lk 3 e1=.c (.ptr x3 0)/\lk 4 e1=.c (.sl false 1 (A7 q.blocks.length (nxN (gnx q)) q.blocks.length))/\lk 5 e1=.c (.ptr x5 0)/\lk 6 e1=.c (.sl false 1 (AR q))/\lk 7 e1=.c (.int .i64 ((r:Int)-1))) R ?_ ?_))
 ·exact⟨R,os0,rfl,ZD,nX.up λj=>ZF,kn,rfl,rfl,rfl,rfl,rfl,rfl,by simp only[lk,lz];rfl⟩
 ·clear kn nX hP;rintro m e1 H10 ⟨r,os,rfl,iD,hS,kn,l1,l2,l3,l4,l5,l6,l7⟩;refine Q3 (Qa ?_);simp only[go_sem,l1,l2,l3,l4,l5,l6,l7];refine Wv ?_ ?_
  ·intro hc;have aY:(0:Int)<=(m:Int)-1:=ZG
   obtain⟨r,rfl⟩:∃r,m=r+1:=⟨m-1,ZD⟩;have er:((r+1:Nat):Int)-1=(r:Int):=ZD
   rw[er];have hrlt:r<R:=ZD
   have mi:r<q.ab.toNat:=ZD
   refine Ze ?_
   refine Qg (Qd ?_);refine Wf ?_;refine Az (λe2 H2=>∃(fo:Bool) (ns:List Int),H2=H10/\ns.Pairwise (· < ·)/\(∀x∈ns,0<=x/\x<n)/\
    lk 1 e2=.c (.pp [.int .i64 q.params,.int .i64 q.ab,.sl false 5 (Ql q.blocks)])/\lk 2 e2=.c (.ptr x2 0)/\lk 3 e2=.c (.ptr x3 0)/\lk 4 e2=.c (.sl false 1 (A7 q.blocks.length (nxN (gnx q)) q.blocks.length))/\lk 5 e2=.c (.ptr x5 0)/\lk 6 e2=.c (.sl false 1 (AR q))/\lk 7 e2=.c (.int .i64 r)/\lk 8 e2=.c (.sl fo 1 (Qb ns))) ?_ ?_
   ·intro Q br _ _;refine Ww ?_ ?_
    ·intro _;refine Zi ?_;refine br _ _ ⟨true,[0],rfl,ZF,?_,rfl,rfl,rfl,rfl,rfl,rfl,rfl,rfl⟩;intro x hx;simp only[Ja]at hx;subst hx;omega
    ·intro _;refine Ze ?_
     exact br _ _ ⟨true,[],rfl,ZF,ZF,rfl,rfl,rfl,rfl,rfl,rfl,rfl,rfl⟩
   rintro e2 H2 ⟨fo,ns,rfl,ha,dq,l1,l2,l3,l4,l5,l6,l7,l8⟩;refine Q3 (Qa ?_);simp only[go_sem,l1,l2,l3,l4,l5,l6,l7,l8];have fy:∀i (h:i<(Am q r).length),∃b:Nat,(Am q r)[i].1=(b:Int)/\b<n:=λi h=>by rw[<-hn];exact Qbqs (Jc h)
   obtain⟨sl,eA⟩:∃sl,Am q r=sl:=⟨_,rfl⟩;have iB:=Hk mi;rw[eA]at iB fy;refine Qg (Qd (Qs (λm2 e1 H1=>∃(i:Nat) (fo:Bool) (ns:List Int),m2=sl.length-i/\i<=sl.length/\ns.Pairwise (· < ·)/\(∀x∈ns,0<=x/\x<n)/\Kn H H1 [] ((XL++[(zb,.vec 5 (os.map OBlk.row))])++os.flatMap OBlk.lg)/\
    lk 1 e1=.c (.pp [.int .i64 q.params,.int .i64 q.ab,.sl false 5 (Ql q.blocks)])/\lk 2 e1=.c (.ptr x2 0)/\lk 3 e1=.c (.ptr x3 0)/\lk 4 e1=.c (.sl false 1 (A7 q.blocks.length (nxN (gnx q)) q.blocks.length))/\lk 5 e1=.c (.ptr x5 0)/\lk 6 e1=.c (.sl false 1 (AR q))/\lk 7 e1=.c (.int .i64 r)/\lk 8 e1=.c (.sl fo 1 (Qb ns))/\lk 9 e1=.c (.int .i64 i)) sl.length ?_ ?_))
   ·exact⟨0,fo,ns,ZD,ZD,ha,dq,kn,rfl,rfl,rfl,rfl,rfl,rfl,rfl,rfl,rfl⟩
   ·clear kn ha dq l1 l2 l3 l4 l5 l6 l7 l8;rintro m2 e3 H11 ⟨i,fo,ns,eK,hi,ha,dq,kn,l1,l2,l3,l4,l5,l6,l7,l8,l9⟩;have oU:∀x∈ns,0<=x:=λx hx=>(dq x hx).1;have mA:ns.length<=n:=by
     have:=CF (n:=n) (GR oU ha) λx hx=>by
      obtain⟨v,hv,rfl⟩:=Jl.1 hx;have:=dq v hv;omega
     simpa using this
    refine Q3 (Qa ?_);simp only[go_sem,l1,l2,l3,l4,l5,l6,l7,l8,l9,mi,Ek,iB,BW];intro eu;simp only[LIM]at eu;refine Wv ?_ ?_
    ·intro ao;have ae:i<sl.length:=ZI;obtain⟨b,hb,cM⟩:=fy i ae;refine Ze ?_
     refine Wt ?_;simp only[go_sem,mi,Ek,iB,BW,ae,Qbi8 _ _ ae,pRow,hb,Js,Jbh];try simp only[go_sem,Js,Jbh,Jh,Jj]
     refine⟨Jan 0,?_⟩;refine Pe ha ZD λfl2 ns2 H12 hu ly fq ft=>?_;have kn:=kn.aw hu;simp only[go_sem,NG];refine Zi ?_;refine⟨Qo,?_⟩;show ∃m,_;refine⟨sl.length-(i+1),ZD,i+1,fl2,ns2,rfl,ZD,ly,λx hx=>?_,kn,rfl,rfl,rfl,rfl,rfl,rfl,rfl,rfl,ZE⟩;rcases (fq x).1 hx with rfl|hx
     ·omega
     ·exact dq x hx
    ·intro _;refine Wc ?_;rw[Fm oU];refine Qank ho (by rw[Jf];omega) λfs H12 hu jT iR=>?_;have kn:=kn.aw hu;have fz:=CF jT iR;rw[hn]at fz iR;simp only[go_sem,Q4g];refine Za ?_;refine Qd (Qs (λm2 e1 H1=>∃(i:Nat) (os:List OBlk),m2=fs.length-i/\i<=fs.length/\PhS q (λj=>R-(r+1)+if j∈fs.take i then 1 else 0) os/\Kn H H1 [] ((XL++[(zb,.vec 5 (os.map OBlk.row))])++os.flatMap OBlk.lg)/\
      lk 1 e1=.c (.pp [.int .i64 q.params,.int .i64 q.ab,.sl false 5 (Ql q.blocks)])/\lk 2 e1=.c (.ptr x2 0)/\lk 3 e1=.c (.ptr x3 0)/\lk 4 e1=.c (.sl false 1 (A7 q.blocks.length (nxN (gnx q)) q.blocks.length))/\lk 5 e1=.c (.ptr x5 0)/\lk 6 e1=.c (.sl false 1 (AR q))/\lk 7 e1=.c (.int .i64 r)/\
      lk 10 e1=.c (.sl false 1 (Q7 fs))/\lk 11 e1=.c (.int .i64 i)) fs.length ?_ ?_)
     ·exact⟨0,os,ZD,ZD,hS.up λj=>ZF,kn,rfl,rfl,rfl,rfl,rfl,rfl,rfl,rfl,rfl⟩
     ·have ws:fs.Nodup:=jT.imp λh=>ZD;clear kn hS jT ha dq oU mA l1 l2 l3 l4 l5 l6 l7 l8 l9;rintro m3 e4 H13 ⟨i,os,nF,hi,hS,kn,l1,l2,l3,l4,l5,l6,l7,l10,l11⟩;refine Q3 (Qa ?_);simp only[go_sem,l1,l2,l3,l4,l5,l6,l7,l10,l11,Q1];try intro _
      refine Wv ?_ ?_
      ·intro ao;have ae:i<fs.length:=ZI;obtain⟨b,hb⟩:∃b,fs[i]=b:=⟨_,rfl⟩;have mU:fs.getD i 0=b:=(by simp[Jb,ae,hb]);have cM:b<n:=(by rw[<-hb];exact iR _ (Jc ae));have oW:b∉fs.take i:=(by rw[<-hb];exact I2 ws ae);have b8:∀j,j∈fs.take (i+1)↔j∈fs.take i\/j=b:=λj=>by
        rw[Jk ae,hb];simp
       have mZ:b<zi.length:=(by rw[cL.1.i,hn];exact cM);obtain⟨nd,bE⟩:∃nd,zi[b].2=nd:=⟨_,rfl⟩;have oZ:r<nd.length:=(by rw[<-bE,cL.1.li _ (Jc mZ)];exact mi);have bm:=(gX (by rw[Jab]at kn;exact kn)).2;refine Ze ?_
       refine Az (λe2 H2=>∃(os:List OBlk),PhS q (λj=>R-(r+1)+if j∈fs.take (i+1)then 1 else 0) os/\Kn H H2 [] ((XL++[(zb,.vec 5 (os.map OBlk.row))])++os.flatMap OBlk.lg)/\
        lk 1 e2=.c (.pp [.int .i64 q.params,.int .i64 q.ab,.sl false 5 (Ql q.blocks)])/\lk 2 e2=.c (.ptr x2 0)/\lk 3 e2=.c (.ptr x3 0)/\lk 4 e2=.c (.sl false 1 (A7 q.blocks.length (nxN (gnx q)) q.blocks.length))/\lk 5 e2=.c (.ptr x5 0)/\lk 6 e2=.c (.sl false 1 (AR q))/\lk 7 e2=.c (.int .i64 r)/\
        lk 10 e2=.c (.sl false 1 (Q7 fs))/\lk 11 e2=.c (.int .i64 i)) ?_ ?_
       ·intro Q br _ _;refine Qd (Q3 ?_);refine Aj ?_;simp only[go_sem,bm,ae,Q1,Bk _ _ ae,mU,mZ,OB,KZ _ _ mZ,bE,oZ,Qu,Qx _ _ oZ];refine Wv ?_ ?_
        ·intro _;refine Qq ?_;simp only[go_sem];refine br _ _ ⟨os,hS.up λj=>?_,kn,rfl,rfl,rfl,rfl,rfl,rfl,rfl,rfl,rfl⟩;show _+_<=_+_;by_cases hj:j∈fs.take i
         ·rw[if_pos hj,if_pos ((b8 j).2 (.inl hj))];exact Jo _
         ·rw[if_neg hj];omega
        ·intro _;refine Ze ?_
         refine Za ?_;intro x12 eF H14 sU;have kn:=kn.al eF sU;have eF:H14 x12=.st [.int .i64 0,.sl true 1 []]:=(kn.get (x12,.st [.int .i64 0,.sl true 1 []]) ZF).1;simp only[go_sem,Q4h,eF];intro H15 nZ;have kn:Kn H H15 [] (([(x12,.st [.int .i64 r,.sl true 1 []])]++((XL++[(zb,.vec 5 (os.map OBlk.row))])++os.flatMap OBlk.lg))++[]):=by
          rw[Jbi];exact (kn.perm J1).aB 0 rfl nZ
         refine Q3 (Aj ?_);simp only[go_sem,ae,Q1,Bk _ _ ae,mU];refine CY (nx:=gnx q) (.mk' _ _ _ _) rfl (Cs H15 q false).x λH16 hu=>?_;have kn:=kn.aw hu;rw[Qj];have cP:=Ct (gnx q) (b:Int) q.blocks.length;obtain⟨np,kN⟩:∃np,(Qz (gnx q) (b:Int) q.blocks.length).length=np:=⟨_,rfl⟩;rw[kN]at cP;simp only[go_sem,Q4i,Qe,kN];try intro _
         refine Qg (Qd (Qs (λm4 e1 H1=>∃(j:Nat) (t:C) (Lg:List (Nat×Obj)),m4=np-j/\j<=np/\Gr Lg 1 (Qb (List.replicate j (r:Int))) t/\Kn H H1 [] (([(x12,.st [.int .i64 r,t])]++((XL++[(zb,.vec 5 (os.map OBlk.row))])++os.flatMap OBlk.lg))++Lg)/\
          lk 1 e1=.c (.pp [.int .i64 q.params,.int .i64 q.ab,.sl false 5 (Ql q.blocks)])/\lk 2 e1=.c (.ptr x2 0)/\lk 3 e1=.c (.ptr x3 0)/\lk 4 e1=.c (.sl false 1 (A7 q.blocks.length (nxN (gnx q)) q.blocks.length))/\lk 5 e1=.c (.ptr x5 0)/\lk 6 e1=.c (.sl false 1 (AR q))/\lk 7 e1=.c (.int .i64 r)/\
          lk 10 e1=.c (.sl false 1 (Q7 fs))/\lk 11 e1=.c (.int .i64 i)/\lk 12 e1=.c (.ptr x12 0)/\lk 85 e1=.c (.int .i64 np)/\lk 86 e1=.c (.int .i64 j)) np ?_ ?_))
         ·exact⟨0,_,[],ZD,ZD,.nil 1,kn,rfl,rfl,rfl,rfl,rfl,rfl,rfl,rfl,rfl,rfl,rfl,rfl⟩
         ·clear kn eF bm l1 l2 l3 l4 l5 l6 l7 l10 l11;rintro m4 e5 H17 ⟨j,t,Lg,yg,hj,mS,kn,l1,l2,l3,l4,l5,l6,l7,l10,l11,l12,l85,l86⟩;have eb:=mS.ai;have eF:=kn.l 0 rfl;refine Qa ?_;simp only[go_sem,l1,l2,l3,l4,l5,l6,l7,l10,l11,l12,l85,l86];refine Wv ?_ ?_
          ·intro bk;have aV:j<np:=ZM;refine Ze ?_
           refine Wt ?_;simp only[go_sem,eF,eb];refine kn.bD (new:=Qb [(r:Int)]) mS (.mk' _ _ _ _) (Qy _) (by simp only[Qe,LIM,Jh,Jj,Jas];omega) λt2 Lg2 H18 pw ee kn=>?_;have eF:=kn.l 0 rfl;simp only[go_sem,Q4j,eF];intro H19 h19;have kn:=kn.aB 0 rfl h19;refine Zi ?_;refine⟨Qo,?_⟩;show ∃m,_;refine⟨np-(j+1),ZD,j+1,t2,Lg2,rfl,ZD,?_,kn,rfl,rfl,rfl,rfl,rfl,rfl,rfl,rfl,rfl,rfl,rfl,ZE⟩;rw[List.replicate_succ',CO];exact pw
          ·intro bk;have lL:j=np:=(by have:np<=j:=(by simpa using bk);omega);subst lL;refine Zb ?_;have dr:b<os.length:=(by rw[hS.n,hn];exact cM);obtain⟨o,aX⟩:∃o,os[b]=o:=⟨_,rfl⟩;have fT:o.ok:=(by rw[<-aX];exact hS.ok _ (Jc dr));obtain⟨Z,hZ⟩:∃Z,(os.eraseIdx b).flatMap OBlk.lg=Z:=⟨_,rfl⟩;have jg:(os.flatMap OBlk.lg).Perm (o.lg++Z):=(by rw[<-hZ,<-aX];exact DT dr);obtain⟨RW,lP⟩:∃RW,os.map OBlk.row=RW:=⟨_,rfl⟩;have bv:RW.length=n:=(by rw[<-lP,Jf,hS.n,hn]);have bq:RW.getD b []=[o.pc,o.ic,.int .i64 o.jump,.int .i64 o.on,.ah o.nx.y 1 0 o.nx.ns.length]:=by
            rw[<-lP,Jb];simp only[J0,Je dr,aX,J2,Jz];exact o.row_eq
           have bC:RW.take n=RW:=Jg ZD;have jw:=fT.p.ai;have nN:=fT.i.ai;rw[lP]at kn;obtain⟨p,hp⟩:∃p:OPhi,p=⟨r,List.replicate j (r:Int),t,Lg⟩:=⟨_,rfl⟩;have gS:p.ok:=by
            rw[hp];rcases mS with ⟨h1,h2,h3⟩|⟨y,h1,h2⟩
            ·right;refine⟨true,?_,h3⟩;show t=_;rw[h1,h2]
            ·left;refine⟨y,?_,h2⟩;show t=_;rw[h1,Qe]
           have gm:p.row=[.int .i64 r,t]:=(by rw[hp];rfl);have kn:Kn H H17 [] (([(zb,.vec 5 RW)]++([(x12,.st p.row)]++(XL++(Z++(o.rst++Lg)))))++o.pl):=kn.perm (Qt λf hf h0 hc bX=>by
            have h1:=bX _ _ jg;have h2:=bX _ _ o.lg_perm;rw[gm];simp only[hf]at h1 h2⊢;omega)
           have aF:H17 x3=.st [.int .i64 q.params,.int .i64 q.ab,.ah zb 5 0 n]:=(kn.get (x3,.st [.int .i64 q.params,.int .i64 q.ab,.ah zb 5 0 n]) Za6).1;have eF:=kn.l 1 rfl;rw[gm]at eF;have cN:=kn.l 0 rfl;refine Aw ?_;simp only[go_sem,aF,eF,cN,bv,bC,bq,ae,Q1,Bk _ _ ae,mU,cM,jw,eb,Jn,Jo];intro y hy H18 xw;have kn:=kn.al hy xw;have kp:=kn.perm (L':=(([(zb,.vec 5 RW)]++([(x12,.st p.row)]++(XL++(Z++(o.rst++Lg)))))++[(y,.vec 2 [[.int .i64 r,t]])])++o.pl) BI;have b7:=fT.p.get kp;have eA:Slc H18 2 (o.aa.map OPhi.row) o.pc:=⟨b7.1,fT.p.aN,b7.2,fT.p.ax⟩;have uV:∀w∈o.aa.map OPhi.row,Go.AE.an w=true:=λw hw=>by
            obtain⟨x,hx,rfl⟩:=Jl.1 hw;exact x.an (fT.a x hx)
           have mo:Gr [(y,.vec 2 [[.int .i64 r,t]])] 2 [[.int .i64 r,t]] (.ah y 2 0 1):=.mk _ _ _ rfl;generalize bV:C.ah y 2 0 1=yc at mo⊢;have hycw:=mo.ai;have ew:b<q.blocks.length:=(by rw[hn];exact cM);have eP:o.aa.length<=3000:=by
            have h1:=hS.l b dr ew;have h2:=ho.il b ew;rw[aX]at h1;have h3:(R-(r+1)+if b∈fs.take i then 1 else 0)<=R+1:=(by split <;> omega);have h1:o.aa.length<=q.blocks[b].aa.length+(R-(r+1)+if b∈fs.take i then 1 else 0):=h1;omega
           have aF:H18 x3=.st [.int .i64 q.params,.int .i64 q.ab,.ah zb 5 0 n]:=(kn.get (x3,.st [.int .i64 q.params,.int .i64 q.ab,.ah zb 5 0 n]) Za6).1;have cN:H18 zb=.vec 5 RW:=(kn.get (zb,.vec 5 RW) ZF).1;simp only[go_sem,Q4l,aF,cN,bv,bC,bq,ae,Q1,Bk _ _ ae,mU,cM,jw,Jn,Jo];refine kn.bD (new:=o.aa.map OPhi.row) mo eA uV (by simp only[Jf,Jh,Jj,LIM];omega) λt2 Lg2 H19 eC ee kn=>?_;have aF:H19 x3=.st [.int .i64 q.params,.int .i64 q.ab,.ah zb 5 0 n]:=(kn.get (x3,.st [.int .i64 q.params,.int .i64 q.ab,.ah zb 5 0 n]) Za6).1;have cN:H19 zb=.vec 5 RW:=(kn.get (zb,.vec 5 RW) ZF).1;simp only[go_sem,Q4k,aF,cN,bv,bq,ae,Q1,Bk _ _ ae,mU,cM,Jn,Jo];intro H20 qx;obtain⟨o',eQ⟩:∃o':OBlk,o'=⟨p::o.aa,t2,Lg2,o.ins,o.ic,o.il,o.jump,o.on,o.nx⟩:=⟨_,rfl⟩;have bK:RW.set b [t2,o.ic,.int .i64 o.jump,.int .i64 o.on,.ah o.nx.y 1 0 o.nx.ns.length]=(os.set b o').map OBlk.row:=(by rw[<-lP,Jbe,eQ];rfl);rw[bK]at qx;have kn:=kn.aB 0 rfl qx;have aR:=hS.step dr aX (k':=λj=>R-(r+1)+if j∈fs.take (i+1)then 1 else 0) gS (pc:=t2) (pl:=Lg2) (by rw[Ja1,gm];exact eC) (by rw[hp];exact (⟨ZD,ZD⟩:(0:Int)<=(r:Int)/\(r:Int)<q.ab)) (λv hv=>by
            rw[hp]at hv;rw[Jac hv];exact⟨ZD,ZD⟩) (by rw[hp,kN];simp) (λj'=>by
            by_cases cQ:j'=b
            ·subst cQ;rw[if_pos rfl,if_pos ((b8 j').2 (.inr rfl)),if_neg oW]
            ·rw[if_neg cQ];by_cases fK:j'∈fs.take i
             ·rw[if_pos fK,if_pos ((b8 j').2 (.inl fK))]
             ·rw[if_neg fK,if_neg (λh=>by rcases (b8 j').1 h with h|h;exact fK h;exact cQ h)])
           rw[<-eQ]at aR;refine br _ _ ⟨os.set b o',aR,?_,rfl,rfl,rfl,rfl,rfl,rfl,rfl,rfl,rfl⟩;have dQ:=DT (f:=OBlk.lg) (l:=os.set b o') (i:=b) (by rw[Jag];exact dr);rw[List.getElem_set_self,List.eraseIdx_set_eq,hZ]at dQ;have uJ:∀f:List (Nat×Obj)->Nat,(∀a b,f (a++b)=f a+f b)->f o'.rst=f o.rst+f Lg:=λf hf=>by
            rw[eQ];simp only[OBlk.rst,Jai,hf];have:p.lg=Lg:=(by rw[hp]);rw[this];omega
           have uX:o'.pl=Lg2:=(by rw[eQ]);refine Kn.drop (B:=[(x12,.st p.row)]++o.pl) (kn.perm (Qt λf hf h0 hc bX=>?_));have h1:=bX _ _ dQ;have h2:=bX _ _ o'.lg_perm;have h3:=uJ f hf;rw[uX]at h2;show f (([(zb,_)]++([(x12,_)]++(XL++(Z++(o.rst++Lg)))))++o.pl++Lg2)=_;simp only[hf]at h1 h2 h3⊢;omega
       ·rintro e5 H14 ⟨os,hS,kn,l1,l2,l3,l4,l5,l6,l7,l10,l11⟩;refine Qp ?_;simp only[go_sem,l1,l2,l3,l4,l5,l6,l7,l10,l11];refine⟨Qo,?_⟩;show ∃m,_;exact⟨fs.length-(i+1),ZD,i+1,os,rfl,ZD,hS,kn,rfl,rfl,rfl,rfl,rfl,rfl,rfl,rfl,ZE⟩
      ·intro ao;refine Zb ?_;refine Zi ?_;refine⟨Qo,?_⟩;show ∃m,_;refine⟨r,ZD,r,os,rfl,ZD,hS.up λj=>?_,kn,rfl,rfl,rfl,rfl,rfl,rfl,rfl⟩;show _+_<=_;split <;> omega
  ·intro hc;have rf:m=0:=by have:¬(0:Int)<=(m:Int)-1:=ZG;omega
   subst rf;refine Zb ?_;have aF:H10 x3=.st [.int .i64 q.params,.int .i64 q.ab,.ah zb 5 0 n]:=(kn.get (x3,.st [.int .i64 q.params,.int .i64 q.ab,.ah zb 5 0 n]) Za6).1;rw[<-hX]at kn;have aW:=kn.l 1 rfl;refine Zn aF aW ?_;intro H11 dG;have kn:=kn.aB 1 rfl dG;have aW:=kn.l 1 rfl;refine Zj aW ?_;have fv:Held H11 (un H) (os.flatMap OBlk.lg):=λp hp=>⟨(kn.get p (by simp only[List.set,Jak,Jah,Jx];exact .inr (.inr (.inr (.inr hp))))).1,BE (kn.loc p (by simp only[List.set,Jak,Jah,Jx];exact .inr (.inr (.inr (.inr hp)))))⟩;have hz:=kn.l 3 rfl;have cx:=OBlks.frzD (H:=H11) (S:=un H) hS.ok fv;exact⟨_,FrzL.ag (.cons (Qi rfl) (.cons (Qi rfl) (.cons (cx.ah (kn.un 3 rfl) hz (by rw[Jf,hS.n,hn])) .nil))),hK ⟨q.params,q.ab,os.map OBlk.d⟩ _ (hS.fin ho λj hj=>by
    have:=dB _ (Jc hj);have:=ho.il j hj;show _+(R-0)<=_;omega) rfl rfl kn.fin⟩
end Go.AE.Y
namespace Go.AE
def SimC (c c':C):Prop:=c'=c\/∃a b:Int,c=.int .i64 a/\c'=.int .i64 b
inductive SimR:List C->List C->Prop
 |nil:SimR [] []
 |cons {c c':C} {l l':List C} (h:SimC c c') (t:SimR l l'):SimR (c::l) (c'::l')
theorem SimR.same:∀l,SimR l l
 |[]=>.nil
 |c::l=>.cons (.inl rfl) (SimR.same l)
theorem SimC.trans {a b c:C}(h:SimC a b)(k:SimC b c):SimC a c:=by
 rcases h with rfl|⟨x,y,rfl,rfl⟩
 ·exact k
 ·rcases k with rfl|⟨u,v,hu,rfl⟩
  ·exact .inr ⟨x,y,rfl,rfl⟩
  ·exact .inr ⟨x,v,rfl,rfl⟩
theorem SimR.trans {a b c:List C}(h:SimR a b):SimR b c->SimR a c:=by
 induction h generalizing c with
 |nil=>exact id
 |cons h t ih=>
  intro k
  cases k with
  |cons h2 t2=>exact .cons (h.trans h2) (ih t2)
theorem SimC.int {a:Int}{c:C}(h:SimC (.int .i64 a) c):∃b:Int,c=.int .i64 b:=by
 rcases h with rfl|⟨x,y,_,rfl⟩
 ·exact⟨a,rfl⟩
 ·exact⟨y,rfl⟩
theorem SimC.sl {fl:Bool}{sz:Nat}{rows:List (List C)}{c:C}(h:SimC (.sl fl sz rows) c):c=.sl fl sz rows:=by
 rcases h with rfl|⟨x,y,h,_⟩
 ·rfl
 ·simp at h
theorem SimC.ah {l sz st n:Nat}{c:C}(h:SimC (.ah l sz st n) c):c=.ah l sz st n:=by
 rcases h with rfl|⟨x,y,h,_⟩
 ·rfl
 ·simp at h
def SimO (X:Nat->Prop)(o o':Obj):Prop:=∃sz rows rows',o=.vec sz rows/\o'=.vec sz rows'/\rows'.length=rows.length/\∀r,r<rows.length->SimR (rows.getD r []) (rows'.getD r [])/\(X r->rows'.getD r []=rows.getD r [])
variable {X X':Nat->Prop}{o o':Obj}
theorem SimO.same (sz:Nat)(rows:List (List C)):SimO X (.vec sz rows) (.vec sz rows):=⟨sz,rows,rows,rfl,rfl,rfl,λr _=>⟨.same _,λ_=>rfl⟩⟩
theorem SimO.mono (h:SimO X o o')(hX:∀r,X' r->X r):SimO X' o o':=by
 obtain⟨sz,rows,rows',h1,h2,h3,h4⟩:=h;exact⟨sz,rows,rows',h1,h2,h3,λr hr=>⟨(h4 r hr).1,λhx=>(h4 r hr).2 (hX r hx)⟩⟩
theorem SimO.get {sz:Nat}{rows:List (List C)}(h:SimO X (.vec sz rows) o'):∃rows',o'=.vec sz rows'/\rows'.length=rows.length/\∀r,r<rows.length->SimR (rows.getD r []) (rows'.getD r [])/\(X r->rows'.getD r []=rows.getD r []):=by
 obtain⟨sz,rows,rows',h1,h2,h3,h4⟩:=h;cases h1;exact⟨rows',h2,h3,h4⟩
theorem SimO.set {sz:Nat}{rows rows':List (List C)}(h:SimO X (.vec sz rows) (.vec sz rows')){r:Nat}{new:List C}(hr:r<rows.length)(hs:SimR (rows.getD r []) new)(hX:∀r',r'≠r->X' r'->X r')(hn:¬X' r) :
  SimO X' (.vec sz rows) (.vec sz (rows'.set r new)):=by
 obtain⟨rows2,h2,h3,h4⟩:=h.get;cases h2;refine⟨sz,rows,_,rfl,rfl,by rw[Jag];exact h3,λr' bh=>?_⟩;by_cases e:r'=r
 ·subst e;have:(rows'.set r' new).getD r' []=new:=by rw[Jb,List.getElem?_set_self ZD];rfl
  rw[this];exact⟨hs,λhx=>absurd hx hn⟩
 ·have:(rows'.set r new).getD r' []=rows'.getD r' []:=by rw[Jb,List.getElem?_set_ne (λh=>e h.symm),<-Jb]
  rw[this];exact⟨(h4 r' bh).1,λhx=>(h4 r' bh).2 (hX r' e hx)⟩
def Ty (LG:List (Nat×Obj))(F:Heap)(E0:List (Nat×Obj))(X:Nat->Nat->Prop)(H:Heap)(L:List (Nat×Obj)):Prop:=
 ∃E1:List (Nat×Obj),E1.map Prod.fst=LG.map Prod.fst/\(∀p∈LG,∀ob,(p.1,ob)∈E1->SimO (X p.1) p.2 ob)/\Kn F H (E0++E1) L
namespace Ty
variable {LG E0 L A N:List (Nat×Obj)}{F H H':Heap}{X X':Nat->Nat->Prop}{m:Nat}{o ob:Obj}
theorem nodup (t:Ty LG F E0 X H L):(LG.map Prod.fst).Nodup:=by
 obtain⟨E1,h1,h2,kn⟩:=t;have:=kn.dE;rw[Jt]at this;rw[<-h1];exact (Ju.1 this).2.1
theorem get (t:Ty LG F E0 X H L)(hm:(m,o)∈LG):SimO (X m) o (H m):=by
 obtain⟨E1,h1,h2,kn⟩:=t;have h3:m∈E1.map Prod.fst:=by rw[h1];exact Ax hm
 obtain⟨p,hp,he⟩:=Jl.1 h3;have h4:=(kn.get p (Ji _ (Jd _ hp))).1;obtain⟨a,b⟩:=p;simp only at he h4;subst he;rw[h4];exact h2 _ hm _ hp
theorem e (t:Ty LG F E0 X H L)(i:Nat){x:Nat}{oo:Obj}(h:E0[i]? = some (x,oo)):H x=oo:=by
 obtain⟨E1,h1,h2,kn⟩:=t;exact (kn.get (x,oo) (Ji _ (Ji _ (Ja8 h)))).1
theorem weak (t:Ty LG F E0 X H L)(hX:∀m r,X' m r->X m r):Ty LG F E0 X' H L:=by
 obtain⟨E1,h1,h2,kn⟩:=t;exact⟨E1,h1,λp hp ob aX=>(h2 p hp ob aX).mono (hX p.1),kn⟩
theorem st (t:Ty LG F E0 X H L)(hm:(m,o)∈LG)(h:H'=H.set m ob)(hs:SimO (X' m) o ob)(hX:∀m',m'≠m->∀r,X' m' r->X m' r):Ty LG F E0 X' H' L:=by
 have bE:=t.nodup;obtain⟨E1,h1,h2,kn⟩:=t;have h3:m∈E1.map Prod.fst:=by rw[h1];exact Ax hm
 obtain⟨p,hp,he⟩:=Jl.1 h3;obtain⟨i,hi⟩:=J9 hp;obtain⟨a,b⟩:=p;simp only at he;subst he;have aX:ob≠.none:=by
  obtain⟨_,_,_,_,h,_⟩:=hs;rw[h];simp
 have bT:(E1.map Prod.fst).Nodup:=by rw[h1];exact bE
 have bS:(E0++E1)[E0.length+i]? = some (a,b):=by rw[List.getElem?_append_right (by omega),Ja2];exact hi
 have k2:=kn.stE (E0.length+i) bS h aX;rw[List.set_append_right _ _ (by omega),Ja2]at k2;refine⟨E1.set i (a,ob),(CR hi).trans h1,λp hp ob' m8=>?_,k2⟩;rcases BQ m8 with e|⟨j,hj,fK⟩
 ·have e1:p.1=a:=congrArg Prod.fst e;have e2:ob'=ob:=congrArg Prod.snd e;have e3:p.2=o:=by
   obtain⟨i1,g1⟩:=J9 hp;obtain⟨i2,g2⟩:=J9 hm;have:=BP bE g1 g2 e1;subst this;rw[g1]at g2;rw[Jap g2]
  rw[e1,e2,e3];exact hs
 ·have be:p.1≠a:=λhh=>hj (BP bT fK hi hh);exact (h2 p hp ob' (Ja8 fK)).mono (hX p.1 be)
theorem stE (t:Ty LG F E0 X H L)(i:Nat){x:Nat}{a b:Obj}(h:E0[i]? = some (x,a))(h1:H'=H.set x b)(hb:b≠.none:=by nofun):Ty LG F (E0.set i (x,b)) X H' L:=by
 obtain⟨E1,g1,g2,kn⟩:=t;have ae:=(Jay.1 h).1;have k2:=kn.stE (o:=a) i (by rw[List.getElem?_append_left ae];exact h) h1 hb;rw[List.set_append_left _ _ ae]at k2;exact⟨E1,g1,g2,k2⟩
theorem aw (t:Ty LG F E0 X H L)(hu:Upd H H' []):Ty LG F E0 X H' L:=by
 obtain⟨E1,g1,g2,kn⟩:=t;exact⟨E1,g1,g2,kn.aw hu⟩
theorem al (t:Ty LG F E0 X H L){x:Nat}{b:Obj}(hx:H x=.none)(h1:H'=H.set x b)(hb:b≠.none:=by nofun):Ty LG F E0 X H' (L++[(x,b)]):=by
 obtain⟨E1,g1,g2,kn⟩:=t;exact⟨E1,g1,g2,kn.al hx h1 hb⟩
theorem drop (t:Ty LG F E0 X H (A++N)):Ty LG F E0 X H A:=by
 obtain⟨E1,g1,g2,kn⟩:=t;exact⟨E1,g1,g2,kn.drop⟩
theorem sub {wl cy c0:Nat}{a b c:Obj}(t:Ty LG F [(wl,a),(c0,b)] X H (L++[(cy,c)])):Ty LG H [(wl,a),(cy,c)] X H []:=by
 obtain⟨E1,g1,g2,kn⟩:=t;refine⟨E1,g1,g2,Kn.startE (λp hp=>kn.get p ?_) ?_⟩
 ·rcases Jp.1 hp with hp|hp
  ·rcases Jx.1 hp with rfl|hp
   ·simp
   ·rcases Jx.1 hp with rfl|hp
    ·simp
    ·simp at hp
  ·simp[hp]
 ·have hd:=kn.dE;simp only[Jak,Jah,Ja1,Jao,Jx,not_or]at hd⊢;have fN:∀p∈[(wl,a),(c0,b)]++E1,p.1≠cy:=λp hp hh=>kn.ext p hp (hh▸kn.loc (cy,c) (by simp));refine⟨⟨fN (wl,a) (by simp),hd.1.2⟩,λhh=>?_,hd.2.2⟩;obtain⟨p,hp,he⟩:=Jl.1 hh;exact fN p (Jd _ hp) he
theorem ret {wl cy c0:Nat}{a b c a' c':Obj}(t:Ty LG F [(wl,a),(c0,b)] X H (L++[(cy,c)]))(t2:Ty LG H [(wl,a'),(cy,c')] X' H' []):Ty LG F [(wl,a'),(c0,b)] X' H' L:=by
 obtain⟨E1,g1,g2,kn⟩:=t;obtain⟨E2,k1,k2,kn2⟩:=t2;have hu:=kn2.upd;have be:∀p∈[(wl,a'),(cy,c')]++E2,p.2≠.none:=λp hp=>(kn2.get p (Ji _ hp)).2;have mT:E2.map Prod.fst=E1.map Prod.fst:=k1.trans g1.symm;have hd:=kn.dE;have y5:=kn.dL;rw[Jt]at y5;have fN:∀p∈[(wl,a),(c0,b)]++E1,p.1≠cy:=λp hp hh=>kn.ext p hp (hh▸kn.loc (cy,c) (by simp));have hk:Kn F H' ([(wl,a'),(c0,b)]++E2) (L++[(cy,c')]):=by
  refine kn.callg hu (by simp[mT]) (by simp) (λp hp=>?_) (λu gM=>?_)
  ·rcases Jp.1 hp with hp|hp
   ·rcases Jp.1 hp with hp|hp
    ·rcases Jx.1 hp with rfl|hp
     ·exact⟨be _ (by simp),.inl (by simp)⟩
     ·simp only[Ja]at hp;subst hp;have h0:(c0,b)∈([(wl,a),(c0,b)]++E1)++(L++[(cy,c)]):=(by simp);refine⟨(kn.get _ h0).2,.inr ⟨h0,?_⟩⟩;simp only[Jak,Jah,Ja1,Jao,Jx,not_or]at hd⊢;refine⟨λh=>hd.1.1 h.symm,fN (c0,b) (by simp),?_⟩;rw[mT];exact hd.2.1
    ·exact⟨be p (Jd _ hp),.inl (Jd _ hp)⟩
   ·rcases Jp.1 hp with hp|hp
    ·have h0:p∈([(wl,a),(c0,b)]++E1)++(L++[(cy,c)]):=(by simp[hp]);refine⟨(kn.get _ h0).2,.inr ⟨h0,λhh=>?_⟩⟩;have xV:F p.1=.none:=kn.loc p (Ji _ hp);simp only[Jak,Jah,Ja1,Jx]at hh;rcases hh with hh|hh|hh
     ·exact kn.ext (wl,a) (by simp) (hh▸xV)
     ·exact (Ju.1 y5).2.2 _ (Ax hp) cy (by simp) hh
     ·rw[mT]at hh;obtain⟨p',bX,he⟩:=Jl.1 hh;exact kn.ext p' (Jd _ bX) (he▸xV)
    ·simp only[Ja]at hp;subst hp;exact⟨be _ (by simp),.inl (by simp)⟩
  ·rcases Jp.1 gM with h|h
   ·rcases Jx.1 h with rfl|h
    ·left;simp
    ·simp only[Ja]at h;subst h;right;simp
   ·left;rw[Jt,Jp,<-mT];exact .inr (Ax h)
 exact⟨E2,k1,k2,hk.drop⟩
end Ty
end Go.AE
namespace Go.AE.Y
variable {H H' F:Heap}{q:CodeD}{os:List OBlk}{zb wl cy R n:Nat}{ids:List Int}{U:Nat->Prop}{X X':Nat->Nat->Prop}{nx:Int}{cs:List Int}{o:OBlk}{b x:Nat}
def LGo (os:List OBlk)(zb:Nat):List (Nat×Obj):=os.flatMap OBlk.lg++[(zb,.vec 5 (os.map OBlk.row))]
def OBlk.inN (o:OBlk):List (Nat×Obj):=o.ins.flatMap OIns.lg++o.il
def OBlk.phN (o:OBlk):List (Nat×Obj):=o.aa.flatMap OPhi.lg++o.pl
def XU (os:List OBlk)(zb:Nat)(U:Nat->Prop)(m r:Nat):Prop:=(∃x,∃h:x<os.length,m=os[x].nx.y)\/∃x,∃h:x<os.length,U x/\((m=zb/\r=x)\/∃p∈os[x].inN,m=p.1)
def XP (o:OBlk)(zb b:Nat)(j:Bool)(i k m r:Nat):Prop:=(j=true/\m=zb/\r=b)\/(∃p∈o.il,m=p.1/\i<=r)\/∃i',∃h:i'<o.ins.length,m=o.ins[i'].a.y/\(i<i'\/(i=i'/\k<=r))
theorem F6 {α:Type}{f:α->List (Nat×Obj)}:∀{l:List α},((l.flatMap f).map Prod.fst).Nodup->∀{i j:Nat} (hi:i<l.length) (hj:j<l.length),i≠j->∀p∈f l[i],∀p'∈f l[j],p.1≠p'.1
 |[],_,i,j,hi,_,_=>by simp at hi
 |x::l,hd,i,j,hi,hj,gy=>by
  rw[Jai,Jt]at hd;obtain⟨d1,d2,d3⟩:=Ju.1 hd;intro p hp p' bX
  cases i with
  |zero=>
   cases j with
   |zero=>exact absurd rfl gy
   |succ j=>
    simp only[Ja4,Jaq]at hp bX;exact d3 _ (Ax hp) _ (Ax (Jq.2 ⟨_,Jc _,bX⟩))
  |succ i=>
   cases j with
   |zero=>
    simp only[Ja4,Jaq]at hp bX;exact λh=>d3 _ (Ax bX) _ (Ax (Jq.2 ⟨_,Jc _,hp⟩)) h.symm
   |succ j=>
    simp only[Jaq]at hp bX;exact F6 d2 Zah Zac ZD p hp p' bX
theorem IB {α:Type}{f:α->List (Nat×Obj)}:∀{l:List α},((l.flatMap f).map Prod.fst).Nodup->∀x∈l,((f x).map Prod.fst).Nodup
 |[],_,x,h=>ZK
 |y::l,hd,x,h=>by
  rw[Jai,Jt]at hd;obtain⟨d1,d2,d3⟩:=Ju.1 hd;rcases Jx.1 h with rfl|h
  ·exact d1
  ·exact IB d2 x h
structure BlkN (o:OBlk):Prop where
 pn:∀p∈o.phN,p.1≠o.nx.y
 inn:∀p∈o.inN,p.1≠o.nx.y
 pi:∀p∈o.phN,∀p'∈o.inN,p.1≠p'.1
 ii:∀p∈o.ins.flatMap OIns.lg,∀p'∈o.il,p.1≠p'.1
 ij:∀i j (hi:i<o.ins.length) (hj:j<o.ins.length),i≠j->o.ins[i].a.y≠o.ins[j].a.y
theorem Yg (h:(o.lg.map Prod.fst).Nodup):BlkN o:=by
 have e:o.lg=o.nx.lg++(o.phN++o.inN):=by simp only[OBlk.lg,OBlk.phN,OBlk.inN,Jab]
 rw[e,Jt,Jt]at h;obtain⟨_,d2,d3⟩:=Ju.1 h;obtain⟨_,e2,e3⟩:=Ju.1 d2;rw[OBlk.inN,Jt]at e2;obtain⟨g1,_,g3⟩:=Ju.1 e2;have hy:o.nx.y∈o.nx.lg.map Prod.fst:=by simp[OInts.lg]
 refine⟨λp hp hh=>d3 _ hy _ (Ji _ (Ax hp)) hh.symm,λp hp hh=>d3 _ hy _ (Jd _ (Ax hp)) hh.symm,λp hp p' bX=>e3 _ (Ax hp) _ (Ax bX),
  λp hp p' bX=>g3 _ (Ax hp) _ (Ax bX),λi j hi hj gy=>?_⟩
 exact F6 g1 hi hj gy (o.ins[i].a.y,.vec 1 (Qb o.ins[i].a.ns)) ZaP (o.ins[j].a.y,.vec 1 (Qb o.ins[j].a.ns)) ZaP
def Apart (os:List OBlk)(zb:Nat):Prop:=((LGo os zb).map Prod.fst).Nodup
theorem Apart.zbn (h:Apart os zb)(hx:x<os.length){p:Nat×Obj}(hp:p∈os[x].lg):p.1≠zb:=by
 rw[Apart,LGo,Jt]at h;exact (Ju.1 h).2.2 _ (Ax (Jq.2 ⟨_,Jc hx,hp⟩)) zb ZF
theorem Apart.same (h:Apart os zb){x y:Nat}(hx:x<os.length)(hy:y<os.length){p p':Nat×Obj}(hp:p∈os[x].lg)(bX:p'∈os[y].lg)(he:p.1=p'.1):x=y:=by
 rw[Apart,LGo,Jt]at h;by_cases ka:x=y
 ·exact ka
 ·exact absurd he (F6 (Ju.1 h).1 hx hy ka p hp p' bX)
theorem Apart.blk (h:Apart os zb)(hx:x<os.length):BlkN os[x]:=by
 rw[Apart,LGo,Jt]at h;exact Yg (IB (Ju.1 h).1 _ (Jc hx))
theorem OBlk.nxM (o:OBlk):(o.nx.y,Obj.vec 1 (Qb o.nx.ns))∈o.lg:=by simp[OBlk.lg,OInts.lg]
theorem OBlk.phM {p:Nat×Obj}(h:p∈o.phN):p∈o.lg:=by
 simp only[OBlk.phN,OBlk.lg,Jp]at h⊢;rcases h with h|h
 ·exact .inr (.inl h)
 ·exact .inr (.inr (.inl h))
theorem OBlk.inM {p:Nat×Obj}(h:p∈o.inN):p∈o.lg:=by
 simp only[OBlk.inN,OBlk.lg,Jp]at h⊢;exact .inr (.inr (.inr h))
theorem OBlk.aM (o:OBlk){i:Nat}(h:i<o.ins.length):(o.ins[i].a.y,Obj.vec 1 (Qb o.ins[i].a.ns))∈o.ins.flatMap OIns.lg:=Jq.2 ⟨_,Jc h,ZaP⟩
theorem LGo.of {p:Nat×Obj}(hx:x<os.length)(hp:p∈os[x].lg):p∈LGo os zb:=Ji _ (Jq.2 ⟨_,Jc hx,hp⟩)
theorem LGo.zbm:(zb,Obj.vec 5 (os.map OBlk.row))∈LGo os zb:=Jd _ ZF
theorem Apart.ph (h:Apart os zb)(hx:x<os.length){p:Nat×Obj}(hp:p∈os[x].phN)(r:Nat):¬XU os zb U p.1 r:=by
 rintro (⟨y,hy,he⟩|⟨y,hy,_,he⟩)
 ·have:=h.same hx hy (OBlk.phM hp) os[y].nxM he;subst this;exact (h.blk hx).pn p hp he
 ·rcases he with ⟨he,_⟩|⟨p',bX,he⟩
  ·exact h.zbn hx (OBlk.phM hp) he
  ·have:=h.same hx hy (OBlk.phM hp) (OBlk.inM bX) he;subst this;exact (h.blk hx).pi p hp p' bX he
theorem Apart.phP (h:Apart os zb)(hx:x<os.length)(hb:b<os.length){p:Nat×Obj}(hp:p∈os[x].phN)(j:Bool)(i k r:Nat):¬XP os[b] zb b j i k p.1 r:=by
 rintro (⟨_,he,_⟩|⟨p',bX,he,_⟩|⟨i',bS,he,_⟩)
 ·exact h.zbn hx (OBlk.phM hp) he
 ·have ej:p'∈os[b].inN:=Jd _ bX;have:=h.same hx hb (OBlk.phM hp) (OBlk.inM ej) he;subst this;exact (h.blk hx).pi p hp p' ej he
 ·have ej:(os[b].ins[i'].a.y,Obj.vec 1 (Qb os[b].ins[i'].a.ns))∈os[b].inN:=Ji _ (os[b].aM bS);have:=h.same hx hb (OBlk.phM hp) (OBlk.inM ej) he;subst this;exact (h.blk hx).pi p hp _ ej he
theorem Apart.inU (h:Apart os zb)(hb:b<os.length){p:Nat×Obj}(hp:p∈os[b].inN)(hU:¬U b)(r:Nat):¬XU os zb U p.1 r:=by
 rintro (⟨y,hy,he⟩|⟨y,hy,wU,he⟩)
 ·have:=h.same hb hy (OBlk.inM hp) os[y].nxM he;subst this;exact (h.blk hb).inn p hp he
 ·rcases he with ⟨he,_⟩|⟨p',bX,he⟩
  ·exact h.zbn hb (OBlk.inM hp) he
  ·have:=h.same hb hy (OBlk.inM hp) (OBlk.inM bX) he;subst this;exact hU wU
theorem Apart.zbU (h:Apart os zb)(hU:¬U b):¬XU os zb U zb b:=by
 rintro (⟨y,hy,he⟩|⟨y,hy,wU,he⟩)
 ·exact h.zbn hy os[y].nxM he.symm
 ·rcases he with ⟨_,he⟩|⟨p',bX,he⟩
  ·subst he;exact hU wU
  ·exact h.zbn hy (OBlk.inM bX) he.symm
theorem Apart.zbP (h:Apart os zb)(hb:b<os.length)(i k r:Nat):¬XP os[b] zb b false i k zb r:=by
 rintro (⟨h0,_⟩|⟨p',bX,he,_⟩|⟨i',bS,he,_⟩)
 ·simp at h0
 ·exact h.zbn hb (OBlk.inM (Jd _ bX)) he.symm
 ·exact h.zbn hb (OBlk.inM (Ji _ (os[b].aM bS))) he.symm
theorem XP.init {U':Nat->Prop}{m r:Nat}{j:Bool}(h:XU os zb U m r)(hb:b<os.length)(hj:j=true)(hU:∀x,U x->x≠b->U' x):XU os zb U' m r\/XP os[b] zb b j 0 0 m r:=by
 rcases h with h|⟨x,hx,nV,he⟩
 ·exact .inl (.inl h)
 ·by_cases lD:x=b
  ·subst lD;right;rcases he with ⟨e1,e2⟩|⟨p,hp,e⟩
   ·exact .inl ⟨hj,e1,e2⟩
   ·rcases Jp.1 hp with hp|hp
    ·obtain⟨y,hy,ej⟩:=Jq.1 hp;obtain⟨i,hi,rfl⟩:=Jy.1 hy;simp only[OIns.lg,OInts.lg,Ja]at ej;refine .inr (.inr ⟨i,hi,by rw[e,ej],?_⟩);by_cases h0:i=0
     ·exact .inr ⟨h0.symm,Jbm _⟩
     ·exact .inl ZD
    ·exact .inr (.inl ⟨p,hp,e,Jbm _⟩)
  ·exact .inl (.inr ⟨x,hx,hU x nV lD,he⟩)
structure NC (q:CodeD)(os:List OBlk)(zb R n:Nat)(ids:List Int):Prop where
 ok:q.ok
 hn:q.blocks.length=n
 hR:q.ab.toNat=R
 l:os.length=n
 d:∀x (h:x<os.length) (h':x<q.blocks.length),os[x].d=q.blocks[x]
 bo:∀b∈os,b.ok
 ow:∀b∈os,∀p∈b.aa,p.own
 t:Tree n ids (depL n (nxN (gnx q)))
def wO (q:CodeD)(ids:List Int)(zb n:Nat)(nx:Int):Obj:=.st [.int .i64 q.params,.int .i64 q.ab,.sl false 5 (Ql q.blocks),.int .i64 q.params,.int .i64 q.ab,.ah zb 5 0 n,.sl false 1 (Qb ids),.int .i64 nx]
abbrev TT (q:CodeD)(os:List OBlk)(zb n wl cy:Nat)(ids:List Int)(F:Heap)(nx:Int)(cs:List Int)(X:Nat->Nat->Prop)(H:Heap):Prop:=Ty (LGo os zb) F [(wl,wO q ids zb n nx),(cy,.vec 1 (Qb cs))] X H []
theorem Ic (hs:SimO (X zb) (.vec 5 (os.map OBlk.row)) (H zb))(c:NC q os zb R n ids)(hx:x<n)(d9:x<os.length)(ho:os[x]=o) :
  ∃RW j on,H zb=.vec 5 RW/\RW.length=n/\RW.take n=RW/\RW.getD x []=[o.pc,o.ic,.int .i64 j,.int .i64 on,.ah o.nx.y 1 0 o.nx.ns.length]/\(X zb x->j=o.jump/\on=o.on)/\SimO (X zb) (.vec 5 (os.map OBlk.row)) (.vec 5 RW):=by
 subst ho;obtain⟨RW,h1,h2,h3⟩:=hs.get;rw[h1]at hs;rw[Jf,c.l]at h2;have hg:(os.map OBlk.row).getD x []=os[x].row:=by simp[Jb,d9]
 obtain⟨h4,h5⟩:=h3 x (by rw[Jf];exact d9);rw[hg]at h4 h5;have ay:=c.bo _ (Jc d9);have kH:∀c',SimC os[x].pc c'->c'=os[x].pc:=λc' h=>by
  rcases ay.p with ⟨e,_⟩|⟨y,e,_⟩
  ·rw[e]at h⊢;exact h.sl
  ·rw[e]at h⊢;exact h.ah
 have fM:∀c',SimC os[x].ic c'->c'=os[x].ic:=λc' h=>by
  rcases ay.i with ⟨e,_⟩|⟨y,e,_⟩
  ·rw[e]at h⊢;exact h.sl
  ·rw[e]at h⊢;exact h.ah
 generalize hR:RW.getD x []=row at h4 h5;rw[OBlk.row_eq]at h4 h5
 cases h4 with
 |cons a1 t1=>cases t1 with
  |cons a2 t2=>cases t2 with
   |cons a3 t3=>cases t3 with
    |cons a4 t4=>cases t4 with
     |cons a5 t5=>cases t5 with
      |nil=>
       have e1:=kH _ a1;have e2:=fM _ a2;obtain⟨j,e3⟩:=a3.int;obtain⟨on,e4⟩:=a4.int;have e5:=a5.ah;subst e1;subst e2;subst e3;subst e4;subst e5;refine⟨RW,j,on,h1,h2,Jg ZD,hR,λhX=>?_,hs⟩;have:=h5 hX;simp only[List.cons.injEq,C.int.injEq,true_and]at this;exact⟨this.1,this.2.1⟩
theorem AN (t:TT q os zb n wl cy ids F nx cs X H)(c:NC q os zb R n ids)(hx:x<n)(d9:x<os.length)(ho:os[x]=o) :
  ∃RW j on,H zb=.vec 5 RW/\RW.length=n/\RW.take n=RW/\RW.getD x []=[o.pc,o.ic,.int .i64 j,.int .i64 on,.ah o.nx.y 1 0 o.nx.ns.length]/\(X zb x->j=o.jump/\on=o.on)/\SimO (X zb) (.vec 5 (os.map OBlk.row)) (.vec 5 RW):=Ic (t.get LGo.zbm) c hx d9 ho
theorem Dn {m:Nat}{ns:List Int}(hs:SimO (X m) (.vec 1 (Qb ns)) (H m)):∃ns':List Int,H m=.vec 1 (Qb ns')/\ns'.length=ns.length/\(∀r,r<ns.length->X m r->ns'.getD r 0=ns.getD r 0)/\SimO (X m) (.vec 1 (Qb ns)) (.vec 1 (Qb ns')):=by
 obtain⟨rows',h1,h2,h3⟩:=hs.get;rw[Qe]at h2 h3;have hg:∀r,r<ns.length->∃v:Int,rows'.getD r []=[.int .i64 v]/\(X m r->v=ns.getD r 0):=λr hr=>by
  obtain⟨h4,h5⟩:=h3 r hr;rw[Qn _ _ hr]at h4 h5;generalize hR:rows'.getD r []=row at h4 h5
  cases h4 with
  |cons a1 t1=>cases t1 with
   |nil=>
    obtain⟨v,e⟩:=a1.int;subst e;refine⟨v,rfl,λhX=>?_⟩;have:=h5 hX;simpa using this
 obtain⟨f,hf⟩:∃f:Nat->Int,∀r,r<ns.length->rows'.getD r []=[.int .i64 (f r)]/\(X m r->f r=ns.getD r 0):=by
  classical
  exact⟨λr=>if h:r<ns.length then (hg r h).choose else 0,λr hr=>by simp only[hr,dite_true];exact (hg r hr).choose_spec⟩
 have cx:rows'=Qb ((List.range ns.length).map f):=by
  refine Jau (by simp[Qb,h2]) λi h4 h5=>?_;have hi:i<ns.length:=ZD
  have:=(hf i hi).1;rw[Jb,Je h4]at this;simp only[Jz]at this;rw[this];simp[Qb]
 subst cx;rw[h1]at hs;refine⟨_,h1,ZF,λr hr hX=>?_,hs⟩;rw[Jb];simp only[J0,List.getElem?_range hr,J2,Jz];exact (hf r hr).2 hX
theorem HN (t:TT q os zb n wl cy ids F nx cs X H){m:Nat}{ns ns':List Int}(hm:(m,Obj.vec 1 (Qb ns))∈LGo os zb)(hs:SimO (X m) (.vec 1 (Qb ns)) (.vec 1 (Qb ns'))){r:Nat}(hr:r<ns.length)(v:Int)
  (h:H'=H.set m (.vec 1 (Qb (ns'.set r v)))) (hX:∀m' r',¬(m'=m/\r'=r)->X' m' r'->X m' r') (hn:¬X' m r):TT q os zb n wl cy ids F nx cs X' H':=by
 refine Ty.st t hm h ?_ λm' em r'=>hX m' r' λe=>em e.1;rw[<-C3];refine hs.set (by rw[Qe];exact hr) ?_ (λr' bh=>hX m r' λe=>bh e.2) hn;rw[Qn _ _ hr];exact .cons (.inr ⟨_,_,rfl,rfl⟩) .nil
theorem Ca (t:TT q os zb n wl cy ids F nx cs X H)(c:NC q os zb R n ids)(d9:x<os.length)(ho:os[x]=o):aZ H o.pc=True/\ax o.pc=o.aa.length/\o.pc.ai=false/\o.ic.ai=false:=by
 subst ho;have ay:=c.bo _ (Jc d9);refine⟨?_,by rw[ay.p.ax,Jf],ay.p.ai,ay.i.ai⟩;rcases ay.p with ⟨e,_⟩|⟨z,e,e2⟩
 ·rw[e];rfl
 ·have hm:(z,Obj.vec 2 (os[x].aa.map OPhi.row))∈LGo os zb:=LGo.of d9 (OBlk.phM (Jd _ (by rw[e2];simp)));obtain⟨rows',h1,h2,_⟩:=(t.get hm).get;rw[e];simp only[aZ,h1,h2,Jn,Jo,and_self]
theorem OBlk.phZ (ay:o.ok){k:Nat}(hk:k<o.aa.length):∃z,o.pc=.ah z 2 0 o.aa.length/\o.pl=[(z,.vec 2 (o.aa.map OPhi.row))]:=by
 rcases ay.p with ⟨_,h,_⟩|⟨y,h1,h2⟩
 ·have:=congrArg List.length h;simp only[Jf,Jj]at this;omega
 ·exact⟨y,by rw[h1,Jf],h2⟩
theorem OBlk.inZ (ay:o.ok){k:Nat}(hk:k<o.ins.length):∃z,o.ic=.ah z 4 0 o.ins.length/\o.il=[(z,.vec 4 (o.ins.map OIns.row))]:=by
 rcases ay.i with ⟨_,h,_⟩|⟨y,h1,h2⟩
 ·have:=congrArg List.length h;simp only[Jf,Jj]at this;omega
 ·exact⟨y,by rw[h1,Jf],h2⟩
theorem rdPh (t:TT q os zb n wl cy ids F nx cs X H)(c:NC q os zb R n ids)(d9:x<os.length)(ho:os[x]=o){z k:Nat}(hz:o.pl=[(z,.vec 2 (o.aa.map OPhi.row))])(hk:k<o.aa.length) :
  ∃PR to ya,H z=.vec 2 PR/\PR.length=o.aa.length/\PR.take o.aa.length=PR/\PR.getD k []=[.int .i64 to,.ah ya 1 0 o.aa[k].ns.length]/\(ya,Obj.vec 1 (Qb o.aa[k].ns))∈o.phN/\o.aa[k].ac=.ah ya 1 0 o.aa[k].ns.length/\SimO (X z) (.vec 2 (o.aa.map OPhi.row)) (.vec 2 PR):=by
 subst ho;have hm:(z,Obj.vec 2 (os[x].aa.map OPhi.row))∈LGo os zb:=LGo.of d9 (OBlk.phM (Jd _ Zbb));have hs:=t.get hm;obtain⟨PR,h1,h2,h3⟩:=hs.get;rw[h1]at hs;rw[Jf]at h2 h3;obtain⟨h4,_⟩:=h3 k hk;obtain⟨ya,e1,e2⟩:=c.ow _ (Jc d9) _ (Jc hk);have hg:(os[x].aa.map OPhi.row).getD k []=[.int .i64 os[x].aa[k].to,.ah ya 1 0 os[x].aa[k].ns.length]:=by
  simp only[Jb,J0,Je hk,J2,Jz,OPhi.row,e1]
 rw[hg]at h4;generalize hR:PR.getD k []=row at h4
 cases h4 with
 |cons a1 t1=>cases t1 with
  |cons a2 t2=>cases t2 with
   |nil=>
    obtain⟨v,e⟩:=a1.int;have e3:=a2.ah;subst e;subst e3;refine⟨PR,v,ya,h1,h2,Jg ZD,hR,?_,e1,hs⟩;exact Ji _ (Jq.2 ⟨_,Jc hk,by rw[e2];simp⟩)
theorem rdIn (t:TT q os zb n wl cy ids F nx cs X H)(d9:x<os.length)(ho:os[x]=o){z k:Nat}(hz:o.il=[(z,.vec 4 (o.ins.map OIns.row))])(hk:k<o.ins.length)(hX:X z k) :
  ∃IR,H z=.vec 4 IR/\IR.length=o.ins.length/\IR.take o.ins.length=IR/\IR.getD k []=[.int .i64 o.ins[k].op,.int .i64 o.ins[k].to,.ah o.ins[k].a.y 1 0 o.ins[k].a.ns.length,.int .i64 o.ins[k].n]/\SimO (X z) (.vec 4 (o.ins.map OIns.row)) (.vec 4 IR):=by
 subst ho;have hm:(z,Obj.vec 4 (os[x].ins.map OIns.row))∈LGo os zb:=LGo.of d9 (OBlk.inM (Jd _ Zbb));have hs:=t.get hm;obtain⟨IR,h1,h2,h3⟩:=hs.get;rw[h1]at hs;rw[Jf]at h2 h3;have h4:=(h3 k hk).2 hX;refine⟨IR,h1,h2,Jg ZD,?_,hs⟩;rw[h4];simp only[Jb,J0,Je hk,J2,Jz];rfl
theorem Qb0g (t:TT q os zb n wl cy ids F nx cs X H)(c:NC q os zb R n ids)(d9:x<os.length)(ho:os[x]=o):aZ H o.ic=True/\ax o.ic=o.ins.length:=by
 subst ho;have ay:=c.bo _ (Jc d9);refine⟨?_,by rw[ay.i.ax,Jf]⟩;rcases ay.i with ⟨e,_⟩|⟨z,e,e2⟩
 ·rw[e];rfl
 ·have hm:(z,Obj.vec 4 (os[x].ins.map OIns.row))∈LGo os zb:=LGo.of d9 (OBlk.inM (Jd _ (by rw[e2];simp)));obtain⟨rows',h1,h2,_⟩:=(t.get hm).get;rw[e];simp only[aZ,h1,h2,Jn,Jo,and_self]
theorem NC.get (c:NC q os zb R n ids)(hb:b<n):∃hl:b<os.length,∃hq:b<q.blocks.length,os[b].d=q.blocks[b]/\os[b].ok/\q.blocks[b].ok q b/\os[b].aa.length<=1200/\os[b].ins.length<=1200:=by
 have hl:b<os.length:=by rw[c.l];exact hb
 have hq:b<q.blocks.length:=by rw[c.hn];exact hb
 have hd:=c.d b hl hq;have ck:=c.ok.il b hq;rw[<-hd]at ck;simp only[OBlk.d,Jf]at ck;exact⟨hl,hq,hd,c.bo _ (Jc hl),c.ok.bs b hq,ck.2,ck.1⟩
end Go.AE.Y
namespace Go.AE.Y
attribute [local go_sem] cond_true cond_false Bool.not_true Bool.not_false
open Go.Proofs.Tryz
variable {H H' F:Heap}{K:V->Heap->Prop}{q:CodeD}{os:List OBlk}{zb wl cy R n b:Nat}{ids:List Int}{U:Nat->Prop}{Z Z':Nat->Nat->Prop}{nx:Int}{cs:List Int}{o:OBlk}{y:BlkD}{e:Env}{Q:X->Env->Heap->Prop}
theorem I3 (hw:H wl=wO q ids zb n nx)(h1:0<=nx)(h2:nx<=2 ^ 40)(hK:∀H',H'=H.set wl (wO q ids zb n (nx+1))->K (.c (.int .i64 nx)) H'):Qv prog PQ [.c (.ptr wl 0)] H K:=by
 refine Qc Ab Qab6 ?_;rw[wO]at hw;refine Za ?_;refine Zh hw ?_;refine⟨Qo,λH' h'=>?_⟩;have mc:H' wl=wO q ids zb n (nx+1):=by rw[h',Heap.aC];rfl
 have hK:=hK H' h';rw[wO]at mc;refine Zh mc ?_;try refine⟨Qo,?_⟩
 refine Zc ?_
 first|exact hK|(have e:nx+1-1=nx:=ZD;rw[e];exact hK)
def LK (wl b cy R n zb:Nat)(e:Env):Prop:=lk 0 e=.c (.ptr wl 0)/\lk 1 e=.c (.int .i64 b)/\lk 2 e=.c (.ah cy 1 0 R)/\lk 6 e=.c (.ep (.ah zb 5 0 n) 5 b 0)
structure NSt (q:CodeD)(os:List OBlk)(zb n R wl cy:Nat)(ids:List Int)(F:Heap)(nx:Int)(cs:List Int)(Z:Nat->Nat->Prop)(H:Heap):Prop where
 t:TT q os zb n wl cy ids F nx cs Z H
 c:cs.length=R
theorem NSt.w (s:NSt q os zb n R wl cy ids F nx cs Z H):H wl=wO q ids zb n nx:=s.t.e 0 rfl
theorem NSt.cu (s:NSt q os zb n R wl cy ids F nx cs Z H):H cy=.vec 1 (Qb cs):=s.t.e 1 rfl
theorem NSt.ct (s:NSt q os zb n R wl cy ids F nx cs Z H):(Qb cs).take R=Qb cs:=Jg (by rw[Qe];exact Nat.le_of_eq s.c)
theorem NSt.cl (s:NSt q os zb n R wl cy ids F nx cs Z H):(Qb cs).length=R:=by rw[Qe];exact s.c
theorem NSt.setW (s:NSt q os zb n R wl cy ids F nx cs Z H){nx':Int}(h:H'=H.set wl (wO q ids zb n nx')):NSt q os zb n R wl cy ids F nx' cs Z H':=⟨s.t.stE 0 rfl h (by simp[wO]),s.c⟩
theorem NSt.setC (s:NSt q os zb n R wl cy ids F nx cs Z H){i:Nat}{v:Int}(h:H'=H.set cy (.vec 1 (Qb (cs.set i v)))):NSt q os zb n R wl cy ids F nx (cs.set i v) Z H':=⟨s.t.stE 1 rfl h,by rw[Jag];exact s.c⟩
theorem NSt.weak (s:NSt q os zb n R wl cy ids F nx cs Z H)(hX:∀m r,Z' m r->Z m r):NSt q os zb n R wl cy ids F nx cs Z' H:=⟨s.t.weak hX,s.c⟩
set_option maxHeartbeats 4000000 in
theorem phA (c:NC q os zb R n ids)(hb:b<n)(hl:b<os.length)(ho:os[b]=o)(hX:∀p∈o.phN,∀r,¬Z p.1 r)(s:NSt q os zb n R wl cy ids F nx cs Z H)(hk:LK wl b cy R n zb e)(h0:0<=nx)(h1:nx+o.aa.length<=2 ^ 40)(hN:o.aa.length<=100000)
  (h:∀e' H',NSt q os zb n R wl cy ids F (nx+o.aa.length) cs Z H'->LK wl b cy R n zb e'->Ad prog Tv Q e' H'):Ad prog Qi9 Q e H:=by
 obtain⟨l0,l1,l2,l6⟩:=hk;have ay:=c.bo _ (Jc hl);rw[ho]at ay;refine Q3 (Qa ?_);simp only[go_sem,l0,l1,l2,l6];refine Qg (Qd (Qs (λm e1 H1=>∃i:Nat,m=o.aa.length-i/\i<=o.aa.length/\NSt q os zb n R wl cy ids F (nx+i) cs Z H1/\lk 0 e1=.c (.ptr wl 0)/\lk 1 e1=.c (.int .i64 b)/\lk 2 e1=.c (.ah cy 1 0 R)/\lk 6 e1=.c (.ep (.ah zb 5 0 n) 5 b 0)/\lk 7 e1=.c (.int .i64 i)) o.aa.length ?_ ?_))
 ·exact⟨0,ZD,ZD,by simpa using s,rfl,rfl,rfl,rfl,rfl⟩
 ·clear s l0 l1 l2 l6;rintro m e1 H1 ⟨i,hm,hi,s,l0,l1,l2,l6,l7⟩;obtain⟨RW,j,on,cN,bv,bC,bq,_,_⟩:=AN s.t c hb hl ho;obtain⟨gS,eP,jw,nN⟩:=Ca s.t c hl ho;refine Q3 (Qa ?_);simp only[go_sem,l0,l1,l2,l6,l7,cN,bv,bC,bq,hb,gS,eP,jw,Jn,Jo];try intro _
  refine Wv ?_ ?_
  ·intro hc;have ae:i<o.aa.length:=ZG
   obtain⟨z,kH,cP⟩:=OBlk.phZ ay ae;rw[kH]at bq;refine Ze ?_
   refine Wu ?_;simp only[go_sem,cN,bv,bC,bq,hb,Jn,Jo];refine I3 s.w ZD ZD λH2 h2=>?_;have s:=s.setW h2;obtain⟨RW,j,on,cN,bv,bC,bq,_,_⟩:=AN s.t c hb hl ho;rw[kH]at bq;obtain⟨PR,to,ya,hz,pU,tF,qu,cW,wQ,gj⟩:=rdPh s.t c hl ho cP ae;simp only[go_sem,Qja,cN,bv,bC,bq,hb,hz,pU,qu,ae,Jn,Jo];intro H3 h3;have pZ:(z,Obj.vec 2 (o.aa.map OPhi.row))∈o.phN:=Jd _ (by rw[cP];simp);have s:NSt q os zb n R wl cy ids F (nx+i+1) cs Z H3:=⟨Ty.st s.t (LGo.of hl (by rw[ho];exact OBlk.phM pZ)) h3 (gj.set (by rw[Jf];exact ae) (by
    have hg:(o.aa.map OPhi.row).getD i []=[.int .i64 o.aa[i].to,.ah ya 1 0 o.aa[i].ns.length]:=by
     simp only[Jb,J0,Je ae,J2,Jz,OPhi.row,wQ]
    rw[hg];exact .cons (.inr ⟨_,_,rfl,rfl⟩) (.cons (.inl rfl) .nil)) (λr' _ h=>h) (hX _ pZ _)) (λm' _ r h=>h),s.c⟩
   refine Zi ?_;refine⟨Qo,?_⟩;show ∃m,_;exact⟨o.aa.length-(i+1),ZD,i+1,rfl,ZD,by have e:nx+((i+1:Nat):Int)=nx+i+1:=ZD;rw[e];exact s,rfl,rfl,rfl,rfl,rfl⟩
  ·intro hc;have mQ:i=o.aa.length:=by have:o.aa.length<=i:=ZG;omega
   subst mQ;refine Zb ?_;exact h _ _ s ⟨rfl,rfl,rfl,rfl⟩
set_option maxHeartbeats 4000000 in
theorem phB (c:NC q os zb R n ids)(hb:b<n)(hl:b<os.length)(ho:os[b]=o)(hy:o.d=y)(hq:b<q.blocks.length)(lT:q.blocks[b]=y)(s:NSt q os zb n R wl cy ids F nx cs Z H)(hk:LK wl b cy R n zb e)(hN:o.aa.length<=100000)
  (h:∀e' H' cs',NSt q os zb n R wl cy ids F nx cs' Z H'->LK wl b cy R n zb e'->Ad prog Tw Q e' H'):Ad prog Tv Q e H:=by
 obtain⟨l0,l1,l2,l6⟩:=hk;have ay:=c.bo _ (Jc hl);rw[ho]at ay;have bu:=c.ok.bs b hq;rw[lT]at bu;have fg:y.aa.length=o.aa.length:=by rw[<-hy];simp[OBlk.d]
 refine Q3 (Qa ?_);simp only[go_sem,l0,l1,l2,l6];refine Qg (Qd (Qs (λm e1 H1=>∃(i:Nat) (cs:List Int),m=o.aa.length-i/\i<=o.aa.length/\NSt q os zb n R wl cy ids F nx cs Z H1/\lk 0 e1=.c (.ptr wl 0)/\lk 1 e1=.c (.int .i64 b)/\lk 2 e1=.c (.ah cy 1 0 R)/\lk 6 e1=.c (.ep (.ah zb 5 0 n) 5 b 0)/\lk 8 e1=.c (.int .i64 i)) o.aa.length ?_ ?_))
 ·exact⟨0,cs,ZD,ZD,s,rfl,rfl,rfl,rfl,rfl⟩
 ·clear s l0 l1 l2 l6;rintro m e1 H1 ⟨i,cs,hm,hi,s,l0,l1,l2,l6,l8⟩;obtain⟨RW,j,on,cN,bv,bC,bq,_,_⟩:=AN s.t c hb hl ho;obtain⟨gS,eP,jw,nN⟩:=Ca s.t c hl ho;refine Q3 (Qa ?_);simp only[go_sem,l0,l1,l2,l6,l8,cN,bv,bC,bq,hb,gS,eP,jw,Jn,Jo];try intro _
  refine Wv ?_ ?_
  ·intro hc;have ae:i<o.aa.length:=ZG
   have aI:i<y.aa.length:=ZD
   obtain⟨z,kH,cP⟩:=OBlk.phZ ay ae;rw[kH]at bq;obtain⟨PR,to,ya,hz,pU,tF,qu,cW,wQ,gj⟩:=rdPh s.t c hl ho cP ae;have hw:=s.w;rw[wO]at hw;have j8:=s.cu;have jW:=s.ct;have cB:=s.cl;obtain⟨hv,b6⟩:=(bu.pto _ (Jc aI)).nat;rw[c.hR]at b6;refine Ze ?_
   refine Wu ?_;generalize hr:y.aa[i].to.toNat=r at *;have dy:r<cs.length:=ZaQ
   simp only[go_sem,hw,cN,bv,bC,bq,hb,hz,pU,tF,qu,ae,hq,Qj,Q9 _ _ hq,BlkD.cells,lT,Q5,aI,Br _ _ aI,PhiD.cells,hv,b6,j8,cB,Qn _ _ dy,C3,Jn,Jo];intro H2 h2;have s:=s.setC h2;refine Zi ?_;refine⟨Qo,?_⟩;show ∃m,_;exact⟨o.aa.length-(i+1),ZD,i+1,_,rfl,ZD,s,rfl,rfl,rfl,rfl,rfl⟩
  ·intro hc;refine Zb ?_;exact h _ _ _ s ⟨rfl,rfl,rfl,rfl⟩
def XC (os:List OBlk)(zb:Nat)(U:Nat->Prop)(o:OBlk)(b:Nat)(j:Bool)(i k m r:Nat):Prop:=XU os zb U m r\/XP o zb b j i k m r
theorem XC.stepA {i k m r:Nat}(h:XC os zb U o b true i (k+1) m r):XC os zb U o b true i k m r:=by
 rcases h with h|h|h|⟨i',bS,h1,h2⟩
 ·exact .inl h
 ·exact .inr (.inl h)
 ·exact .inr (.inr (.inl h))
 ·exact .inr (.inr (.inr ⟨i',bS,h1,ZD⟩))
theorem XC.stepI {i k m r:Nat}(h:XC os zb U o b true (i+1) 0 m r):XC os zb U o b true i k m r:=by
 rcases h with h|h|⟨p,hp,h1,h2⟩|⟨i',bS,h1,h2⟩
 ·exact .inl h
 ·exact .inr (.inl h)
 ·exact .inr (.inr (.inl ⟨p,hp,h1,ZD⟩))
 ·exact .inr (.inr (.inr ⟨i',bS,h1,ZD⟩))
theorem XC.notA (ap:Apart os zb)(hl:b<os.length)(ho:os[b]=o)(hU:¬U b){i k:Nat}(hi:i<o.ins.length):¬XC os zb U o b true i (k+1) o.ins[i].a.y k:=by
 subst ho;have hm:(os[b].ins[i].a.y,Obj.vec 1 (Qb os[b].ins[i].a.ns))∈os[b].inN:=Ji _ (os[b].aM hi);rintro (h|⟨_,h,_⟩|⟨p,hp,h1,h2⟩|⟨i',bS,h1,h2⟩)
 ·exact ap.inU hl hm hU _ h
 ·exact ap.zbn hl (OBlk.inM hm) h
 ·exact (ap.blk hl).ii _ (os[b].aM hi) p hp h1
 ·by_cases gI:i=i'
  ·subst gI;omega
  ·exact (ap.blk hl).ij i i' hi bS gI h1
theorem XC.notI (ap:Apart os zb)(hl:b<os.length)(ho:os[b]=o)(hU:¬U b){i z:Nat}{ob:Obj}(hz:(z,ob)∈o.il):¬XC os zb U o b true (i+1) 0 z i:=by
 subst ho;have hm:(z,ob)∈os[b].inN:=Jd _ hz;rintro (h|⟨_,h,_⟩|⟨p,hp,h1,h2⟩|⟨i',bS,h1,h2⟩)
 ·exact ap.inU hl hm hU _ h
 ·exact ap.zbn hl (OBlk.inM hm) h
 ·omega
 ·exact (ap.blk hl).ii _ (os[b].aM bS) (z,ob) hz h1.symm
set_option maxHeartbeats 8000000 in
theorem phC (c:NC q os zb R n ids)(hb:b<n)(hl:b<os.length)(ho:os[b]=o)(hy:o.d=y)(hq:b<q.blocks.length)(lT:q.blocks[b]=y)(hU:¬U b)(s:NSt q os zb n R wl cy ids F nx cs (XC os zb U o b true 0 0) H)(hk:LK wl b cy R n zb e)
  (h0:0<=nx) (h1:nx+o.ins.length<=2 ^ 40) (hN:o.ins.length<=100000)
  (h:∀e' H' nx' cs',nx<=nx'->nx'<=nx+o.ins.length->NSt q os zb n R wl cy ids F nx' cs' (XC os zb U o b true o.ins.length 0) H'->LK wl b cy R n zb e'->Ad prog Tx Q e' H'):Ad prog Tw Q e H:=by
 obtain⟨l0,l1,l2,l6⟩:=hk;have ay:=c.bo _ (Jc hl);rw[ho]at ay;have bu:=c.ok.bs b hq;rw[lT]at bu;have ap:Apart os zb:=s.t.nodup;refine Q3 (Qa ?_);simp only[go_sem,l0,l1,l2,l6];refine Qg (Qd (Qs (λm e1 H1=>∃(i:Nat) (nx':Int) (cs:List Int),m=o.ins.length-i/\i<=o.ins.length/\nx<=nx'/\nx'<=nx+i/\NSt q os zb n R wl cy ids F nx' cs (XC os zb U o b true i 0) H1/\lk 0 e1=.c (.ptr wl 0)/\lk 1 e1=.c (.int .i64 b)/\lk 2 e1=.c (.ah cy 1 0 R)/\lk 6 e1=.c (.ep (.ah zb 5 0 n) 5 b 0)/\lk 9 e1=.c (.int .i64 i)) o.ins.length ?_ ?_))
 ·exact⟨0,nx,cs,ZD,ZD,ZD,ZD,s,rfl,rfl,rfl,rfl,rfl⟩
 ·clear s l0 l1 l2 l6;rintro m e1 H1 ⟨i,nx',cs,hm,hi,fd,vn,s,l0,l1,l2,l6,l9⟩;obtain⟨RW,j,on,cN,bv,bC,bq,_,_⟩:=AN s.t c hb hl ho;obtain⟨_,_,jw,nN⟩:=Ca s.t c hl ho;obtain⟨fL,dM⟩:=Qb0g s.t c hl ho;refine Q3 (Qa ?_);simp only[go_sem,l0,l1,l2,l6,l9,cN,bv,bC,bq,hb,fL,dM,nN,Jn,Jo];try intro _
  refine Wv ?_ ?_
  ·intro hc;have ae:i<o.ins.length:=ZG
   clear cN bv bC bq fL dM;obtain⟨z,fM,ck⟩:=OBlk.inZ ay ae;have pZ:(z,Obj.vec 4 (o.ins.map OIns.row))∈o.il:=by rw[ck];simp
   obtain⟨x,hx⟩:∃x,o.ins[i]=x:=⟨_,rfl⟩;have gL:x.d∈y.ins:=by rw[<-hy,<-hx];exact Jl.2 ⟨_,Jc ae,rfl⟩
   have hal3:x.a.ns.length<=3:=bu.al _ gL;have wR:∀k,XC os zb U o b true i k z i:=λk=>.inr (.inr (.inl ⟨_,pZ,rfl,Jo _⟩));refine Ze ?_
   refine Az (λe2 H2=>∃(nx2:Int) (cs:List Int),nx'<=nx2/\nx2<=nx'+1/\NSt q os zb n R wl cy ids F nx2 cs (XC os zb U o b true (i+1) 0) H2/\lk 0 e2=.c (.ptr wl 0)/\lk 1 e2=.c (.int .i64 b)/\lk 2 e2=.c (.ah cy 1 0 R)/\lk 6 e2=.c (.ep (.ah zb 5 0 n) 5 b 0)/\lk 9 e2=.c (.int .i64 i)) ?_ ?_
   ·intro Q2 br _ _;refine Qd (Q3 ?_);refine Za ?_;refine Qg (Qd (Qs (λm e1 H1=>∃(k:Nat),m=x.a.ns.length-k/\k<=x.a.ns.length/\NSt q os zb n R wl cy ids F nx' cs (XC os zb U o b true i k) H1/\lk 0 e1=.c (.ptr wl 0)/\lk 1 e1=.c (.int .i64 b)/\lk 2 e1=.c (.ah cy 1 0 R)/\lk 6 e1=.c (.ep (.ah zb 5 0 n) 5 b 0)/\lk 9 e1=.c (.int .i64 i)/\lk 10 e1=.c (.int .i64 k)) x.a.ns.length ?_ ?_))
    ·exact⟨0,ZD,ZD,s,rfl,rfl,rfl,rfl,rfl,rfl⟩
    ·clear s l0 l1 l2 l6 l9;rintro m2 e3 H3 ⟨k,eK,dK,s,l0,l1,l2,l6,l9,l10⟩;obtain⟨RW,j,on,cN,bv,bC,bq,_,_⟩:=AN s.t c hb hl ho;rw[fM]at bq;obtain⟨IR,hz,pV,qv,lQ,_⟩:=rdIn s.t hl ho ck ae (wR k);have hsa:SimO (XC os zb U o b true i k o.ins[i].a.y) (.vec 1 (Qb o.ins[i].a.ns)) (H3 o.ins[i].a.y):=s.t.get (LGo.of hl ZaK);obtain⟨ns',ni,cC,jh,gj⟩:=Dn hsa;have ry:=λk=>XC.notA (k:=k) ap hl ho hU ae;have bz:(o.ins[i].a.y,Obj.vec 1 (Qb o.ins[i].a.ns))∈LGo os zb:=LGo.of hl ZaK;rw[hx]at lQ ni cC jh gj ry bz;refine Q3 (Qa ?_);simp only[go_sem,l0,l1,l2,l6,l9,l10,cN,bv,bC,bq,hb,hz,pV,qv,lQ,ae,ni,Qe,cC,Jn,Jo];try intro _
     refine Wv ?_ ?_
     ·intro ao;have aI:k<x.a.ns.length:=ZI;have aV:k<ns'.length:=ZD;have hXk:XC os zb U o b true i k x.a.y k:=.inr (.inr (.inr ⟨i,ae,by rw[hx],.inr ⟨rfl,Jo _⟩⟩));have ez:=jh k aI hXk;have qN:x.a.ns.getD k 0∈x.d.args:=CZ aI;obtain⟨hv,b6⟩:=(bu.args _ gL _ qN).nat;rw[c.hR]at b6;rw[<-ez]at hv b6;have bp:(Qb ns').take x.a.ns.length=Qb ns':=Jg ZZ;have j8:=s.cu;have jW:=s.ct;have cB:=s.cl;refine Ze ?_
      refine Wu ?_;generalize hr:(ns'.getD k 0).toNat=r at *;have dy:r<cs.length:=ZaQ;simp only[go_sem,cN,bv,bC,bq,hb,hz,pV,qv,lQ,ae,ni,bp,Qe,cC,aI,Qn _ _ aV,hv,b6,j8,jW,s.c,Qn _ _ dy,C3,Jn,Jo];intro H4 h4;have s:NSt q os zb n R wl cy ids F nx' cs (XC os zb U o b true i (k+1)) H4:=⟨HN s.t bz gj aI _ h4 (λm' r' _ hh=>hh.stepA) (ry k),s.c⟩;refine Zi ?_;refine⟨Qo,?_⟩;show ∃m,_;exact⟨x.a.ns.length-(k+1),ZD,k+1,rfl,ZD,s,rfl,rfl,rfl,rfl,rfl,rfl⟩
     ·intro ao;refine Zb ?_;refine Qa ?_;simp only[go_sem,cN,bv,bC,bq,hb,hz,pV,qv,lQ,ae,Jn,Jo];refine GM ?_;try simp only[go_sem]
      refine Ww ?_ ?_
      ·intro bk;obtain⟨hv,b6⟩:=(bu.to _ gL bk).nat;rw[c.hR]at b6;have tT:x.d.to=x.to:=rfl;rw[tT]at hv b6;refine Za ?_;refine I3 s.w ZD ZD λH4 h4=>?_;have s:=s.setW h4;obtain⟨RW,j,on,cN,bv,bC,bq,_,_⟩:=AN s.t c hb hl ho;rw[fM]at bq;obtain⟨IR,hz,pV,qv,lQ,_⟩:=rdIn s.t hl ho ck ae (wR k);rw[hx]at lQ;have j8:=s.cu;have jW:=s.ct;have cB:=s.cl;simp only[go_sem,Qg1];generalize hr:x.to.toNat=r at *;have dy:r<cs.length:=ZaQ;refine Qa ?_;simp only[go_sem,cN,bv,bC,bq,hb,hz,pV,qv,lQ,ae,hv,b6,j8,Qe,s.c,Qn _ _ dy,C3,Jn,Jo];intro H5 h5;have s:=s.setC h5;obtain⟨RW,j,on,cN,bv,bC,bq,_,_⟩:=AN s.t c hb hl ho;rw[fM]at bq;obtain⟨IR,hz,pV,qv,lQ,qY⟩:=rdIn s.t hl ho ck ae (wR k);rw[hx]at lQ;refine Qp ?_;simp only[go_sem,cN,bv,bC,bq,hb,hz,pV,lQ,ae,Jn,Jo];intro H6 h6;have s:NSt q os zb n R wl cy ids F (nx'+1) (cs.set r nx') (XC os zb U o b true (i+1) 0) H6:=⟨Ty.st s.t (LGo.of hl (by rw[ho];exact OBlk.inM (Jd _ pZ))) h6 (qY.set (by rw[Jf];exact ae) (by
        have hg:(o.ins.map OIns.row).getD i []=[.int .i64 x.op,.int .i64 x.to,.ah x.a.y 1 0 x.a.ns.length,.int .i64 x.n]:=by
         simp only[Jb,J0,Je ae,J2,Jz,hx];rfl
        rw[hg];exact .cons (.inl rfl) (.cons (.inr ⟨_,_,rfl,rfl⟩) (.cons (.inl rfl) (.cons (.inl rfl) .nil)))) (λr' _ hh=>hh.stepI) (XC.notI ap hl ho hU pZ)) (λm' _ r' hh=>hh.stepI),s.c⟩
       exact br _ _ ⟨nx'+1,_,ZD,ZD,s,rfl,rfl,rfl,rfl,rfl⟩
      ·intro bk;refine Ze ?_
       exact br _ _ ⟨nx',cs,ZD,ZD,s.weak λm r hh=>hh.stepI,rfl,rfl,rfl,rfl,rfl⟩
   ·rintro e2 H2 ⟨nx2,cs,dz,mH,s,l0,l1,l2,l6,l9⟩;refine Qp ?_;simp only[go_sem,l0,l1,l2,l6,l9];refine⟨Qo,?_⟩;show ∃m,_;exact⟨o.ins.length-(i+1),ZD,i+1,nx2,cs,rfl,ZD,ZD,ZD,s,rfl,rfl,rfl,rfl,rfl⟩
  ·intro hc;have mQ:i=o.ins.length:=by have:o.ins.length<=i:=ZG;omega
   subst mQ;refine Zb ?_;exact h _ _ _ _ fd vn s ⟨rfl,rfl,rfl,rfl⟩
set_option maxHeartbeats 4000000 in
theorem phD (c:NC q os zb R n ids)(hb:b<n)(hl:b<os.length)(ho:os[b]=o)(hy:o.d=y)(hq:b<q.blocks.length)(lT:q.blocks[b]=y)(hU:¬U b){i0:Nat}(s:NSt q os zb n R wl cy ids F nx cs (XC os zb U o b true i0 0) H)(hk:LK wl b cy R n zb e)
  (h:∀e' H',NSt q os zb n R wl cy ids F nx cs (XU os zb U) H'->LK wl b cy R n zb e'->Ad prog Tz Q e' H'):Ad prog Tx Q e H:=by
 obtain⟨l0,l1,l2,l6⟩:=hk;have bu:=c.ok.bs b hq;rw[lT]at bu;have ap:Apart os zb:=s.t.nodup;obtain⟨RW,j,on,cN,bv,bC,bq,jh,gj⟩:=AN s.t c hb hl ho;obtain⟨_,_,jw,nN⟩:=Ca s.t c hl ho;obtain⟨rfl,rfl⟩:=jh (.inr (.inl ⟨rfl,rfl,rfl⟩));have x1:y.jump=o.jump/\y.on=o.on:=by rw[<-hy];exact⟨rfl,rfl⟩
 refine Q3 (Qa ?_);simp only[go_sem,l0,l1,l2,l6,cN,bv,bC,bq,hb,Jn,Jo];refine Az (λe2 H2=>NSt q os zb n R wl cy ids F nx cs (XU os zb U) H2/\LK wl b cy R n zb e2) ?_ ?_
 ·intro Q2 br _ _;refine Ww ?_ ?_
  ·intro hc;have hj:¬y.jump=1:=by rw[x1.1];simpa using hc
   obtain⟨hv,b6⟩:=(bu.on hj).nat;rw[c.hR]at b6;rw[x1.2]at hv b6;have j8:=s.cu;have jW:=s.ct;generalize hr:o.on.toNat=r at *;have dy:r<cs.length:=ZaQ
   refine Qp ?_;simp only[go_sem,cN,bv,bC,bq,hb,hv,b6,j8,jW,Qe,s.c,Qn _ _ dy,Jn,Jo];intro H2 h2;have be:=λr'=>ap.zbP hl i0 0 r';have hX:∀m' r',XU os zb U m' r'->XC os zb U o b true i0 0 m' r':=λm' r' hh=>.inl hh;refine br _ _ ⟨⟨Ty.st s.t LGo.zbm h2 (gj.set (by rw[Jf];exact hl) (by
    have hg:(os.map OBlk.row).getD b []=o.row:=by
     simp only[Jb,J0,Je hl,J2,Jz,ho]
    rw[hg,OBlk.row_eq];exact .cons (.inl rfl) (.cons (.inl rfl) (.cons (.inl rfl) (.cons (.inr ⟨_,_,rfl,rfl⟩) (.cons (.inl rfl) .nil))))) (λr' _ hh=>hX _ _ hh) (ap.zbU hU)) (λm' _ r' hh=>hX _ _ hh),s.c⟩,rfl,rfl,rfl,rfl⟩
  ·intro _;refine Ze ?_
   exact br _ _ ⟨s.weak λm r hh=>.inl hh,rfl,rfl,rfl,rfl⟩
 ·rintro e2 H2 ⟨s,hk⟩;exact h _ _ s hk
set_option maxHeartbeats 8000000 in
theorem phE (c:NC q os zb R n ids)(hb:b<n)(hl:b<os.length)(ho:os[b]=o)(hy:o.d=y)(hq:b<q.blocks.length)(lT:q.blocks[b]=y)(s:NSt q os zb n R wl cy ids F nx cs (XU os zb U) H)(hk:LK wl b cy R n zb e)
  (h:∀e' H',NSt q os zb n R wl cy ids F nx cs (XU os zb U) H'->LK wl b cy R n zb e'->Ad prog Qi8 Q e' H'):Ad prog Tz Q e H:=by
 obtain⟨l0,l1,l2,l6⟩:=hk;have bu:=c.ok.bs b hq;rw[lT]at bu;have ap:Apart os zb:=s.t.nodup;have mB:o.nx.ns.length<=2:=by have:=bu.nxl;rw[<-hy]at this;exact this
 have te:y.next=o.nx.ns:=by rw[<-hy];rfl
 refine Q3 (Qa ?_);simp only[go_sem,l0,l1,l2,l6];refine Qg (Qd (Qs (λm e1 H1=>∃(i:Nat),m=o.nx.ns.length-i/\i<=o.nx.ns.length/\NSt q os zb n R wl cy ids F nx cs (XU os zb U) H1/\lk 0 e1=.c (.ptr wl 0)/\lk 1 e1=.c (.int .i64 b)/\lk 2 e1=.c (.ah cy 1 0 R)/\lk 6 e1=.c (.ep (.ah zb 5 0 n) 5 b 0)/\lk 12 e1=.c (.int .i64 i)) o.nx.ns.length ?_ ?_))
 ·exact⟨0,ZD,ZD,s,rfl,rfl,rfl,rfl,rfl⟩
 ·clear s l0 l1 l2 l6;rintro m e1 H1 ⟨i,hm,hi,s,l0,l1,l2,l6,l12⟩;obtain⟨RW,j,on,cN,bv,bC,bq,_,_⟩:=AN s.t c hb hl ho;obtain⟨_,_,jw,nN⟩:=Ca s.t c hl ho;have sY:SimO (XU os zb U o.nx.y) (.vec 1 (Qb o.nx.ns)) (H1 o.nx.y):=s.t.get (LGo.of hl (by rw[ho];exact o.nxM));obtain⟨ns',ni,cC,jh,_⟩:=Dn sY;refine Q3 (Qa ?_);simp only[go_sem,l0,l1,l2,l6,l12,cN,bv,bC,bq,hb,ni,Qe,cC,Jn,Jo];try intro _
  refine Wv ?_ ?_
  ·intro hc;have ae:i<o.nx.ns.length:=ZG
   have aI:i<ns'.length:=ZD
   have bp:(Qb ns').take o.nx.ns.length=Qb ns':=Jg ZZ;have ez:=jh i ae (.inl ⟨b,hl,by rw[ho]⟩);have qN:o.nx.ns.getD i 0∈y.next:=by rw[te];exact CZ ae
   have xL:=bu.nx _ qN;obtain⟨v,hv⟩:∃v:Nat,o.nx.ns.getD i 0=(v:Int):=⟨(o.nx.ns.getD i 0).toNat,ZD⟩;rw[hv]at ez xL;have qK:v<q.blocks.length:=ZD
   have qM:v<n:=by rw[<-c.hn];exact qK
   refine Ze ?_
   refine Wh ?_;simp only[go_sem,cN,bv,bC,bq,hb,ni,bp,Qe,cC,ae,Qn _ _ aI,ez,Jn,Jo];have hw:=s.w;rw[wO]at hw;refine Zh hw ?_;refine CY (nx:=gnx q) (.mk' _ _ _ _) rfl (Cs H1 q false).x λH2 hu=>?_;have s:NSt q os zb n R wl cy ids F nx cs (XU os zb U) H2:=⟨s.t.aw hu,s.c⟩;rw[Qj];simp only[go_sem,Qg3];refine Dy (ns:=Qz (gnx q) (v:Int) q.blocks.length) (.mk' _ _ _ _) rfl λr hr=>?_;have qr:(b:Int)∈Qz (gnx q) (v:Int) q.blocks.length:=by
    simp only[Qz,Jl,Jad,Jw];refine⟨b,⟨hq,J5.2 ?_⟩,rfl⟩;rw[Cz hq,lT,<-hv];exact qN
   obtain⟨a,ra,dk⟩:∃a:Nat,r=(a:Int)/\a<(Qz (gnx q) (v:Int) q.blocks.length).length:=by
    rcases hr with ⟨_,hn⟩|⟨a,h1,h2,_⟩
    ·exact absurd qr hn
    ·exact⟨a,h1,h2⟩
   subst ra;clear hr;simp only[go_sem,Qg2];obtain⟨b6,_,iZ,qL,o8,hvp,_⟩:=c.get qM;obtain⟨o',eQ⟩:∃o',os[v]=o':=⟨_,rfl⟩;obtain⟨y',dO⟩:∃y',q.blocks[v]=y':=⟨_,rfl⟩;rw[eQ,dO]at iZ;rw[eQ]at qL hvp;rw[dO]at o8;have hyl':y'.aa.length=o'.aa.length:=by rw[<-iZ];simp[OBlk.d]
   refine Za ?_;refine Qd (Qs (λm e1 H1=>∃(k:Nat),m=o'.aa.length-k/\k<=o'.aa.length/\NSt q os zb n R wl cy ids F nx cs (XU os zb U) H1/\lk 0 e1=.c (.ptr wl 0)/\lk 1 e1=.c (.int .i64 b)/\lk 2 e1=.c (.ah cy 1 0 R)/\lk 6 e1=.c (.ep (.ah zb 5 0 n) 5 b 0)/\lk 12 e1=.c (.int .i64 i)/\
    lk 13 e1=.c (.int .i64 v)/\lk 14 e1=.c (.int .i64 a)/\lk 15 e1=.c (.int .i64 k)) o'.aa.length ?_ ?_)
   ·exact⟨0,ZD,ZD,s,rfl,rfl,rfl,rfl,rfl,rfl,rfl,rfl⟩
   ·clear s hw cN bv bC bq ni bp cC jh aI sY l0 l1 l2 l6 l12;rintro m2 e2 H3 ⟨k,eK,dK,s,l0,l1,l2,l6,l12,l13,l14,l15⟩;have hw:=s.w;rw[wO]at hw;refine Q3 (Qa ?_);simp only[go_sem,l0,l1,l2,l6,l12,l13,l14,l15,hw,qK,Qj,Q9 _ _ qK,BlkD.cells,dO,Q5];try intro _
    refine Wv ?_ ?_
    ·intro ao;have aI:k<y'.aa.length:=ZI;have aV:k<o'.aa.length:=ZD;obtain⟨z,kH,cP⟩:=OBlk.phZ qL aV;obtain⟨RW,j,on,cN,bv,bC,bq,_,_⟩:=AN s.t c qM b6 eQ;obtain⟨_,_,hpw',hiw'⟩:=Ca s.t c b6 eQ;rw[kH]at bq;obtain⟨PR,to,ya,hz,pU,tF,qu,cW,wQ,_⟩:=rdPh s.t c b6 eQ cP aV;obtain⟨p,hp⟩:∃p,y'.aa[k]=p:=⟨_,rfl⟩;have dI:p∈y'.aa:=ZaD;have uU:p.args=o'.aa[k].ns:=by
      have h1:(o'.aa.map OPhi.d)[k]? = some o'.aa[k].d:=(by simp[aV]);have h2:o'.aa.map OPhi.d=y'.aa:=(by rw[<-iZ];rfl);rw[h2,Je aI,hp]at h1;rw[Jap h1];rfl
     have jx:=o8.pal p dI;have jG:a<p.args.length:=ZD;have mA:o'.aa[k].ns.length=p.args.length:=(by rw[uU]);have qB:(ya,Obj.vec 1 (Qb o'.aa[k].ns))∈LGo os zb:=LGo.of b6 (by rw[eQ];exact OBlk.phM cW);obtain⟨ns',ni,cC,_,gj⟩:=Dn (s.t.get qB);rw[mA]at qu cC;have rx:∀r,¬XU os zb U ya r:=λr=>ap.ph b6 (p:=(ya,Obj.vec 1 (Qb o'.aa[k].ns))) (by rw[eQ];exact cW) r;have bp:(Qb ns').take p.args.length=Qb ns':=Jg ZZ;have han:a<ns'.length:=ZD;obtain⟨hu,me⟩:=(o8.pargs p dI _ (CZ jG)).nat;rw[c.hR]at me;have j8:=s.cu;have jW:=s.ct;generalize hr:(p.args.getD a 0).toNat=r at *;have dy:r<cs.length:=(by rw[s.c];exact me);refine Ze ?_
     refine Wu ?_;simp only[go_sem,hw,qK,qM,Qj,Q9 _ _ qK,BlkD.cells,dO,Q5,aI,Br _ _ aI,PhiD.cells,hp,cN,bv,bC,bq,hz,pU,tF,qu,aV,ni,Qe,cC,jG,Qn _ _ jG,Qn _ _ han,hu,me,j8,jW,s.c,Qn _ _ dy,C3,Jn,Jo];intro H4 h4;have s:NSt q os zb n R wl cy ids F nx cs (XU os zb U) H4:=⟨HN s.t qB gj (by rw[mA];exact jG) _ h4 (λm' r' _ hh=>hh) (rx a),s.c⟩;refine Zi ?_;refine⟨Qo,?_⟩;show ∃m,_;exact⟨o'.aa.length-(k+1),ZD,k+1,rfl,ZD,s,rfl,rfl,rfl,rfl,rfl,rfl,rfl,rfl⟩
    ·intro _;refine Zb ?_;refine Zi ?_;refine⟨Qo,?_⟩;show ∃m,_;exact⟨o.nx.ns.length-(i+1),ZD,i+1,rfl,ZD,s,rfl,rfl,rfl,rfl,rfl⟩
  ·intro _;refine Zb ?_;exact h _ _ s ⟨rfl,rfl,rfl,rfl⟩
end Go.AE.Y
namespace Go.AE.Y
attribute [local go_sem] cond_true cond_false Bool.not_true Bool.not_false
attribute [local instance] Classical.propDecidable
open Go.Proofs.Tryz
variable {H H' F:Heap}{K:V->Heap->Prop}{q:CodeD}{os:List OBlk}{zb wl cy R n b:Nat}{ids:List Int}{nx:Int}{cs:List Int}
def wgt (os:List OBlk)(x:Nat):Nat:=match os[x]? with
 |some o=>o.aa.length+o.ins.length
 |none=>0
theorem TM {x:Nat}{o:OBlk}(h:x<os.length)(ho:os[x]=o):wgt os x=o.aa.length+o.ins.length:=by simp[wgt,h,ho]
theorem Ya {n:Nat}{g:Nat->List Nat}{b:Nat}:depL n g b<=n:=by
 have:=Jaf (λa=>Aq g a b) (List.range n);simpa[depL]using this
theorem Qa8u (ids:List Int)(b:Nat):(B6 ids b).Nodup:=List.Nodup.sublist List.filter_sublist List.nodup_range
theorem Qbi7 {N B:Nat}{w:Nat->Nat}(hw:∀x,w x<=B)(U:Nat->Prop):potW N w U<=N * B:=by
 have key:∀m,(((List.range m).filter λx=>decide (U x)).map w).sum<=m * B:=λm=>by
  induction m with
  |zero=>simp
  |succ m ih=>
   rw[Jbj,List.filter_append,Jt,List.sum_append,Jbl];have h1:(((List.filter (λx=>decide (U x)) [m]).map w)).sum<=B:=by
    by_cases h:U m
    ·simp[h];exact hw m
    ·simp[h]
   omega
 exact key N
noncomputable def pW (n:Nat)(w:Nat->Nat)(U:Nat->Prop):Nat:=@potW n w U λ_=>Classical.propDecidable _
theorem Vh {w:Nat->Nat}{U V:Nat->Prop}{b:Nat}(hb:b<n)(hU:U b)(hV:∀x,V x↔U x/\x≠b):pW n w V+w b=pW n w U:=by
 unfold pW;exact Qbtv hb hU hV
theorem HE {w:Nat->Nat}{U V:Nat->Prop}(h:∀x,V x->U x):pW n w V<=pW n w U:=by
 unfold pW;exact VY h
theorem Qbtr {N B:Nat}{w:Nat->Nat}(hw:∀x,w x<=B)(U:Nat->Prop):pW N w U<=N * B:=by
 unfold pW;exact Qbi7 hw U
set_option maxHeartbeats 8000000 in
theorem Xe (c:NC q os zb R n ids)(M:Int)(hM:M<=2 ^ 40):∀(N b:Nat) (U:Nat->Prop) (nx:Int) (cs:List Int) (cy:Nat) (H:Heap) (K:V->Heap->Prop),n<N+depL n (nxN (gnx q)) b->b<n->(∀x,Sub ids b x->U x)->NSt q os zb n R wl cy ids H nx cs (XU os zb U) H->0<=nx->nx+pW n (wgt os) U<=M->
  (∀nx' cs' H',NSt q os zb n R wl cy ids H nx' cs' (XU os zb λx=>U x/\¬Sub ids b x) H'->0<=nx'->nx'+pW n (wgt os) (λx=>U x/\¬Sub ids b x)<=M->K (.tup []) H')->
  Qv prog PS [.c (.ptr wl 0),.c (.int .i64 b),.c (.ah cy 1 0 R)] H K:=by
 intro N
 induction N with
 |zero=>intro b U nx cs cy H K h1;have:=Ya (n:=n) (g:=nxN (gnx q)) (b:=b);omega
 |succ N ih=>
  intro b U nx cs cy H K hN hb tD s h0 uT hK;obtain⟨hl,hq,hd,ay,bu,cP,ck⟩:=c.get hb;obtain⟨o,ho⟩:∃o,os[b]=o:=⟨_,rfl⟩;obtain⟨y,hy⟩:∃y,q.blocks[b]=y:=⟨_,rfl⟩;rw[ho]at hd ay cP ck;rw[hy]at hd bu;have ap:Apart os zb:=s.t.nodup;have tC:U b:=tD b .refl;obtain⟨U1,sK⟩:∃U1:Nat->Prop,U1=λx=>U x/\x≠b:=⟨_,rfl⟩;have sI:¬U1 b:=by rw[sK];exact λh=>h.2 rfl
  have sZ:=Vh (n:=n) (w:=wgt os) (U:=U) (V:=U1) hb tC (λx=>by rw[sK]);rw[TM hl ho]at sZ;have s1:NSt q os zb n R wl cy ids H nx cs (XC os zb U1 o b true 0 0) H:=by
   refine⟨?_,s.c⟩;refine s.t.weak λm r hh=>?_;rcases hh with (h|⟨x,hx,nV,he⟩)|⟨_,h1,h2⟩|⟨p,hp,h1,_⟩|⟨i',bS,h1,_⟩
   ·exact .inl h
   ·rw[sK]at nV;exact .inr ⟨x,hx,nV.1,he⟩
   ·exact .inr ⟨b,hl,tC,.inl ⟨h1,h2⟩⟩
   ·exact .inr ⟨b,hl,tC,.inr ⟨p,by rw[ho];exact Jd _ hp,h1⟩⟩
   ·exact .inr ⟨b,hl,tC,.inr ⟨_,by rw[ho];exact Ji _ (o.aM bS),h1⟩⟩
  have wS:∀p∈o.phN,∀r,¬XC os zb U1 o b true 0 0 p.1 r:=λp hp r hh=>by
   have bX:p∈os[b].phN:=by rw[ho];exact hp
   rcases hh with h|h
   ·exact ap.ph hl bX r h
   ·exact ap.phP hl hl bX true 0 0 r (by rw[ho];exact h)
  clear s;refine Qc Ab Qab5 ?_;have hw:=s1.w;rw[wO]at hw;obtain⟨RW,j,on,cN,bv,bC,bq,_,_⟩:=AN s1.t c hb hl ho;refine Qa ?_;simp only[go_sem,hw,cN,bv,hb,Jn,Jo];refine phA c hb hl ho wS s1 ⟨rfl,rfl,rfl,rfl⟩ h0 ZD ZD λe2 H2 s2 k2=>?_;refine phB c hb hl ho hd hq hy s2 k2 ZD λe3 H3 cs3 s3 k3=>?_;refine phC c hb hl ho hd hq hy sI s3 k3 ZD ZD ZD λe4 H4 nx4 cs4 dz mH s4 k4=>?_;refine phD c hb hl ho hd hq hy sI s4 k4 λe5 H5 s5 k5=>?_;refine phE c hb hl ho hd hq hy s5 k5 λe6 H6 s6 k6=>?_;obtain⟨l0,l1,l2,l6⟩:=k6;have hw:=s6.w;rw[wO]at hw;refine Zo l0 l1 hw ?_;refine Qbm4 (by rw[c.t.1];have:=c.ok.b1;rw[c.hn]at this;omega) λH7 hu=>?_;have s7:NSt q os zb n R wl cy ids H nx4 cs4 (XU os zb U1) H7:=⟨s6.t.aw hu,s6.c⟩;simp only[go_sem,Qg4,l0,l2];obtain⟨kl,dd⟩:∃kl,B6 ids b=kl:=⟨_,rfl⟩;rw[dd];have hkll:kl.length<=160:=by
   have h1:=Jaf (λi=>decide (ids.getD i 0=(b:Int))) (List.range ids.length);rw[Jbd,c.t.1]at h1;have h2:=c.ok.b1;rw[c.hn]at h2;rw[<-dd,B6,c.t.1];omega
  have rO:∀k∈kl,k∈B6 ids b:=λk hk=>by rw[dd];exact hk
  have vN:kl.Nodup:=by rw[<-dd];exact Qa8u ids b
  refine Za ?_;refine Qd (Qs (λm e1 H1=>∃(i:Nat) (nx':Int) (cs:List Int),m=kl.length-i/\i<=kl.length/\NSt q os zb n R wl cy ids H nx' cs (XU os zb λx=>U1 x/\∀k∈kl.take i,¬Sub ids k x) H1/\0<=nx'/\nx'+pW n (wgt os) (λx=>U1 x/\∀k∈kl.take i,¬Sub ids k x)<=M/\
   lk 0 e1=.c (.ptr wl 0)/\lk 2 e1=.c (.ah cy 1 0 R)/\lk 16 e1=.c (.sl false 1 (Q7 kl))/\lk 17 e1=.c (.int .i64 i)) kl.length ?_ ?_)
  ·refine⟨0,nx4,cs4,ZD,ZD,⟨s7.t.weak λm r hh=>?_,s7.c⟩,ZD,?_,rfl,rfl,rfl,rfl⟩
   ·rcases hh with h|⟨x,hx,nV,he⟩
    ·exact .inl h
    ·exact .inr ⟨x,hx,nV.1,he⟩
   ·have:=HE (n:=n) (w:=wgt os) (U:=U1) (V:=λx=>U1 x/\∀k∈kl.take 0,¬Sub ids k x) λx hx=>hx.1;omega
  ·clear hw cN bv bC bq s1 s6 s7 hu l0 l1 l2 l6;rintro m e7 H8 ⟨i,nx',cs,hm,hi,s,bY,n6,l0,l2,l16,l17⟩;refine Q3 (Qa ?_);simp only[go_sem,l0,l2,l16,l17,Q1];try intro _
   refine Wv ?_ ?_
   ·intro hc;have ae:i<kl.length:=ZG;obtain⟨k,hk⟩:∃k,kl[i]=k:=⟨_,rfl⟩;have je:k∈B6 ids b:=rO k (by rw[<-hk];exact Jc ae);have bQ:kl.getD i 0=k:=(by simp[Jb,ae,hk]);have pm:=kidsL_mem.1 je;have rN:k<n:=(by rw[<-c.t.1];exact pm.1);have hdep:=(c.t.up pm.1 pm.2).2;have j8:=s.cu;refine Ze ?_
    refine Wu ?_;simp only[go_sem,ae,Q1,Bk _ _ ae,bQ,j8,s.ct,s.cl,Jah,Jj,List.drop_zero,Jn,Jo];refine⟨.inl trivial,Qy _,by have h1:=c.ok.r1;have h2:=c.ok.r0;have:=c.hR;simp only[LIM];omega,λz hz H9 h9=>?_⟩;have t9:=s.t.al hz h9;simp only[go_sem,Qg5,ae,Q1,Bk _ _ ae,bQ];have jq:Ty (LGo os zb) H9 [(wl,wO q ids zb n nx'),(z,.vec 1 (Qb cs))] (XU os zb λx=>U1 x/\∀k∈kl.take i,¬Sub ids k x) H9 []:=Ty.sub (L:=[]) t9;refine ih k (λx=>U1 x/\∀k∈kl.take i,¬Sub ids k x) nx' cs z H9 _ ZD rN (λx hx=>?_) ⟨jq,s.c⟩ bY n6 λnx2 cs2 H10 s10 vw rm=>?_
    ·refine⟨?_,λk' fu eX=>?_⟩
     ·rw[sK];refine⟨tD x (Sub.kid je hx),λlD=>?_⟩;subst lD;exact Sub.kid_ne c.t je hx
     ·have hk'm:k'∈kl:=Jaw fu;have:=Sub.kids_apart c.t (rO k' hk'm) je eX hx;subst this;rw[<-hk]at fu;exact I2 vN ae fu
    have wT:∀x,(U1 x/\∀k∈kl.take (i+1),¬Sub ids k x)↔((U1 x/\∀k∈kl.take i,¬Sub ids k x)/\¬Sub ids k x):=λx=>by
     rw[Jk ae,hk];constructor
     ·rintro⟨g1,g2⟩;exact⟨⟨g1,λk' fu=>g2 k' (Ji _ fu)⟩,g2 k (Jd _ ZF)⟩
     ·rintro⟨⟨g1,g2⟩,g3⟩;refine⟨g1,λk' fu=>?_⟩;rcases Jp.1 fu with h|h
      ·exact g2 k' h
      ·simp only[Ja]at h;rw[h];exact g3
    have yw:(λx=>U1 x/\∀k∈kl.take (i+1),¬Sub ids k x)=λx=>(U1 x/\∀k∈kl.take i,¬Sub ids k x)/\¬Sub ids k x:=funext λx=>propext (wT x);have t11:=Ty.ret (L:=[]) t9 s10.t;refine Zi ?_;refine⟨Qo,?_⟩;show ∃m,_;refine⟨kl.length-(i+1),ZD,i+1,nx2,cs,rfl,ZD,?_,vw,?_,rfl,rfl,rfl,rfl⟩
    ·rw[yw];exact⟨t11,s.c⟩
    ·rw[yw];exact rm
   ·intro hc;have mQ:i=kl.length:=(by have:kl.length<=i:=(by simpa using hc);omega);subst mQ;rw[Jbf]at s n6;refine Qq ?_;simp only[go_sem,X.next,Q4,Aa,Qpa,Jam,false_imp_iff,implies_true,List.map_nil];have ja:∀x,(U x/\¬Sub ids b x)->(U1 x/\∀k∈kl,¬Sub ids k x):=λx hx=>by
     refine⟨by rw[sK];exact⟨hx.1,λlD=>hx.2 (by rw[lD];exact .refl)⟩,λk hk hs=>hx.2 (Sub.kid (rO k hk) hs)⟩
    refine hK nx' cs H8 ⟨s.t.weak λm r hh=>?_,s.c⟩ bY ?_
    ·rcases hh with h|⟨x,hx,nV,he⟩
     ·exact .inl h
     ·exact .inr ⟨x,hx,ja x nV,he⟩
    ·have:=HE (n:=n) (w:=wgt os) ja;omega
theorem LGo.vec {zb:Nat}(ay:∀b∈os,b.ok)(bM:∀b∈os,∀p∈b.aa,p.own):∀p∈LGo os zb,∃sz rows,p.2=.vec sz rows:=λp hp=>by
 rcases Jp.1 hp with hp|hp
 ·obtain⟨o,ho,hp⟩:=Jq.1 hp;have h1:=ay o ho;simp only[OBlk.lg,Jp]at hp;rcases hp with hp|hp|hp|hp|hp
  ·simp only[OInts.lg,Ja]at hp;rw[hp];exact⟨_,_,rfl⟩
  ·obtain⟨x,hx,hp⟩:=Jq.1 hp;obtain⟨y,_,e⟩:=bM o ho x hx;rw[e]at hp;simp only[Ja]at hp;rw[hp];exact⟨_,_,rfl⟩
  ·rcases h1.p with ⟨_,_,e⟩|⟨y,_,e⟩
   ·rw[e]at hp;simp at hp
   ·rw[e]at hp;simp only[Ja]at hp;rw[hp];exact⟨_,_,rfl⟩
  ·obtain⟨x,hx,hp⟩:=Jq.1 hp;simp only[OIns.lg,OInts.lg,Ja]at hp;rw[hp];exact⟨_,_,rfl⟩
  ·rcases h1.i with ⟨_,_,e⟩|⟨y,_,e⟩
   ·rw[e]at hp;simp at hp
   ·rw[e]at hp;simp only[Ja]at hp;rw[hp];exact⟨_,_,rfl⟩
 ·simp only[Ja]at hp;rw[hp];exact⟨_,_,rfl⟩
theorem YT {LG E0:List (Nat×Obj)}{Z:Nat->Nat->Prop}(hv:∀p∈LG,∃sz rows,p.2=.vec sz rows)(kn:Kn H H (E0++LG) []):Ty LG H E0 Z H []:=by
 refine⟨LG,rfl,λp hp ob aX=>?_,kn⟩;have hd:=kn.dE;rw[Jt]at hd;have bE:=(Ju.1 hd).2.1;obtain⟨i1,g1⟩:=J9 hp;obtain⟨i2,g2⟩:=J9 aX;have:=BP bE g1 g2 rfl;subst this;rw[g1]at g2;have e:p.2=ob:=by rw[Jap g2]
 obtain⟨sz,rows,h⟩:=hv p hp;rw[<-e,h];exact .same _ _
theorem ET {S:Nat->Bool}{Z:Nat->Prop}{m k:Nat}{ns:List Int}(hs:SimO Z (.vec 1 (Qb ns)) (H m))(hS:S m=true)(hk:k=ns.length):∃ns':List Int,ns'.length=ns.length/\FrzC H S (.ah m 1 0 k) (.sl false 1 (Qb ns')):=by
 obtain⟨ns',h1,h2,_⟩:=Dn (X:=λ_=>Z) (m:=m) hs;exact⟨ns',h2,(FrzR.same (Qy _)).ah hS h1 ZZ⟩
theorem D9 {β:Type}{S:Nat->Bool}{g:β->List C}{P:β->Prop}:∀(l:List (List C)),(∀r∈l,∃y,FrzL H S r (g y)/\P y)->∃l':List β,FrzR H S l (l'.map g)/\l'.length=l.length/\∀y∈l',P y
 |[],_=>⟨[],.nil,rfl,ZF⟩
 |x::l,h=>by
  obtain⟨y,hy,hp⟩:=h x Jbc;obtain⟨l',cZ,hn,iE⟩:=D9 l λz hz=>h z (Ja7 _ hz);refine⟨y::l',.cons hy cZ,ZaF,λz hz=>?_⟩;rcases Jx.1 hz with rfl|hz
  ·exact hp
  ·exact iE z hz
theorem E5 {l:List (List C)}{r:List C}(h:r∈l):∃i,i<l.length/\l.getD i []=r:=by
 obtain⟨i,hi,rfl⟩:=Jy.1 h;exact⟨i,hi,by simp[Jb,hi]⟩
theorem Qbre {S:Nat->Bool}{Z:Nat->Nat->Prop}{o:OBlk}(ay:o.ok)(bM:∀p∈o.aa,p.own)(hs:∀p∈o.phN,SimO (Z p.1) p.2 (H p.1)/\S p.1=true):∃ps:List PhiD,FrzC H S o.pc (.sl false 2 (Q8 ps))/\ps.length=o.aa.length:=by
 rcases ay.p with ⟨h1,h2,_⟩|⟨z,h1,h2⟩
 ·have h0:o.aa=[]:=Jba.1 h2;exact⟨[],by rw[h1];exact FrzR.nil.sl,by simp[h0]⟩
 ·obtain⟨hz,wW⟩:=hs (z,.vec 2 (o.aa.map OPhi.row)) (Jd _ Zan);obtain⟨PR,g1,g2,g3⟩:=hz.get;rw[Jf]at g2 g3;obtain⟨ps,e1,e2,_⟩:=D9 (H:=H) (S:=S) (g:=PhiD.cells) (P:=λ_=>True) PR λr hr=>by
   obtain⟨i,hi,he⟩:=E5 hr;have bS:i<o.aa.length:=ZD
   obtain⟨h4,_⟩:=g3 i bS;obtain⟨ya,e3,e4⟩:=bM _ (Jc bS);have hg:(o.aa.map OPhi.row).getD i []=[.int .i64 o.aa[i].to,.ah ya 1 0 o.aa[i].ns.length]:=by
    simp only[Jb,J0,Je bS,J2,Jz,OPhi.row,e3]
   rw[hg,he]at h4;have cW:=hs (ya,.vec 1 (Qb o.aa[i].ns)) (Ji _ (Jq.2 ⟨_,Jc bS,by rw[e4];simp⟩));obtain⟨ns',_,gz⟩:=ET cW.1 cW.2 rfl
   cases h4 with
   |cons a1 t1=>cases t1 with
    |cons a2 t2=>cases t2 with
     |nil=>
      obtain⟨v,e⟩:=a1.int;have e5:=a2.ah;subst e;subst e5;exact⟨⟨v,ns'⟩,.cons (Qi rfl) (.cons gz .nil),trivial⟩
  exact⟨ps,by rw[h1];exact e1.ah wW g1 (by rw[Jf,g2]),ZD⟩
theorem Yj {S:Nat->Bool}{Z:Nat->Nat->Prop}{o:OBlk}(ay:o.ok)(hs:∀p∈o.inN,SimO (Z p.1) p.2 (H p.1)/\S p.1=true):∃is:List InsD,FrzC H S o.ic (.sl false 4 (Af is))/\is.length=o.ins.length:=by
 rcases ay.i with ⟨h1,h2,_⟩|⟨z,h1,h2⟩
 ·have h0:o.ins=[]:=Jba.1 h2;exact⟨[],by rw[h1];exact FrzR.nil.sl,by simp[h0]⟩
 ·obtain⟨hz,wW⟩:=hs (z,.vec 4 (o.ins.map OIns.row)) (Jd _ Zan);obtain⟨PR,g1,g2,g3⟩:=hz.get;rw[Jf]at g2 g3;obtain⟨ps,e1,e2,_⟩:=D9 (H:=H) (S:=S) (g:=InsD.cells) (P:=λ_=>True) PR λr hr=>by
   obtain⟨i,hi,he⟩:=E5 hr;have bS:i<o.ins.length:=ZD
   obtain⟨h4,_⟩:=g3 i bS;have hg:(o.ins.map OIns.row).getD i []=[.int .i64 o.ins[i].op,.int .i64 o.ins[i].to,.ah o.ins[i].a.y 1 0 o.ins[i].a.ns.length,.int .i64 o.ins[i].n]:=by
    simp only[Jb,J0,Je bS,J2,Jz];rfl
   rw[hg,he]at h4;have cW:=hs (o.ins[i].a.y,.vec 1 (Qb o.ins[i].a.ns)) (Ji _ (o.aM bS));obtain⟨ns',_,gz⟩:=ET cW.1 cW.2 rfl
   cases h4 with
   |cons a1 t1=>cases t1 with
    |cons a2 t2=>cases t2 with
     |cons a3 t3=>cases t3 with
      |cons a4 t4=>cases t4 with
       |nil=>
        obtain⟨v1,f1⟩:=a1.int;obtain⟨v2,f2⟩:=a2.int;have f3:=a3.ah;obtain⟨v4,f4⟩:=a4.int;subst f1;subst f2;subst f3;subst f4;exact⟨⟨v1,v2,ns',v4⟩,.cons (Qi rfl) (.cons (Qi rfl) (.cons gz (.cons (Qi rfl) .nil))),trivial⟩
  exact⟨ps,by rw[h1];exact e1.ah wW g1 (by rw[Jf,g2]),ZD⟩
theorem Qbrd {S:Nat->Bool}{Z:Nat->Nat->Prop}(c:NC q os zb R n ids)(t:∀p∈LGo os zb,SimO (Z p.1) p.2 (H p.1))(hS:∀p∈LGo os zb,S p.1=true) :
  ∃bs:List BlkD,FrzC H S (.ah zb 5 0 n) (.sl false 5 (Ql bs))/\bs.length=n/\∀y∈bs,y.ins.length<=1200/\y.aa.length<=1200:=by
 have hs:=t _ LGo.zbm;obtain⟨RW,h1,h2,h3⟩:=hs.get;rw[Jf,c.l]at h2;obtain⟨bs,e1,e2,e3⟩:=D9 (H:=H) (S:=S) (g:=BlkD.cells) (P:=λy=>y.ins.length<=1200/\y.aa.length<=1200) RW λr hr=>by
  obtain⟨x,hx,he⟩:=E5 hr;have qd:x<n:=ZD
  obtain⟨hl,hq,hd,ay,bu,cP,ck⟩:=c.get qd;obtain⟨RW',j,on,g1,g2,_,g4,_,_⟩:=Ic hs c qd hl rfl;rw[h1]at g1;cases g1;rw[g4]at he;subst he;have kz:∀p∈os[x].lg,SimO (Z p.1) p.2 (H p.1)/\S p.1=true:=λp hp=>⟨t p (LGo.of hl hp),hS p (LGo.of hl hp)⟩;obtain⟨ps,p1,p2⟩:=Qbre (H:=H) (S:=S) (Z:=Z) ay (c.ow _ (Jc hl)) λp hp=>kz p (OBlk.phM hp);obtain⟨is,i1,i2⟩:=Yj (H:=H) (S:=S) (Z:=Z) ay λp hp=>kz p (OBlk.inM hp);have fd:=kz _ os[x].nxM;obtain⟨ns',_,n2⟩:=ET fd.1 fd.2 rfl;exact⟨⟨ps,is,j,on,ns'⟩,.cons p1 (.cons i1 (.cons (Qi rfl) (.cons (Qi rfl) (.cons n2 .nil)))),by show is.length<=_;omega,by show ps.length<=_;omega⟩
 exact⟨bs,e1.ah (hS _ LGo.zbm) h1 ZD,ZD,e3⟩
set_option maxHeartbeats 8000000 in
theorem Qa8y {q:CodeD}(ho:q.ok)(fj:0<=q.params)(gm:q.params<=q.ab)(h9:∀y∈q.blocks,y.ins.length<=900/\y.aa.length<=900)(hK:∀(d:CodeD) H',d.fits->Upd H H' []->K (.ag d.cells) H') :
  Qv prog RB [.ag [.int .i64 q.params,.int .i64 q.ab,.sl false 5 (Ql q.blocks)]] H K:=by
 refine Q0 ?_;refine Qc Ab Qa9h ?_;refine Za ?_;intro x2 aW H1 h1;have kn:=(Kn.ar H).al aW h1;refine Za ?_;refine Qbii ho fj h9 λd1 H2 bT ql dC h9d hu=>?_;have kn:=kn.aw hu;simp only[go_sem,Qyj,CodeD.cells];refine Qbm8 bT h9d λd2 H3 cD ej fD hu=>?_;have kn:=kn.aw hu;have hp:d2.params=q.params:=ej.trans ql;have hr:d2.ab=q.ab:=fD.trans dC;simp only[go_sem,Qyi,CodeD.cells];intro x3 aF H4 h4;have kn:=kn.al aF h4;have aF:=kn.l 1 rfl;simp only[go_sem,Qyh,aF];intro H5 h5;have kn:Kn H H5 [] [(x2,.st [.int .i64 0,.int .i64 0,.sl true 5 []]),(x3,.st [.int .i64 d2.params,.int .i64 d2.ab,.sl false 5 (Ql d2.blocks)])]:=kn.aB 1 rfl h5;have aF:=kn.l 1 rfl;have fw:=cD.b0;have bf:=cD.b1;have hrr0:=cD.r0;have hrr1:=cD.r1;refine Aj ?_;simp only[go_sem,aF];refine DI cD.sg λo H6 k2 ay eZ bM=>?_;have kn:=kn.comp0 k2;obtain⟨n,hn⟩:∃n,d2.blocks.length=n:=⟨_,rfl⟩;have dJ:o.blocks.length=n:=by rw[<-hn,<-eZ];simp[OCode.d]
 obtain⟨zb,db,bG⟩:∃z,o.bc=.ah z 5 0 n/\o.bl=[(z,.vec 5 (o.blocks.map OBlk.row))]:=by
  rcases ay.b with ⟨_,h,_⟩|⟨y,h1,h2⟩
  ·have:=congrArg List.length h;simp only[Jf,Jj]at this;omega
  ·exact⟨y,by rw[h1,Jf,dJ],h2⟩
 have a8:o.row=[.int .i64 d2.params,.int .i64 d2.ab,.ah zb 5 0 n]:=by
  rw[OCode.row,db,<-eZ];rfl
 have tp:o.lg=LGo o.blocks zb:=by rw[OCode.lg,bG];rfl
 have mt:o.blocks.map OBlk.d=d2.blocks:=Zbc
 have m7:=ay.bs;rw[tp]at kn;have aF:=kn.l 1 rfl;simp only[go_sem,Qyn,aF];refine FG (rows:=Ql d2.blocks) (nx:=gnx d2) (GC cD.gd) (by rw[Qj];exact cD.fitB) λH7 hu=>?_;have kn:=kn.aw hu;have aF:=kn.l 1 rfl;rw[Qj,hn];simp only[go_sem,Qym,aF];refine Qbih ZD ZD λids H8 qS hu=>?_;have kn:=kn.aw hu;have aF:=kn.l 1 rfl;rw[a8];simp only[go_sem,Qyl,aF];intro x4 bO H9 xt;have kn:=kn.al bO xt;have aF:=kn.l 1 rfl;simp only[go_sem,Qyk];obtain⟨R,hR⟩:∃R:Nat,d2.ab.toNat=R:=⟨_,rfl⟩;have lz:d2.ab=(R:Int):=ZD
 refine Zh aF ?_;refine⟨ZD,by simp only[LIM];omega,λcy fN H10 dg=>?_⟩;rw[Sh,hR]at dg;have kn:=kn.al fN dg;simp only[go_sem,Qyo,hR];refine Wa ?_;generalize hos0:o.blocks=os at *;have kn:Kn H H10 [] ([(cy,.vec 1 (Qb (List.replicate R 0)))]++([(x2,.st [.int .i64 0,.int .i64 0,.sl true 5 []]),(x3,.st [.int .i64 d2.params,.int .i64 d2.ab,.sl false 5 (Ql d2.blocks)])]++([(x4,wO d2 ids zb n q.params)]++LGo os zb))):=kn.perm (Qt λf hf h0 hc hp=>by
  have e2:∀(a b:Nat×Obj),f [a,b]=f [a]+f [b]:=λa b=>hc a [b];simp only[hf,e2,wO];omega)
 refine Qg (Qd (Qs (λm e1 H1=>∃(r:Nat) (cs:List Int),m=q.params.toNat-r/\(r:Int)<=q.params/\cs.length=R/\
  Kn H H1 [] ([(cy,.vec 1 (Qb cs))]++([(x2,.st [.int .i64 0,.int .i64 0,.sl true 5 []]),(x3,.st [.int .i64 d2.params,.int .i64 d2.ab,.sl false 5 (Ql d2.blocks)])]++([(x4,wO d2 ids zb n q.params)]++LGo os zb)))/\
  lk 1 e1=.c (.pp [.int .i64 q.params,.int .i64 q.ab,.sl false 5 (Ql q.blocks)])/\lk 2 e1=.c (.ptr x2 0)/\lk 4 e1=.c (.ptr x4 0)/\lk 5 e1=.c (.ah cy 1 0 R)/\lk 6 e1=.c (.int .i64 r)) q.params.toNat ?_ ?_))
 ·exact⟨0,List.replicate R 0,ZD,fj,ZF,kn,rfl,rfl,rfl,rfl,rfl⟩
 ·clear kn dg;rintro m e1 H11 ⟨r,cs,hm,hrp,cB,kn,l1,l2,l4,l5,l6⟩;refine Q3 (Qa ?_);simp only[go_sem,l1,l2,l4,l5,l6];refine Wv ?_ ?_
  ·intro hc;have ae:(r:Int)<q.params:=ZG
   have iD:r<R:=ZD
   have dy:r<cs.length:=ZD
   have j8:=kn.l 0 rfl;have jW:(Qb cs).take R=Qb cs:=Jg ZZ;refine Ze ?_
   refine Wt ?_;simp only[go_sem,j8,Qe,cB,iD,Qn _ _ dy,C3,Jn,Jo];intro H12 f0;have kn:=kn.aB 0 rfl f0;refine Zi ?_;refine⟨Qo,?_⟩;show ∃m,_;exact⟨q.params.toNat-(r+1),ZD,r+1,_,rfl,ZD,by rw[Jag];exact cB,kn,rfl,rfl,rfl,rfl,ZE⟩
  ·intro hc;refine Zb ?_;have hC:NC d2 os zb R n ids:=⟨cD,hn,hR,dJ,λx h h'=>by
    have h1:(os.map OBlk.d)[x]? = some os[x].d:=ZaY;rw[mt,Je h']at h1;exact (Jap h1).symm,m7,bM,qS⟩
   have kn:Kn H H11 [] ((([(x4,wO d2 ids zb n q.params),(cy,.vec 1 (Qb cs))])++LGo os zb)++[(x2,.st [.int .i64 0,.int .i64 0,.sl true 5 []]),(x3,.st [.int .i64 d2.params,.int .i64 d2.ab,.sl false 5 (Ql d2.blocks)])]):=kn.perm (Qt λf hf h0 hc hp=>by
    have e2:∀(a b:Nat×Obj),f [a,b]=f [a]+f [b]:=λa b=>hc a [b];simp only[hf,e2];omega)
   have xI:wgt os=wgt os:=rfl;have hwb:∀x,wgt os x<=2400:=λx=>by
    rw[wgt]
    cases hx:os[x]? with
    |none=>simp
    |some o'=>
     obtain⟨d9,tU⟩:=Jay.1 hx;have qd:x<n:=ZD;obtain⟨_,_,_,_,_,a1,a2⟩:=hC.get qd;rw[tU]at a1 a2;show o'.aa.length+o'.ins.length<=2400;omega
   have mq:=Qbtr (N:=n) hwb (λ_=>True);have aR:NSt d2 os zb n R x4 cy ids H11 q.params cs (XU os zb λ_=>True) H11:=⟨YT (LGo.vec m7 bM) kn.mid,cB⟩;refine Za ?_;refine Xe hC (2 ^ 40) (Jan _) (n+1) 0 (λ_=>True) q.params cs cy H11 _ ZD ZD (λ_ _=>trivial) aR ZD (by
    have:n * 2400<=160 * 2400:=Nat.mul_le_mul_right _ ZD;omega) λnx' cs' H12 s2 bY uT=>?_
   obtain⟨t2,su⟩:=s2;have xE:=Ty.e t2 0 rfl;have ee:=t2;obtain⟨E1,g1,g2,k3⟩:=t2;have kn:=kn.comp k3 (by simp[g1]);have kn:Kn H H12 [] ([(x4,wO d2 ids zb n nx'),(x2,.st [.int .i64 0,.int .i64 0,.sl true 5 []])]++([(x3,.st [.int .i64 d2.params,.int .i64 d2.ab,.sl false 5 (Ql d2.blocks)])]++([(cy,.vec 1 (Qb cs'))]++E1))):=kn.perm (Qt λf hf h0 hc hp=>by
    have e2:∀(a b:Nat×Obj),f [a,b]=f [a]+f [b]:=λa b=>hc a [b];simp only[hf,h0,e2];omega)
   rw[wO]at xE;try simp only[go_sem]
   refine Zh xE ?_;intro H13 pX;have kn:=kn.aB 0 rfl pX;have bO:=kn.l 0 rfl;have aW:=kn.l 1 rfl;refine Zn bO aW ?_;intro H14 sU;have kn:=kn.aB 1 rfl sU;have aW:=kn.l 1 rfl;refine Zj aW ?_;have hE:∀p∈E1,H14 p.1=p.2/\un H p.1=true:=λp hp=>by
    have hm:p∈([(x4,Obj.st [.int .i64 d2.params,.int .i64 d2.ab,.sl false 5 (Ql d2.blocks),.int .i64 d2.params,.int .i64 nx',.ah zb 5 0 n,.sl false 1 (Qb ids),.int .i64 nx']),(x2,.st [.int .i64 d2.params,.int .i64 nx',.ah zb 5 0 n])]++([(x3,.st [.int .i64 d2.params,.int .i64 d2.ab,.sl false 5 (Ql d2.blocks)])]++([(cy,.vec 1 (Qb cs'))]++E1)):List (Nat×Obj)):=by
     simp[hp]
    exact⟨(kn.get p (Jd _ hm)).1,BE (kn.loc p hm)⟩
   have hty:TT d2 os zb n x4 cy ids H11 nx' cs' (XU os zb λx=>True/\¬Sub ids 0 x) H12:=ee;have hH:∀p∈LGo os zb,H14 p.1=H12 p.1:=λp hp=>by
    have h1:p.1∈E1.map Prod.fst:=(by rw[g1];exact Ax hp);obtain⟨p',bX,he⟩:=Jl.1 h1;rw[<-he,(hE p' bX).1,(k3.get p' (Ji _ (Jd _ bX))).1]
   have hS:∀p∈LGo os zb,un H p.1=true:=λp hp=>by
    have h1:p.1∈E1.map Prod.fst:=(by rw[g1];exact Ax hp);obtain⟨p',bX,he⟩:=Jl.1 h1;rw[<-he];exact (hE p' bX).2
   have uA:∀p∈LGo os zb,SimO (XU os zb (λx=>True/\¬Sub ids 0 x) p.1) p.2 (H14 p.1):=λp hp=>by
    rw[hH p hp];exact Ty.get hty hp
   obtain⟨bs,b1,b2,b3⟩:=Qbrd (S:=un H) hC uA hS;exact⟨_,FrzL.ag (.cons (Qi rfl) (.cons (Qi rfl) (.cons b1 .nil))),hK ⟨d2.params,nx',bs⟩ _ (λy hy=>by have:=b3 y hy;exact⟨ZD,ZD⟩) kn.fin⟩
end Go.AE.Y
namespace Go.AE.Y
attribute [local go_sem] cond_true cond_false Bool.not_true Bool.not_false
attribute [local instance] Classical.propDecidable
open Go.Proofs.Tryz
variable {H H0:Heap}{K:V->Heap->Prop}{E B Lg:List (Nat×Obj)}{q:CodeD}
theorem Qbrm {S:Nat->Bool}(q:CodeD):FrzV H S (.ag q.cells) (.ag q.cells):=FrzL.ag (.cons (.same _ rfl) (.cons (.same _ rfl) (.cons (.same _ rfl) .nil)))
structure CodeD.sgl (q:CodeD):Prop where
 ok:q.ok
 p0:0<=q.params
 pr:q.params<=q.ab
 h9:∀y∈q.blocks,y.ins.length<=900/\y.aa.length<=900
theorem YR {cs:List CodeD}(h:Bg cs=true){c:CodeD}(hc:c∈cs):c.sgl:=by
 obtain⟨k,hk,rfl⟩:=Jy.1 hc;have ho:=CA h hk;obtain⟨_,h2,h3⟩:=of_decide_eq_true h;obtain⟨g1,g2⟩:=h2 k hk;simp only[Bv,J3,decide_eq_true_eq]at g1;refine⟨ho,ZD,ZD,λy hy=>?_⟩;have a1:=DH (f:=cntQ) (Jc hk);have a2:=DH (f:=AH) hy;simp only[cntQ,AH]at *;omega
set_option maxHeartbeats 2000000 in
theorem Qbm3 (hq:q.sgl)(hK:∀(d:CodeD) H',d.fits->Upd H H' []->K (.ag d.cells) H') :
  Qv prog Q52 [.ag [.int .i64 q.params,.int .i64 q.ab,.sl false 5 (Ql q.blocks)],.c (.str [115,105,110,103,108,101])] H K:=by
 refine Q0 ?_;refine Qc Ab Qbnr ?_;refine Za ?_;intro x4 bO H1 h1;have kn:=(Kn.ar H).al bO h1;refine Wa ?_;refine Wm ?_;refine Qf rfl (λhc=>absurd hc ZR) (λ_=>?_);refine Za ?_;refine Qf rfl (λhc=>absurd hc ZR) (λ_=>?_);refine Za ?_;refine Qf rfl (λhc=>absurd hc ZR) (λ_=>?_);refine Za ?_;refine Qf rfl (λhc=>absurd hc ZR) (λ_=>?_);refine Za ?_;refine Qf rfl (λ_=>?_) (λhc=>absurd hc ZR);refine Za ?_;refine Qa8y hq.ok hq.p0 hq.pr hq.h9 λd H2 hd hu=>?_;have kn:=kn.aw hu;have bO:=kn.l 0 rfl;simp only[go_sem,Q9n,CodeD.cells,bO];intro H3 h3;have kn:=kn.aB 0 rfl h3;have bO:=kn.l 0 rfl;refine Zj bO ?_;exact⟨_,Qbrm d,hK d _ hd kn.fin⟩
set_option maxHeartbeats 4000000 in
theorem Qbm1 {cs:List CodeD}{fl:Bool}(aL:∀c∈cs,c.fits)(hK:∀(ds:List CodeD) (b:Bool) H',(b=true->UnitOk ds)->Upd H H' []->K (.tup [.ag [.sl false 3 (Qw ds)],.c (.bool b)]) H') :
  Qv prog Q50 [.ag [.sl fl 3 (Qw cs)],.c (.str [115,105,110,103,108,101])] H K:=by
 refine Q0 ?_;refine Qc Ab Qbno ?_;refine Za ?_;intro x4 bO H1 h1;have kn:=(Kn.ar H).al bO h1;simp only[go_sem,Q9a];refine Wa ?_;refine Hq aL λH2 hu=>?_;have kn:=kn.aw hu;simp only[go_sem,Q9b];refine Wv ?_ ?_
 ·intro _;have bO:=kn.l 0 rfl;refine Zh bO ?_;intro H3 h3;have kn:=kn.aB 0 rfl h3;have bO:=kn.l 0 rfl;simp only[go_sem,Q9c];refine Zy bO ?_;refine⟨λ_=>trivial,_,D5 (FrzL.ag (.cons (FrzR.nil.sl) .nil)) (.c _ _ (Qi rfl)),hK [] false _ (λh=>ZK) kn.fin⟩
 ·intro hc;have hG:Bg cs=true:=A8 hc;refine Ze ?_
  refine Za ?_;intro x6 ba H3 h3;have kn:=kn.al ba h3;have ba:=kn.l 1 rfl;simp only[go_sem,Q9d,ba];intro H4 h4;have kn:Kn H H4 [] [(x4,.st [.sl true 3 []]),(x6,.st [.sl true 3 []])]:=kn.aB 1 rfl h4;refine Wa ?_;have cB:=(DC aL hG).1;refine Qg (Qd (Qs (λm e1 H1=>∃(ds:List CodeD) (t:C) (Lg:List (Nat×Obj)),m=cs.length-ds.length/\ds.length<=cs.length/\(∀d∈ds,d.fits)/\Gr Lg 3 (Qw ds) t/\Kn H H1 [] ([(x4,.st [.sl true 3 []]),(x6,.st [t])]++Lg)/\
   lk 1 e1=.c (.str [115,105,110,103,108,101])/\lk 2 e1=.c (.pp [.sl fl 3 (Qw cs)])/\lk 4 e1=.c (.ptr x4 0)/\lk 6 e1=.c (.ptr x6 0)/\lk 7 e1=.c (.int .i64 ds.length)) cs.length ?_ ?_))
  ·exact⟨[],_,[],ZF,ZF,ZF,.nil 3,ZO,rfl,rfl,rfl,rfl,rfl⟩
  ·clear kn ba;rintro m e1 H5 ⟨ds,t,Lg,hm,pH,lf,aq,kn,l1,l2,l4,l6,l7⟩;have eb:=aq.ai;refine Q3 (Qa ?_);simp only[go_sem,l1,l2,l4,l6,l7,Q6];try intro _
   refine Wv ?_ ?_
   ·intro ao;have ae:ds.length<cs.length:=ZI;have ba:=kn.l 1 rfl;obtain⟨q,hq⟩:∃q,cs[ds.length]=q:=⟨_,rfl⟩;have rh:q.sgl:=YR hG (by rw[<-hq];exact Jc ae);refine Ze ?_
    refine Wu ?_;simp only[go_sem,ba,eb,ae,Q6,Bd _ _ ae,CodeD.cells,hq];refine Qbm3 rh λd H6 hd hu=>?_;have kn:=kn.aw hu;have ba:=kn.l 1 rfl;simp only[go_sem,Q9f,CodeD.cells,ba,eb];refine kn.bD (new:=Qw [d]) aq (.mk' _ _ _ _) (DV _) (by simp only[Q6,LIM,Jh,Jj];omega) λt2 Lg2 H7 cG ee kn=>?_;have ba:=kn.l 1 rfl;simp only[go_sem,Q9e,ba];intro H8 h8;have kn:=kn.aB 1 rfl h8;refine Zi ?_;refine⟨Qo,?_⟩;show ∃m,_;refine⟨cs.length-(ds.length+1),ZD,ds++[d],t2,Lg2,ZF,by simp only[Jm,Jh,Jj];omega,λw hw=>?_,?_,kn,rfl,rfl,rfl,rfl,ZE⟩
    ·rcases Jp.1 hw with hw|hw
     ·exact lf w hw
     ·simp only[Ja]at hw;rw[hw];exact hd
    ·have:Qw (ds++[d])=Qw ds++Qw [d]:=(by simp[Qw]);rw[this];exact cG
   ·intro _;refine Zb ?_;have ba:=kn.l 1 rfl;obtain⟨S,pR,qt,ir,kn⟩:=kn.ex;have kf:=qt (x6,.st [t]) ZF;have qo:FrzC H5 S t (.sl false 3 (Qw ds)):=Gr.frzM aq pR (FrzR.same (DV _));have kn:=kn.setL (o':=.st [.sl false 3 (Qw ds)]) 1 rfl ZF;refine c_gh (Gk S (FT ?_) (ir.set (o:=.st [.sl false 3 (Qw ds)]) kf.2 (by rw[kf.1];exact FrzKL.st (.cons eb qo .nil)))) (e':=[(4,.c (.ptr x4 0)),(6,.c (.ptr x6 0))]) ?_
    ·simp only[J8];exact⟨.c _ _ (.same _ rfl),.c _ _ (.same _ rfl),ZF⟩
    generalize (H5.frz S).set x6 (Obj.st [C.sl false 3 (Qw ds)])=H6 at *;have ba:=kn.l 1 rfl;have bO:=kn.l 0 rfl;clear ir kf qo pR qt;refine Q3 (Qa ?_);simp only[go_sem,ba];refine Hq lf λH7 hu=>?_;have kn:=kn.aw hu;have ba:=kn.l 1 rfl;have bO:=kn.l 0 rfl;simp only[go_sem,Q3j];refine Wv ?_ ?_
    ·intro _;refine Zh bO ?_;intro H8 h8;have kn:=kn.aB 0 rfl h8;have bO:=kn.l 0 rfl;simp only[go_sem,Q3k];refine Zy bO ?_;refine⟨λ_=>trivial,_,D5 (FrzL.ag (.cons (FrzR.nil.sl) .nil)) (.c _ _ (Qi rfl)),hK [] false _ (λh=>ZK) kn.fin⟩
    ·intro bk;have fX:Bg ds=true:=A8 bk;refine Ze ?_
     refine Zn ba bO ?_;intro H8 h8;have kn:=kn.aB 0 rfl h8;have bO:=kn.l 0 rfl;simp only[go_sem,Q3l];refine Zy bO ?_;obtain⟨u1,u2,u3⟩:=DC lf fX;refine⟨λ_=>trivial,_,D5 (OI ds) (.c _ _ (Qi rfl)),hK ds true _ (λ_=>⟨u2,u1,u3⟩) kn.fin⟩
theorem Qazg {cs:List CodeD}{fl:Bool}(aL:∀c∈cs,c.fits)(hK:∀(ds:List CodeD) (b:Bool) H',(b=true->UnitOk ds)->Upd H H' []->K (.tup [.ag [.sl false 3 (Qw ds)],.c (.bool b)]) H') :
  Qv prog Tg [.ag [.sl fl 3 (Qw cs)]] H K:=by
 refine Q0 ?_;refine Qc Ab Qagf ?_;refine Za ?_;intro x2 aW H1 h1;have kn:=(Kn.ar H).al aW h1;simp only[go_sem,Qkw];refine Za ?_;refine Qbm1 aL λds b H2 hb hu=>?_;have kn:=kn.aw hu;have aW:=kn.l 0 rfl;simp only[go_sem,Qky,Js,Jv,aW];intro H3 h3;have kn:=kn.aB 0 rfl h3;have aW:=kn.l 0 rfl;simp only[go_sem,Qkx];refine Zy aW ?_;exact⟨λ_=>trivial,_,D5 (OI ds) (.c _ _ (Qi rfl)),hK ds b _ hb kn.fin⟩
def oneU:List CodeD:=[⟨0,1,[⟨[],[⟨1,0,[],0⟩],3,0,[]⟩]⟩]
theorem Xc:UnitOk oneU:=by
 refine⟨by simp[oneU],by simp[oneU],λc hc=>?_⟩;simp only[oneU,Ja]at hc;subst hc;refine⟨ZF,ZF,λy hy=>?_,λy hy=>?_,ZF,λy hy=>?_⟩
 ·simp only[Ja]at hy;subst hy;simp
 ·simp only[Ja]at hy;subst hy;simp
 ·simp only[Ja]at hy;subst hy;exact⟨ZF,ZF,ZF,ZF,ZF⟩
theorem Qbtp {S:Nat->Bool}:FrzC H S (.sl true 3 [[.int .i64 0,.int .i64 1,.sl true 5 [[.sl true 2 [],.sl true 4 [[.int .i64 1,.int .i64 0,.sl true 1 [],.int .i64 0]],.int .i64 3,.int .i64 0,.sl true 1 []]]]]) (.sl false 3 (Qw oneU)):=
 FrzR.sl (.cons (.cons (Qi rfl) (.cons (Qi rfl) (.cons (FrzR.sl (.cons (.cons FrzR.nil.sl (.cons (FrzR.sl (.cons (.cons (Qi rfl) (.cons (Qi rfl) (.cons FrzR.nil.sl (.cons (Qi rfl) .nil)))) .nil)) (.cons (Qi rfl) (.cons (Qi rfl) (.cons FrzR.nil.sl .nil))))) .nil)) .nil))) .nil)
theorem Qbm7 {R:Rdr}{k:Nat}(hH:H R.l=R.o k)(hk:k+7100000<=2^30)
  (hK:∀(cs:List CodeD) (H':Heap) (k':Nat),k<k'->k'<=k+7050000->Upd H H' [(R.l,R.o k')]->UnitOk cs->K (.ag [.sl false 3 (Qw cs)]) H') :
  Qv prog Q56 [.c (.ptr R.l 0)] H K:=by
 refine Q0 ?_;refine Qc Ab Qbny ?_;refine Za ?_;intro x2 aW H1 h1;have kn:=(Kn.start1 hH (R.aj k)).al aW h1;refine Za ?_;refine Ko (kn.e 0 rfl) ZD λcs H3 k2 j5 iO hu ay=>?_;have kn:=kn.am 0 rfl hu (R.aj _);simp only[go_sem,NN];refine Qazg ay.fits λds b H4 hb hu=>?_;have kn:=kn.aw hu;simp only[go_sem,NO,Js,Jv];intro x3 aF H5 h5;have kn:=kn.al aF h5;have aF:=kn.l 1 rfl;simp only[go_sem,NP,aF];intro H6 h6;have kn:=kn.aB 1 rfl h6;have aW:=kn.l 0 rfl;have aF:=kn.l 1 rfl;simp only[go_sem,NQ];refine Wa ?_;refine Wv ?_ ?_
 ·intro _;refine Zh aW ?_;intro H7 h7;have kn:=kn.aB 0 rfl h7;have aW:=kn.l 0 rfl;refine Zj aW ?_;exact⟨_,FrzL.ag (.cons Qbtp .nil),hK oneU _ k2 j5 iO kn.fin Xc⟩
 ·intro hc;have ng:b=true:=A8 hc;refine Ze ?_
  refine Zn aW aF ?_;intro H7 h7;have kn:=kn.aB 0 rfl h7;have aW:=kn.l 0 rfl;refine Zj aW ?_;exact⟨_,OI ds,hK ds _ k2 j5 iO kn.fin (hb ng)⟩
theorem Qbm6 {R:Rdr}{k:Nat}(hH:H R.l=R.o k)(hk:k+7300000<=2^30)
  (hK:∀(cs:List CodeD) (H':Heap) (k':Nat),k<k'->k'<=k+7150000->Upd H H' [(R.l,R.o k')]->UnitOk cs->K (.ag [.sl false 3 (Qw cs)]) H') :
  Qv prog Q55 [.c (.ptr R.l 0)] H K:=by
 refine Q0 ?_;refine Qc Ab Qbnx ?_;refine Za ?_;intro x2 aW H1 h1;have kn:=(Kn.start1 hH (R.aj k)).al aW h1;refine Wa ?_;refine Au (kn.e 0 rfl) ZD λv H2 hv hu=>?_;have kn:=kn.am 0 rfl hu (R.aj _);simp only[go_sem,Q97];refine Wv ?_ ?_
 ·intro hc;refine Za ?_;refine Qbmz (kn.e 0 rfl) ZD λcs H3 k2 j5 iO hu ay=>?_;have kn:=kn.am 0 rfl hu (R.aj _);have aW:=kn.l 0 rfl;simp only[go_sem,Q98,aW];intro H4 h4;have kn:=kn.aB 0 rfl h4;have aW:=kn.l 0 rfl;refine Zj aW ?_;exact⟨_,OI cs,hK cs _ k2 ZD ZD kn.fin ay⟩
 ·intro hc;refine Ze ?_
  refine Za ?_;refine Qbm7 (kn.e 0 rfl) ZD λcs H3 k2 j5 iO hu ay=>?_;have kn:=kn.am 0 rfl hu (R.aj _);have aW:=kn.l 0 rfl;simp only[go_sem,Q99,aW];intro H4 h4;have kn:=kn.aB 0 rfl h4;have aW:=kn.l 0 rfl;refine Zj aW ?_;exact⟨_,OI cs,hK cs _ k2 ZD ZD kn.fin ay⟩
theorem XF {cs:List CodeD}{k:Nat}(h:Bg cs=true)(hk:k<cs.length):hasG cs (k:Int)=true:=by
 simp only[hasG,J3,decide_eq_true_eq];exact⟨h,ZD,ZD⟩
section
variable {P:Program}{e:Env}{its r:List Item}{KK:Env->Heap->Prop}{KP:Value->Heap->Prop}{d:Option Nat}{t:Nat}{w:Bool}{op:FOp}
end
def usP (y:BlkD):List Int:=y.aa.flatMap λp=>p.args
def usI (y:BlkD):List Int:=y.ins.flatMap λx=>x.args
def usO (y:BlkD):List Int:=if y.jump=1 then []else [y.on]
def usB (y:BlkD):List Int:=usP y++usI y++usO y
def usTo (q:CodeD)(n:Nat):List Int:=(List.range n).flatMap λb=>usB (Ae q b)
def A3 (R:Nat)(U:List Int):List Int:=(List.range R).map λ(r:Nat)=>((U.count (r:Int):Nat):Int)
theorem Oj (n:Nat):usTo q (n+1)=usTo q n++usB (Ae q n):=by simp[usTo,Jbj]
theorem CT {R:Nat}{U:List Int}:(A3 R U).length=R:=by simp[A3]
theorem Qbrk {R:Nat}:A3 R []=List.replicate R 0:=by
 rw[A3];simp[List.map_const']
theorem ES {R r:Nat}{U:List Int}(h:r<R):(A3 R U).getD r 0=((U.count (r:Int):Nat):Int):=by
 simp[A3,Jb,h]
theorem IK {R r:Nat}{U:List Int}(h:r<R):(A3 R U).set r (((U.count (r:Int):Nat):Int)+1)=A3 R (U++[(r:Int)]):=by
 refine Jau (by simp[A3]) λi h1 h2=>?_;simp only[A3,Jal,Jav,Jbb,List.count_append,List.count_singleton];by_cases hi:r=i
 ·subst hi;simp
 ·have:¬(r:Int)=(i:Int):=ZD
  simp[hi,this]
theorem flp {α:Type}{f:α->List Int}{l:List α}{i j:Nat}(h:i<l.length):((l.take i).flatMap f++(f l[i]).take j).length<=(l.flatMap f).length:=by
 have e:l.flatMap f=(l.take i).flatMap f++(f l[i]++(l.drop (i+1)).flatMap f):=by
  conv=>lhs;rw[<-List.take_append_drop i l,Ja9,List.drop_eq_getElem_cons h,Jai]
 rw[e,Jm,Jm,Jm,J4];omega
theorem I9 {α:Type}{f:α->List Int}{l:List α}{i:Nat}(h:i<l.length):(l.take (i+1)).flatMap f=(l.take i).flatMap f++f l[i]:=by
 rw[Jk h,Ja9];simp
theorem C5 {α:Type}{f:α->List Int}{n:Nat}:∀{l:List α},(∀x∈l,(f x).length<=n)->(l.flatMap f).length<=l.length * n
 |[],_=>ZF
 |x::l,h=>by
  have h1:=h x Jbc;have h2:=C5 (l:=l) (n:=n) (f:=f) λy hy=>h y (Ja7 _ hy);rw[Jai,Jm,Jh,Jbl];omega
theorem HM (ho:q.ok){b:Nat}(hb:b<q.blocks.length):(usB (Ae q b)).length<=200000:=by
 have hk:=ho.bs b hb;have hl:=ho.il b hb;have bf:=ho.b1;rw[AG hb];have h1:(usP q.blocks[b]).length<=q.blocks[b].aa.length * 160:=C5 λp hp=>by
  rw[hk.pal p hp];have:=Ct (gnx q) (b:Int) q.blocks.length;omega
 have h2:(usI q.blocks[b]).length<=q.blocks[b].ins.length * 3:=C5 λx hx=>hk.al x hx;have h3:(usO q.blocks[b]).length<=1:=by rw[usO];split <;> simp
 rw[usB,Jm,Jm];omega
theorem HY (ho:q.ok):∀n,n<=q.blocks.length->(usTo q n).length<=n * 200000
 |0,_=>by simp[usTo]
 |n+1,h=>by
  have h1:=HY ho n ZD;have h2:=HM ho (b:=n) ZD;rw[Oj,Jm];omega
theorem rIn.nt {v:Int}(h:rIn q v):∃r:Nat,v=(r:Int)/\r<q.ab.toNat:=⟨v.toNat,by have:=h.1;omega,by have:=h.1;have:=h.2;omega⟩
end Go.AE.Y
namespace Go.AE.Y
attribute [local instance] Classical.propDecidable
variable {q:CodeD}
def Rul (q:CodeD)(v:Int)(b:Nat)(i:Int):Prop:=v<q.params\/∃p ps,Am q v.toNat=p::ps/\(p.1=(b:Int)->p.2<i)/\(p.1≠(b:Int)->Aq (nxN (gnx q)) p.1.toNat b=true)
structure SglP (q:CodeD):Prop where
 re:∀b,b<q.blocks.length->Al (nxN (gnx q)) (-1) b=true
 one:∀r,r<q.ab.toNat->(Am q r).length<=1/\((r:Int)<q.params->Am q r=[])
 ph:∀b,b<q.blocks.length->∀p∈(Ae q b).aa,∀k (hk:k<(Qz (gnx q) (b:Int) q.blocks.length).length),Rul q (p.args.getD k 0) ((Qz (gnx q) (b:Int) q.blocks.length)[k]).toNat (Ae q ((Qz (gnx q) (b:Int) q.blocks.length)[k]).toNat).ins.length
 ins:∀b,b<q.blocks.length->∀i (hi:i<(Ae q b).ins.length),∀v∈((Ae q b).ins[i]).args,Rul q v b i
 on:∀b,b<q.blocks.length->¬(Ae q b).jump=1->Rul q (Ae q b).on b (Ae q b).ins.length
theorem DQ {r:Nat}{p:Plc}(h:p∈Am q r):∃b,b<q.blocks.length/\p.1=(b:Int)/\((p.2=-1/\∃f∈(Ae q b).aa,f.to=(r:Int))\/∃i:Nat,i<(Ae q b).ins.length/\p.2=(i:Int)/\Ea q b i=(r:Int)):=by
 rw[Am,A6,Jq]at h;obtain⟨b,hb,h⟩:=h;refine⟨b,Jw.1 hb,?_⟩;rw[blS,Jp]at h;rcases h with h|h
 ·rw[phS,Jbf,Jl]at h;obtain⟨f,hf,rfl⟩:=h;obtain⟨h1,h2⟩:=Jad.1 hf;exact⟨rfl,.inl ⟨rfl,f,h1,of_decide_eq_true h2⟩⟩
 ·rw[inS,Jl]at h;obtain⟨i,hi,rfl⟩:=h;obtain⟨h1,h2⟩:=Jad.1 hi;exact⟨rfl,.inr ⟨i,Jw.1 h1,rfl,of_decide_eq_true h2⟩⟩
theorem Qbmb {g:Nat->List Nat}{a b m:Nat}(hm:m∈g b)(yJ:a≠m)(hb:Al g (-1) b=true)(h:Aq g a m=true):Aq g a b=true:=by
 rw[Aq,J3,J3,Jaz]at h⊢;obtain⟨⟨h1,_⟩,h3⟩:=h;refine⟨⟨h1,hb⟩,?_⟩
 cases hh:Al g (a:Int) b with
 |false=>rfl
 |true=>
  have:Al g (a:Int) m=true:=decide_eq_true (.step (of_decide_eq_true hh) hm (by intro e;exact yJ (by omega)));rw[this]at h3;exact absurd h3 ZF
theorem Qbmd {g:Nat->List Nat}{a:Nat}(h:Aq g a 0=true):a=0:=by
 rw[Aq,J3,Jaz]at h;refine J7 λbe=>?_;have:Al g (a:Int) 0=true:=decide_eq_true (.refl (by intro e;exact be (by omega)));rw[this]at h;simp at h
def sglJ (q:CodeD)(b r:Nat):Prop:=(r:Int)<q.params\/∃p ps,Am q r=p::ps/\p.1≠(b:Int)/\Aq (nxN (gnx q)) p.1.toNat b=true
theorem D6 {b:Nat}(hb:b<q.blocks.length):(Ac q).ins b=(Ae q b).ins.map λx=>(AU x,toN x.args):=by
 simp only[Ac,AG hb,Je hb]
theorem VR (ho:q.ok)(h:SglP q){b r:Nat}(hb:b<q.blocks.length)(hr:(Ac q).endS ((Ac q).outT (sglJ q) b) b r):Rul q r b (Ae q b).ins.length:=by
 have aX:=ho.bs b hb;rw[<-AG hb]at aX;rcases hr with ⟨m,hm,hr⟩|hr
 ·have hm:m∈nxN (gnx q) b:=hm;obtain⟨v,hv,qN⟩:=Jl.1 hm;rw[Dm hb]at hv;have ey:=aX.nx v hv;have nu:v=(m:Int):=ZD
  subst nu;have lG:m<q.blocks.length:=ZD
  rcases hr with (hr|⟨p,ps,e,be,hd⟩)|hr
  ·exact .inl hr
  ·refine .inr ⟨p,ps,e,λmq=>?_,λmq=>?_⟩
   ·obtain⟨c,hc,h1,h2⟩:=DQ (q:=q) (r:=r) (p:=p) ZaE;have bW:c=b:=ZD;subst bW;rcases h2 with ⟨h2,_⟩|⟨i,hi,h2,_⟩
    ·rw[h2];omega
    ·rw[h2];omega
   ·obtain⟨c,hc,h1,_⟩:=DQ (q:=q) (r:=r) (p:=p) ZaE;exact Qbmb hm ZD (h.re b hb) hd
  ·have hr:r∈Df q b m:=hr;rw[Df,Jl]at hr;obtain⟨f,hf,rfl⟩:=hr;have hf:f∈(Ae q m).aa:=by
    rw[Je lG]at hf;rw[AG lG];exact hf
   have cV:(b:Int)∈Qz (gnx q) (m:Int) q.blocks.length:=by
    rw[Qz,Jl];exact⟨b,Jad.2 ⟨Jw.2 hb,J5.2 (by rw[Dm hb];exact hv)⟩,rfl⟩
   have ae:=List.idxOf_lt_length_of_mem cV;have hR:=h.ph m lG f hf _ ae;have hg:(Qz (gnx q) (m:Int) q.blocks.length)[(Qz (gnx q) (m:Int) q.blocks.length).idxOf (b:Int)]=(b:Int):=List.getElem_idxOf ae;rw[hg]at hR;have rr:=ho.bs m lG;rw[<-AG lG]at rr;have dk:=rr.pal f hf;have xX:=rr.pargs f hf (f.args.getD ((Qz (gnx q) (m:Int) q.blocks.length).idxOf (b:Int)) 0) (by
    rw[Jb,Je ZD];exact Jc _)
   have ez:=xX.1;have e:(((f.args.getD ((Qz (gnx q) (m:Int) q.blocks.length).idxOf (b:Int)) 0).toNat:Nat):Int)=f.args.getD ((Qz (gnx q) (m:Int) q.blocks.length).idxOf (b:Int)) 0:=ZD
   rw[e];exact hR
 ·have hr:r∈(Ac q).on b:=hr;simp only[Ac,Je hb]at hr;rw[<-AG hb]at hr;split at hr
  ·cases hr
  ·rename_i hj
   have hr:=Ja.1 hr;have h0:=(aX.on hj).1;have hR:=h.on b hb hj;have e:(r:Int)=(Ae q b).on:=ZD
   rw[e];exact hR
theorem HW (ho:q.ok)(h:SglP q){b r:Nat}(hb:b<q.blocks.length):∀(d k:Nat),k+d=(Ae q b).ins.length->(Ac q).beh ((Ac q).outT (sglJ q) b) b k r->Rul q r b k
 |0,k,hk,hr=>by
  rw[Flo.beh_end _ _ _ (by rw[D6 hb];simp;omega)]at hr;have:k=(Ae q b).ins.length:=ZD
  rw[this];exact VR ho h hb hr
 |d+1,k,hk,hr=>by
  have dd:k<(Ae q b).ins.length:=ZD
  rw[Flo.beh_step _ _ _ (by rw[D6 hb];simpa using dd)]at hr;have aX:=ho.bs b hb;rw[<-AG hb]at aX;have e:((Ac q).ins b)[k]'(by rw[D6 hb];simpa using dd)=(AU (Ae q b).ins[k],toN (Ae q b).ins[k].args):=by simp only[D6 hb,Jav]
  rw[e]at hr;rcases hr with hr|⟨hr,be⟩
  ·obtain⟨v,hv,xL⟩:=Jl.1 hr;have h0:=(aX.args _ (Jc dd) v hv).1;have hR:=h.ins b hb k dd v hv;have e:(r:Int)=v:=ZD
   rw[e];exact hR
  ·rcases HW ho h hb d (k+1) ZD hr with hR|⟨p,ps,e,h1,h2⟩
   ·exact .inl hR
   ·refine .inr ⟨p,ps,e,λmq=>?_,h2⟩;rw[Jr]at e;have h3:=h1 mq;refine J7 λhn=>be ?_;have uY:p.2=(k:Int):=ZD;obtain⟨c,hc,h4,h5⟩:=DQ (q:=q) (r:=r) (p:=p) ZaE;have bW:c=b:=ZD;subst bW;rcases h5 with ⟨h5,_⟩|⟨i,hi,h5,h6⟩
    ·omega
    ·have rW:i=k:=ZD;subst rW;rw[Fo hi]at h6;show AU (Ae q c).ins[i]=some r;rw[AU];rcases Rq (Ae q c).ins[i]with ⟨g1,g2⟩|⟨g1,g2⟩
     ·rw[if_pos g1];congr 1;omega
     ·rw[g2]at h6;omega
theorem VQ (ho:q.ok)(h:SglP q):(Ac q).Pre (sglJ q):=λb hb r hr=>by
 have hb:b<q.blocks.length:=hb;obtain⟨hr,dB⟩:=hr;rcases HW ho h hb _ 0 (Jn _) hr with hR|⟨p,ps,e,h1,h2⟩
 ·exact .inl hR
 ·rw[Jr]at e;refine .inr ⟨p,ps,e,λmq=>?_,?_⟩
  ·have h3:=h1 mq;obtain⟨c,hc,h4,h5⟩:=DQ (q:=q) (r:=r) (p:=p) ZaE;have bW:c=b:=ZD
   subst bW;rcases h5 with ⟨h5,f,hf,qo⟩|⟨i,hi,h5,h6⟩
   ·refine dB ?_;show r∈(Ac q).ph c;simp only[Ac,Je hb];rw[<-AG hb];exact Jl.2 ⟨f,hf,ZD⟩
   ·omega
  ·by_cases mq:p.1=(b:Int)
   ·have h3:=h1 mq;obtain⟨c,hc,h4,h5⟩:=DQ (q:=q) (r:=r) (p:=p) ZaE;have bW:c=b:=ZD;subst bW;rcases h5 with ⟨h5,f,hf,qo⟩|⟨i,hi,h5,h6⟩
    ·refine absurd ?_ dB;show r∈(Ac q).ph c;simp only[Ac,Je hb];rw[<-AG hb];exact Jl.2 ⟨f,hf,ZD⟩
    ·omega
   ·exact h2 mq
theorem Y5 (ho:q.ok)(h:SglP q){r:Nat}(hr:(Ac q).LI 0 r):(r:Int)<q.params:=by
 rcases hr _ (VQ ho h)with h1|⟨p,ps,e,be,hd⟩
 ·exact h1
 ·have:=Qbmd hd;obtain⟨c,hc,h4,_⟩:=DQ (q:=q) (r:=r) (p:=p) ZaE;exact absurd (by omega:p.1=((0:Nat):Int)) be
theorem Rul.has {v:Int}{b:Nat}{i:Int}(h:Rul q v b i):v<q.params\/Am q v.toNat≠[]:=by
 rcases h with h|⟨p,ps,e,_⟩
 ·exact .inl h
 ·exact .inr ZaE
theorem VO (ho:q.ok)(h:SglP q){b:Nat}(hb:b<q.blocks.length){v:Int}(hv:v∈usB (Ae q b)):v<q.params\/Am q v.toNat≠[]:=by
 have aX:=ho.bs b hb;rw[<-AG hb]at aX;rw[usB,Jp,Jp]at hv;rcases hv with (hv|hv)|hv
 ·obtain⟨f,hf,hv⟩:=Jq.1 hv;obtain⟨k,hk,rfl⟩:=Jy.1 hv;have hR:=h.ph b hb f hf k (by rw[<-aX.pal f hf];exact hk);have e:f.args.getD k 0=f.args[k]:=by simp[Jb,hk]
  rw[e]at hR;exact hR.has
 ·obtain⟨x,hx,hv⟩:=Jq.1 hv;obtain⟨i,hi,rfl⟩:=Jy.1 hx;exact (h.ins b hb i hi v hv).has
 ·rw[usO]at hv;split at hv
  ·cases hv
  ·rename_i hj
   have hv:=Ja.1 hv;rw[hv];exact (h.on b hb hj).has
end Go.AE.Y
namespace Go.AE.Y
attribute [local go_sem] cond_true cond_false Bool.not_true Bool.not_false
attribute [local instance] Classical.propDecidable
open Go.Proofs.Tryz
variable {H H0:Heap}{K:V->Heap->Prop}{E B Lg:List (Nat×Obj)}{q:CodeD}
set_option maxHeartbeats 4000000 in
theorem HL {y1 x3 R:Nat}{U args:List Int}{f:Bool}(be:x3≠y1)(hR:R<=1000)(hx:H x3=.st [.ah y1 1 0 R])(hy:H y1=.vec 1 (Qb (A3 R U)))
  (ha:∀v∈args,∃r:Nat,v=(r:Int)/\r<R) (hb:U.length+args.length<=40000000) (hK:∀H',Upd H H' [(y1,.vec 1 (Qb (A3 R (U++args))))]->K (.tup []) H') :
  Qv prog CH [.c (.sl f 1 (Qb args)),.c (.ptr x3 0)] H K:=by
 refine Qc Ab Qanu ?_;have kn:=Kn.start1 hy (by nofun);refine Qa ?_;simp only[go_sem,Qe];try intro _
 refine Qd (Qs (λm e1 H1=>∃(j:Nat),m=args.length-j/\j<=args.length/\Kn H H1 [(y1,.vec 1 (Qb (A3 R (U++args.take j))))] []/\H1 x3=.st [.ah y1 1 0 R]/\
  lk 1 e1=.c (.ptr x3 0)/\lk 5 e1=.c (.sl f 1 (Qb args))/\lk 6 e1=.c (.int .i64 args.length)/\lk 7 e1=.c (.int .i64 j)) args.length ?_ ?_)
 ·exact⟨0,ZD,ZD,ZO,hx,rfl,rfl,rfl,rfl⟩
 ·clear kn hy hx;rintro m e1 H2 ⟨j,hm,hj,kn,hx,l1,l5,l6,l7⟩;have hy:=kn.e 0 rfl;refine Qa ?_;simp only[go_sem,l1,l5,l6,l7];refine Wv ?_ ?_
  ·intro bk;have aV:j<args.length:=ZM
   obtain⟨r,hr,iD⟩:=ha _ (Jc aV);have bQ:args.getD j 0=(r:Int):=by simp[Jb,aV,hr]
   obtain⟨W,hW⟩:∃W,U++args.take j=W:=⟨_,rfl⟩;have e2:U++args.take (j+1)=W++[(r:Int)]:=by
    rw[Jk aV,hr,<-hW];simp
   rw[hW]at kn hy;have jW:W.count (r:Int)<=40000000:=by
    have h1:=Ja6 (a:=(r:Int)) (l:=W);rw[<-hW,Jm,J4]at h1;rw[<-hW];omega
   have iu:=IK (U:=W) iD;have sw:=ES (U:=W) iD;have b8:List.take R (Qb (A3 R W))=Qb (A3 R W):=Jg (by rw[Qe,CT];omega);have dA:r<(A3 R W).length:=by rw[CT];exact iD
   refine Ze ?_
   refine Wh ?_;simp only[go_sem,l1,l5,l6,l7,aV,bQ,Qe,Qn _ _ aV];refine Qp ?_;simp only[go_sem,hx,hy,iD,Qe,CT,Qn _ _ dA,sw,b8,C3,iu,Jn,Jo];refine⟨Qo,λH7 h7=>?_⟩;have kn:=kn.stE 0 rfl h7;have hx:H7 x3=.st [.ah y1 1 0 R]:=by rw[h7,Heap.af _ _ be];exact hx
   refine Zi ?_;refine⟨Qo,?_⟩;show ∃m,_;exact⟨args.length-(j+1),ZD,j+1,rfl,ZD,by rw[e2];exact kn,hx,rfl,rfl,rfl,rfl⟩
  ·intro bk;have lL:args.length<=j:=ZM
   rw[Jg lL]at kn;refine Qq ?_;simp only[go_sem,X.next,Q4,Aa,Ja,forall_eq,RS.op];exact hK _ kn.upd
set_option maxHeartbeats 4000000 in
theorem VA {y:BlkD}{b R x3 x6 y1 n:Nat}{U:List Int}{rows:List (List C)}{Q:X->Env->Heap->Prop}{e:Env}(hR:q.ab.toNat=R)(pS:R<=1000)(bu:y.ok q b)(ck:y.ins.length<=1200/\y.aa.length<=1200)(cP:∀p∈y.aa,p.args.length<=160)
  (hUl:U.length<=35000000) (kn:Kn H0 H [] [(y1,.vec 1 (Qb (A3 R U))),(x3,.st [.ah y1 1 0 R]),(x6,.st [.sl false 2 (Q8 y.aa),.sl false 4 (Af y.ins),.int .i64 y.jump,.int .i64 y.on,.sl false 1 (Qb y.next)])])
  (he:e=[(3,.c (.ptr x3 0)),(4,.c (.fn CH [.ptr x3 0])),(6,.c (.ptr x6 0)),(16,.c (.sl false 5 rows)),(17,.c (.int .i64 n)),(18,.c (.int .i64 b)),(23,.c (.sl false 2 (Q8 y.aa))),(24,.c (.int .i64 y.aa.length)),(25,.c (.int .i64 0))])
  (hQ:∀H',Kn H0 H' [] [(y1,.vec 1 (Qb (A3 R (U++usP y)))),(x3,.st [.ah y1 1 0 R]),(x6,.st [.sl false 2 (Q8 y.aa),.sl false 4 (Af y.ins),.int .i64 y.jump,.int .i64 y.on,.sl false 1 (Qb y.next)])]->
   ∀e',lk 3 e'=.c (.ptr x3 0)->lk 4 e'=.c (.fn CH [.ptr x3 0])->lk 6 e'=.c (.ptr x6 0)->lk 16 e'=.c (.sl false 5 rows)->lk 17 e'=.c (.int .i64 n)->lk 18 e'=.c (.int .i64 b)->Ad prog Sp Q e' H') :
  Ad prog (.seq (.block 2 (.loop Qx9)) Sp) Q e H:=by
 subst he;refine Qg (Qd (Qs (λm e1 H1=>∃(i:Nat),m=y.aa.length-i/\i<=y.aa.length/\Kn H0 H1 [] [(y1,.vec 1 (Qb (A3 R (U++(y.aa.take i).flatMap λp=>p.args)))),(x3,.st [.ah y1 1 0 R]),(x6,.st [.sl false 2 (Q8 y.aa),.sl false 4 (Af y.ins),.int .i64 y.jump,.int .i64 y.on,.sl false 1 (Qb y.next)])]/\
  lk 3 e1=.c (.ptr x3 0)/\lk 4 e1=.c (.fn CH [.ptr x3 0])/\lk 6 e1=.c (.ptr x6 0)/\lk 16 e1=.c (.sl false 5 rows)/\lk 17 e1=.c (.int .i64 n)/\lk 18 e1=.c (.int .i64 b)/\
  lk 23 e1=.c (.sl false 2 (Q8 y.aa))/\lk 24 e1=.c (.int .i64 y.aa.length)/\lk 25 e1=.c (.int .i64 i)) y.aa.length ?_ ?_))
 ·exact⟨0,ZD,ZD,ZO,rfl,rfl,rfl,rfl,rfl,rfl,rfl,rfl,rfl⟩
 ·clear kn;rintro m e1 H2 ⟨i,hm,hi,kn,l3,l4,l6,l16,l17,l18,la,ln,lc⟩;refine Qa ?_;simp only[go_sem,l3,l4,l6,l16,l17,l18,la,ln,lc];refine Wv ?_ ?_
  ·intro hc;have ae:i<y.aa.length:=ZG
   obtain⟨p,hp⟩:∃p,y.aa[i]=p:=⟨_,rfl⟩;have dI:p∈y.aa:=by rw[<-hp];exact Jc ae
   have uW:=cP p dI;have qU:=I9 (f:=λp:PhiD=>p.args) ae;rw[hp]at qU;have fz:((y.aa.take i).flatMap λp=>p.args).length<=(y.aa.take i).length * 160:=C5 λp hp=>by
    have dI:=Jaw hp;have:=cP p dI;omega
   rw[J4]at fz;refine Ze ?_
   refine Wh ?_;simp only[go_sem,l3,l4,l6,l16,l17,l18,la,ln,lc,ae,Q5,Br _ _ ae,PhiD.cells,hp];intro x8 aS H3 h3;have kn:=kn.al aS h3;have aS:H3 x8=.st [.int .i64 0,.sl true 1 []]:=kn.l 3 rfl;simp only[go_sem,Qx7,aS];intro H4 h4;have kn:Kn H0 H4 [] [(y1,.vec 1 (Qb (A3 R (U++(y.aa.take i).flatMap λp=>p.args)))),(x3,.st [.ah y1 1 0 R]),(x6,.st [.sl false 2 (Q8 y.aa),.sl false 4 (Af y.ins),.int .i64 y.jump,.int .i64 y.on,.sl false 1 (Qb y.next)]),(x8,.st [.int .i64 p.to,.sl false 1 (Qb p.args)])]:=kn.aB 3 rfl h4;have aS:=kn.l 3 rfl;refine Zv aS ?_;refine HL (U:=U++(y.aa.take i).flatMap λp=>p.args) ?_ pS (kn.l 1 rfl) (kn.l 0 rfl) (λv hv=>by have h9:=(bu.pargs p dI v hv).nt;rw[hR]at h9;exact h9) Zav λH5 hu=>?_
   ·exact λh=>(Jao.1 kn.dL).1 ZaY
   have kn:=kn.callL 0 rfl hu (by nofun);rw[Jab,<-qU]at kn;try simp only[go_sem]
   refine Zi ?_;refine⟨Qo,?_⟩;show ∃m,_;exact⟨y.aa.length-(i+1),ZD,i+1,rfl,ZD,Kn.drop (B:=[(x8,_)]) (kn.perm (Jax _)),rfl,rfl,rfl,rfl,rfl,rfl,rfl,rfl,rfl⟩
  ·intro hc;have aY:y.aa.length<=i:=ZG
   rw[Jg aY]at kn;refine Zb ?_;exact hQ _ kn _ rfl rfl rfl rfl rfl rfl
set_option maxHeartbeats 4000000 in
theorem VB {y:BlkD}{b R x3 x6 y1 n:Nat}{U:List Int}{rows:List (List C)}{Q:X->Env->Heap->Prop}{e:Env}(hR:q.ab.toNat=R)(pS:R<=1000)(bu:y.ok q b)(ck:y.ins.length<=1200/\y.aa.length<=1200)(cP:∀p∈y.aa,p.args.length<=160)
  (hUl:U.length<=35000000) (kn:Kn H0 H [] [(y1,.vec 1 (Qb (A3 R U))),(x3,.st [.ah y1 1 0 R]),(x6,.st [.sl false 2 (Q8 y.aa),.sl false 4 (Af y.ins),.int .i64 y.jump,.int .i64 y.on,.sl false 1 (Qb y.next)])])
  (he:e=[(3,.c (.ptr x3 0)),(4,.c (.fn CH [.ptr x3 0])),(6,.c (.ptr x6 0)),(16,.c (.sl false 5 rows)),(17,.c (.int .i64 n)),(18,.c (.int .i64 b)),(35,.c (.sl false 4 (Af y.ins))),(36,.c (.int .i64 y.ins.length)),(37,.c (.int .i64 0))])
  (hQ:∀H',Kn H0 H' [] [(y1,.vec 1 (Qb (A3 R (U++usI y)))),(x3,.st [.ah y1 1 0 R]),(x6,.st [.sl false 2 (Q8 y.aa),.sl false 4 (Af y.ins),.int .i64 y.jump,.int .i64 y.on,.sl false 1 (Qb y.next)])]->
   ∀e',lk 3 e'=.c (.ptr x3 0)->lk 4 e'=.c (.fn CH [.ptr x3 0])->lk 6 e'=.c (.ptr x6 0)->lk 16 e'=.c (.sl false 5 rows)->lk 17 e'=.c (.int .i64 n)->lk 18 e'=.c (.int .i64 b)->Ad prog Sq Q e' H') :
  Ad prog (.seq (.block 4 (.loop Qtr)) Sq) Q e H:=by
 subst he;refine Qg (Qd (Qs (λm e1 H1=>∃(i:Nat),m=y.ins.length-i/\i<=y.ins.length/\Kn H0 H1 [] [(y1,.vec 1 (Qb (A3 R (U++(y.ins.take i).flatMap λp=>p.args)))),(x3,.st [.ah y1 1 0 R]),(x6,.st [.sl false 2 (Q8 y.aa),.sl false 4 (Af y.ins),.int .i64 y.jump,.int .i64 y.on,.sl false 1 (Qb y.next)])]/\
  lk 3 e1=.c (.ptr x3 0)/\lk 4 e1=.c (.fn CH [.ptr x3 0])/\lk 6 e1=.c (.ptr x6 0)/\lk 16 e1=.c (.sl false 5 rows)/\lk 17 e1=.c (.int .i64 n)/\lk 18 e1=.c (.int .i64 b)/\
  lk 35 e1=.c (.sl false 4 (Af y.ins))/\lk 36 e1=.c (.int .i64 y.ins.length)/\lk 37 e1=.c (.int .i64 i)) y.ins.length ?_ ?_))
 ·exact⟨0,ZD,ZD,ZO,rfl,rfl,rfl,rfl,rfl,rfl,rfl,rfl,rfl⟩
 ·clear kn;rintro m e1 H2 ⟨i,hm,hi,kn,l3,l4,l6,l16,l17,l18,la,ln,lc⟩;refine Qa ?_;simp only[go_sem,l3,l4,l6,l16,l17,l18,la,ln,lc];refine Wv ?_ ?_
  ·intro hc;have ae:i<y.ins.length:=ZG
   obtain⟨p,hp⟩:∃p,y.ins[i]=p:=⟨_,rfl⟩;have dI:p∈y.ins:=by rw[<-hp];exact Jc ae
   have uW:=bu.al p dI;have qU:=I9 (f:=λp:InsD=>p.args) ae;rw[hp]at qU;have fz:((y.ins.take i).flatMap λp=>p.args).length<=(y.ins.take i).length * 160:=C5 λp hp=>by
    have dI:=Jaw hp;have:=bu.al p dI;omega
   rw[J4]at fz;refine Ze ?_
   refine Wh ?_;simp only[go_sem,l3,l4,l6,l16,l17,l18,la,ln,lc,ae,A0,BR _ _ ae,InsD.cells,hp];intro x8 aS H3 h3;have kn:=kn.al aS h3;have aS:H3 x8=.st [.int .i64 0,.int .i64 0,.sl true 1 [],.int .i64 0]:=kn.l 3 rfl;simp only[go_sem,Qx8,aS];intro H4 h4;have kn:Kn H0 H4 [] [(y1,.vec 1 (Qb (A3 R (U++(y.ins.take i).flatMap λp=>p.args)))),(x3,.st [.ah y1 1 0 R]),(x6,.st [.sl false 2 (Q8 y.aa),.sl false 4 (Af y.ins),.int .i64 y.jump,.int .i64 y.on,.sl false 1 (Qb y.next)]),(x8,.st [.int .i64 p.op,.int .i64 p.to,.sl false 1 (Qb p.args),.int .i64 p.n])]:=kn.aB 3 rfl h4;have aS:=kn.l 3 rfl;refine Zv aS ?_;refine HL (U:=U++(y.ins.take i).flatMap λp=>p.args) ?_ pS (kn.l 1 rfl) (kn.l 0 rfl) (λv hv=>by have h9:=(bu.args p dI v hv).nt;rw[hR]at h9;exact h9) Zav λH5 hu=>?_
   ·exact λh=>(Jao.1 kn.dL).1 ZaY
   have kn:=kn.callL 0 rfl hu (by nofun);rw[Jab,<-qU]at kn;try simp only[go_sem]
   refine Zi ?_;refine⟨Qo,?_⟩;show ∃m,_;exact⟨y.ins.length-(i+1),ZD,i+1,rfl,ZD,Kn.drop (B:=[(x8,_)]) (kn.perm (Jax _)),rfl,rfl,rfl,rfl,rfl,rfl,rfl,rfl,rfl⟩
  ·intro hc;have aY:y.ins.length<=i:=ZG
   rw[Jg aY]at kn;refine Zb ?_;exact hQ _ kn _ rfl rfl rfl rfl rfl rfl
set_option maxHeartbeats 8000000 in
theorem Qbr7 (ho:q.ok)(hK:∀H',Upd H H' []->K (.c (.sl false 1 (Qb (A3 q.ab.toNat (usTo q q.blocks.length))))) H') :
  Qv prog RE [.ag q.cells] H K:=by
 have bf:=ho.b1;have bH:=ho.r0;have dC:=ho.r1;obtain⟨R,hR⟩:∃R,q.ab.toNat=R:=⟨_,rfl⟩;have wY:q.ab=(R:Int):=ZD
 rw[hR]at hK;refine Q0 ?_;refine Qc Ab Qa9b ?_;refine Zz ?_;refine Zh wY ?_;refine⟨by simp only[LIM];omega,λy1 jZ H1 h1=>?_⟩;rw[Sh,<-Qbrk]at h1;have kn:=(Kn.ar H).al jZ h1;simp only[go_sem,Qx5];intro x3 aF H2 h2;have kn:=kn.al aF h2;have aF:H2 x3=.st [.sl true 1 []]:=kn.l 1 rfl;simp only[go_sem,Qx4,aF];intro H3 h3;have kn:Kn H H3 [] [(y1,.vec 1 (Qb (A3 R []))),(x3,.st [.ah y1 1 0 R])]:=kn.aB 1 rfl h3;refine Wg ?_;simp only[go_sem,Qj];try intro _
 refine Qg (Qd (Qs (λm e1 H1=>∃(b:Nat),m=q.blocks.length-b/\b<=q.blocks.length/\Kn H H1 [] [(y1,.vec 1 (Qb (A3 R (usTo q b)))),(x3,.st [.ah y1 1 0 R])]/\
  lk 3 e1=.c (.ptr x3 0)/\lk 4 e1=.c (.fn CH [.ptr x3 0])/\lk 16 e1=.c (.sl false 5 (Ql q.blocks))/\lk 17 e1=.c (.int .i64 q.blocks.length)/\lk 18 e1=.c (.int .i64 b)) q.blocks.length ?_ ?_))
 ·exact⟨0,ZD,ZD,kn,rfl,rfl,rfl,rfl,rfl⟩
 ·clear kn h1 h2 h3 aF;rintro m e1 H2 ⟨b,hm,hb,kn,l3,l4,l16,l17,l18⟩;refine Qa ?_;simp only[go_sem,l3,l4,l16,l17,l18,Qj];refine Wv ?_ ?_
  ·intro hc;have ae:b<q.blocks.length:=ZG
   obtain⟨y,hy⟩:∃y,q.blocks[b]=y:=⟨_,rfl⟩;have cW:Ae q b=y:=by rw[AG ae,hy]
   have bu:=ho.bs b ae;have yh:=HM ho ae;have vI:=HY ho b hb;have fg:=ho.il b ae;rw[hy]at bu fg;have cP:∀p∈y.aa,p.args.length<=160:=λp hp=>by
    rw[bu.pal p hp];have:=Ct (gnx q) (b:Int) q.blocks.length;omega
   rw[cW]at yh;simp only[usB,Jm]at yh;obtain⟨U,hU⟩:∃U,usTo q b=U:=⟨_,rfl⟩;have tD:usTo q (b+1)=U++usB y:=by rw[Oj,hU,cW]
   rw[hU]at kn vI;refine Ze ?_
   refine Az (λe2 H2=>Kn H H2 [] [(y1,.vec 1 (Qb (A3 R (usTo q (b+1))))),(x3,.st [.ah y1 1 0 R])]/\
    lk 3 e2=.c (.ptr x3 0)/\lk 4 e2=.c (.fn CH [.ptr x3 0])/\lk 16 e2=.c (.sl false 5 (Ql q.blocks))/\lk 17 e2=.c (.int .i64 q.blocks.length)/\lk 18 e2=.c (.int .i64 b)) ?_ ?_
   ·intro Q br _ _;refine Qd (Qa ?_);simp only[go_sem,l3,l4,l16,l17,l18,ae,Qj,Q9 _ _ ae,BlkD.cells,hy];intro x6 ba H3 h3;have kn:=kn.al ba h3;have ba:H3 x6=.st [.sl true 2 [],.sl true 4 [],.int .i64 0,.int .i64 0,.sl true 1 []]:=kn.l 2 rfl;simp only[go_sem,Qx6,ba];intro H4 h4;have kn:Kn H H4 [] [(y1,.vec 1 (Qb (A3 R U))),(x3,.st [.ah y1 1 0 R]),(x6,.st [.sl false 2 (Q8 y.aa),.sl false 4 (Af y.ins),.int .i64 y.jump,.int .i64 y.on,.sl false 1 (Qb y.next)])]:=kn.aB 2 rfl h4;have ba:=kn.l 2 rfl;refine Q3 (Qa ?_);simp only[go_sem,ba,Q5];try intro _
    refine VA hR ZD bu fg cP ZD kn rfl λH5 kn e5 l3 l4 l6 l16 l17 l18=>?_;clear h3 h4 ba;have ba:=kn.l 2 rfl;refine Q3 (Qa ?_);simp only[go_sem,l3,l4,l6,l16,l17,l18,ba,A0];try intro _
    refine VB hR ZD bu fg cP Zav kn rfl λH6 kn e6 l3 l4 l6 l16 l17 l18=>?_;clear ba;have ba:=kn.l 2 rfl;obtain⟨U3,wV⟩:∃U3,(U++usP y++usI y)=U3:=⟨_,rfl⟩;rw[wV]at kn;have yM:usTo q (b+1)=U3++usO y:=(by rw[tD,<-wV,usB,<-Jab,<-Jab]);have qn:U3.length<=b * 200000+400000:=by
     rw[<-wV,Jm,Jm];omega
    refine Qa ?_;simp only[go_sem,l3,l4,l6,l16,l17,l18,ba];refine FZ ?_;try simp only[go_sem]
    refine Ww ?_ ?_
    ·intro bN;have hj:¬y.jump=1:=(by simp at bN;omega);have jZ:=kn.l 0 rfl;have aF:=kn.l 1 rfl;obtain⟨r,hr,iD⟩:=(bu.on hj).nt;rw[hR]at iD;have jW:U3.count (r:Int)<=40000000:=by
      have h1:=Ja6 (a:=(r:Int)) (l:=U3);omega
     have iu:=IK (U:=U3) iD;have sw:=ES (U:=U3) iD;have b8:List.take R (Qb (A3 R U3))=Qb (A3 R U3):=Jg (by rw[Qe,CT];omega);have dA:r<(A3 R U3).length:=(by rw[CT];exact iD);refine Qp ?_;simp only[go_sem,ba,aF,jZ,hr,iD,Qe,CT,Qn _ _ dA,sw,b8,C3,iu,Jn,Jo];refine⟨Qo,λG8 g8=>?_⟩;have kn:=kn.aB 0 rfl g8;refine br _ _ ⟨?_,rfl,rfl,rfl,rfl,rfl⟩;rw[yM,usO,if_neg hj,hr];exact Kn.drop (B:=[(x6,_)]) (kn.perm (Jax _))
    ·intro bN;have hj:y.jump=1:=by
      have:=bu.jmp;simp at bN;omega
     refine Ze ?_
     refine br _ _ ⟨?_,rfl,rfl,rfl,rfl,rfl⟩;rw[yM,usO,if_pos hj,Jbi];exact Kn.drop (B:=[(x6,_)]) (kn.perm (Jax _))
   ·rintro e3 H6 ⟨kn,l3,l4,l16,l17,l18⟩;refine Qp ?_;simp only[go_sem,l3,l4,l16,l17,l18];refine⟨Qo,?_⟩;show ∃m,_;exact⟨q.blocks.length-(b+1),ZD,b+1,rfl,ZD,kn,rfl,rfl,rfl,rfl,rfl⟩
  ·intro hc;have iv:b=q.blocks.length:=by have:q.blocks.length<=b:=ZG;omega
   subst iv;have jZ:=kn.l 0 rfl;have aF:=kn.l 1 rfl;refine Zb ?_;refine Zn l3 aF ?_;refine Zc ?_;exact⟨_,.c _ _ ((FrzR.same (Qy _)).ah (kn.un 0 rfl) jZ (by rw[Qe,CT])),hK _ kn.fin⟩
noncomputable def regB (cs:List CodeD)(k r:Int):Bool:=hasG cs k&&match cs[k.toNat]? with
 |some q=>decide (0<=r)&&decide (r<=q.ab-1)
 |none=>false
noncomputable def BY (cs:List CodeD)(k r:Int):Int:=if regB cs k r=true then match cs[k.toNat]? with
 |some q=>((usTo q q.blocks.length).count r:Nat)
 |none=>-1 else -1
theorem FJ {cs:List CodeD}{m:Nat}{r:Int}(hg:hasG cs (m:Int)=true)(hm:m<cs.length):regB cs (m:Int) r=(decide (0<=r)&&decide (r<=cs[m].ab-1)):=by
 rw[regB,hg];simp[hm]
theorem YY {cs:List CodeD}{k r:Int}(h:regB cs k r=true):hasG cs k=true:=by
 rw[regB,J3]at h;exact h.1
set_option maxHeartbeats 4000000 in
theorem Ib {cs:List CodeD}{fl:Bool}{k r:Int}(aL:∀c∈cs,c.fits)(hK:∀(H':Heap),Upd H H' []->K (.c (.bool (regB cs k r))) H') :
  Qv prog Pl [.ag [.sl fl 3 (Qw cs)],.c (.int .i64 k),.c (.int .i64 r)] H K:=by
 refine Qc Ab Qbio ?_;refine Wd ?_;refine IJ aL λH1 hu=>?_;simp only[go_sem,Q2p]
 cases hg:hasG cs k with
 |false=>
  have e:regB cs k r=false:=by rw[regB,hg];rfl
  simp only[go_sem,RT];refine Zc ?_;have:=hK _ hu;rw[e]at this;exact this
 |true=>
  obtain⟨m,hm,rfl,ho⟩:=FI hg;have e:=FJ (r:=r) hg hm;obtain⟨q,hq⟩:∃q,cs[m]=q:=⟨_,rfl⟩;rw[hq]at ho e;have bH:=ho.r0;have dC:=ho.r1;simp only[go_sem,hm,Q6,Bd _ _ hm,CodeD.cells,hq];refine⟨Qo,?_⟩;refine BF ?_;simp only[go_sem,RT];refine Zc ?_;have:=hK _ hu;rw[e]at this;exact this
theorem YP {cs:List CodeD}{k r:Int}(h:regB cs k r=false):BY cs k r=-1:=by rw[BY,h];simp
theorem Is {cs:List CodeD}{m:Nat}{r:Int}(h:regB cs (m:Int) r=true)(hm:m<cs.length):BY cs (m:Int) r=((usTo cs[m] cs[m].blocks.length).count r:Nat):=by
 rw[BY,if_pos h];simp[hm]
theorem I0 {cs:List CodeD}{k r:Int}(h:regB cs k r=true):∃(m r':Nat) (hm:m<cs.length),k=(m:Int)/\r=(r':Int)/\cs[m].ok/\r'<cs[m].ab.toNat:=by
 have hg:=YY h;obtain⟨m,hm,rfl,ho⟩:=FI hg;rw[FJ hg hm,J3,decide_eq_true_eq,decide_eq_true_eq]at h;exact⟨m,r.toNat,hm,rfl,ZD,ho,ZD⟩
set_option maxHeartbeats 4000000 in
theorem Qbh7 {cs:List CodeD}{fl:Bool}{k r:Int}(aL:∀c∈cs,c.fits)(hK:∀(H':Heap),Upd H H' []->K (.c (.int .i64 (BY cs k r))) H') :
  Qv prog RO [.ag [.sl fl 3 (Qw cs)],.c (.int .i64 k),.c (.int .i64 r)] H K:=by
 refine Q0 ?_;refine Qc Ab Qa85 ?_;refine Wf ?_;refine Ib aL λH1 hu=>?_;have kn:=(Kn.ar H).aw hu;simp only[go_sem,Qxg];refine Wv ?_ ?_
 ·intro hc;have hg:regB cs k r=false:=Bf hc;refine Za ?_;refine Zm ?_;have:=hK _ kn.fin;rw[YP hg]at this;exact⟨_,.c _ _ (Qi rfl),this⟩
 ·intro hc;have hg:regB cs k r=true:=A8 hc;obtain⟨m,r',hm,rfl,rfl,ho,hr⟩:=I0 hg;have e:=Is hg hm;obtain⟨q,hq⟩:∃q,cs[m]=q:=⟨_,rfl⟩;rw[hq]at ho e hr;refine Ze ?_
  refine Qa ?_;simp only[go_sem,hm,Q6,Bd _ _ hm,CodeD.cells,hq];refine Qbr7 ho λH2 hu=>?_;have kn:=kn.aw hu;have sw:=ES (U:=usTo q q.blocks.length) hr;have dA:r'<(A3 q.ab.toNat (usTo q q.blocks.length)).length:=by rw[CT];exact hr
  simp only[go_sem,Qxh,hr,Qe,CT,Qn _ _ dA,sw];refine Zc ?_;have:=hK _ kn.fin;rw[e]at this;exact⟨_,.c _ _ (Qi rfl),this⟩
def pR2 (p:Plc):List C:=[.int .i64 p.1,.int .i64 p.2]
def prs2 (ps:List Plc):List (List C):=ps.map pR2
theorem C2 (ps:List Plc):(prs2 ps).length=ps.length:=by simp[prs2]
theorem Qbom (ps:List Plc)(i:Nat)(h:i<ps.length):(prs2 ps).getD i []=pR2 ps[i]:=by simp[prs2,Jb,h]
theorem Fl (ps:List Plc):∀r∈prs2 ps,an r=true:=by intro r hr;obtain⟨x,_,rfl⟩:=Jl.1 hr;rfl
def Bt (q:CodeD):List (List C):=(List.range q.ab.toNat).map λr=>[.sl false 2 (prs2 (Am q r))]
def SReg.ok2 (s:SReg):Prop:=Gr s.lg 2 (prs2 s.ps) s.c
structure SIn2 (R N:Nat)(F:Nat->List Plc)(ss:List SReg):Prop where
 n:ss.length=R
 f:∀r (h:r<ss.length),ss[r].ps=F r
 ok:∀s∈ss,s.ok2
 l:∀s∈ss,s.ps.length<=N
variable {R N:Nat}{F F':Nat->List Plc}{ss:List SReg}
theorem SIn2.get (h:SIn2 R N F ss){x:Nat}(hx:x<R):∃s∈ss,∃dv:x<ss.length,ss[x]=s/\s.ps=F x/\s.ok2/\s.ps.length<=N/\(ss.map SReg.row).getD x []=[s.c]:=
 have dv:x<ss.length:=by rw[h.n];exact hx
 ⟨ss[x],Jc dv,dv,rfl,h.f x dv,h.ok _ (Jc dv),h.l _ (Jc dv),by simp[Jb,dv,SReg.row]⟩
theorem SIn2.put (h:SIn2 R N F ss){x:Nat}(hx:x<R){p:Plc}{t:C}{Lg:List (Nat×Obj)}(hg:Gr Lg 2 (prs2 (F x++[p])) t)(hF:∀r,F' r=if r=x then F x++[p]else F r) :
  SIn2 R (N+1) F' (ss.set x ⟨F x++[p],t,Lg⟩):=by
 obtain⟨s,hs,dv,e1,e2,e3,e4,_⟩:=h.get hx;refine⟨by rw[Jag];exact h.n,λr hr=>?_,λw hw=>?_,λw hw=>?_⟩
 ·rw[Jal,hF];split
  ·rename_i e;rw[if_pos e.symm]
  ·rename_i e;rw[if_neg (λhh=>e hh.symm)];exact h.f r Zaj
 ·rcases Jaj hw with hw|rfl
  ·exact h.ok w hw
  ·exact hg
 ·rcases Jaj hw with hw|rfl
  ·have:=h.l w hw;omega
  ·rw[e2]at e4;simp only[Jm,Jh,Jj];omega
theorem SIn2.same (h:SIn2 R N F ss)(hF:∀r,r<R->F' r=F r):SIn2 R N F' ss:=⟨h.n,λr hr=>by rw[h.f r hr,hF r (by rw[<-h.n];exact hr)],h.ok,h.l⟩
set_option maxHeartbeats 8000000 in
theorem KB (ho:q.ok)(hK:∀H',Upd H H' []->K (.c (.sl false 1 (Bt q))) H') :
  Qv prog PJ [.ag q.cells] H K:=by
 have bH:=ho.r0;have dC:=ho.r1;have bf:=ho.b1;obtain⟨R,hR⟩:∃R:Nat,q.ab.toNat=R:=⟨_,rfl⟩;have lz:q.ab=(R:Int):=ZD
 refine Q0 ?_;refine Qc Ab Qaup ?_;refine Zz ?_;refine Zh lz ?_;refine⟨by simp only[LIM];omega,λo jN H1 h1=>?_⟩;have kn:Kn H H1 [] (ssL o (List.replicate R ⟨[],.sl true 2 [],[]⟩)):=by
  have e:(List.replicate R (SReg.mk [] (.sl true 2 []) [])).flatMap SReg.lg=[]:=List.flatMap_eq_nil_iff.2 λs hs=>by rw[Jac hs]
  have:=(Kn.ar H).al jN h1;rw[ssL,e];simpa[SReg.row]using this
 simp only[go_sem,Qpj];have nX:SIn2 R 0 (A6 q 0) (List.replicate R ⟨[],.sl true 2 [],[]⟩):=⟨ZF,λr h=>by simp[A6],λs hs=>by rw[Jac hs];exact .nil 2,λs hs=>by rw[Jac hs];simp⟩;generalize List.replicate R (SReg.mk [] (.sl true 2 []) [])=ss0 at *;refine Q3 (Qa ?_);simp only[go_sem,Qj];try intro _
 refine Qg (Qd (Qs (λm e1 H1=>∃(b N:Nat) (ss:List SReg),m=q.blocks.length-b/\b<=q.blocks.length/\N<=b * 2400/\SIn2 R N (A6 q b) ss/\Kn H H1 [] (ssL o ss)/\
  lk 3 e1=.c (.ah o 1 0 R)/\lk 15 e1=.c (.sl false 5 (Ql q.blocks))/\lk 16 e1=.c (.int .i64 q.blocks.length)/\lk 17 e1=.c (.int .i64 b)) q.blocks.length ?_ ?_))
 ·exact⟨0,0,ss0,ZD,ZD,ZD,nX,kn,rfl,rfl,rfl,rfl⟩
 ·clear kn nX h1 jN;clear ss0;rintro m e1 H1 ⟨b,N,ss,hm,hb,iV,hS,kn,l3,l15,l16,l17⟩;refine Qa ?_;simp only[go_sem,l3,l15,l16,l17];refine Wv ?_ ?_
  ·intro hc;have ae:b<q.blocks.length:=ZG
   obtain⟨y,hy⟩:∃y,q.blocks[b]=y:=⟨_,rfl⟩;have cW:Ae q b=y:=by rw[AG ae,hy]
   have bu:=ho.bs b ae;have ck:=ho.il b ae;rw[hy]at bu ck;refine Ze ?_
   refine Wh ?_;simp only[go_sem,l3,l15,l16,l17,ae,Qj,Q9 _ _ ae,BlkD.cells,hy];intro x5 bm H2 h2;have kn:=kn.al bm h2;have bm:H2 x5=.st [.sl true 2 [],.sl true 4 [],.int .i64 0,.int .i64 0,.sl true 1 []]:=(kn.get (x5,.st [.sl true 2 [],.sl true 4 [],.int .i64 0,.int .i64 0,.sl true 1 []]) ZF).1;simp only[go_sem,Qpk,bm];intro H3 h3;have kn:Kn H H2 [] ([(x5,.st [.sl true 2 [],.sl true 4 [],.int .i64 0,.int .i64 0,.sl true 1 []])]++ssL o ss):=kn.perm ZF;have kn:Kn H H3 [] ([(x5,.st [.sl false 2 (Q8 y.aa),.sl false 4 (Af y.ins),.int .i64 y.jump,.int .i64 y.on,.sl false 1 (Qb y.next)])]++ssL o ss):=kn.aB 0 rfl h3;have bm:=kn.l 0 rfl;refine Q3 (Qa ?_);simp only[go_sem,bm,Q5];try intro _
   refine Qg (Qd (Qs (λm e1 H1=>∃(k N:Nat) (ss:List SReg),m=y.aa.length-k/\k<=y.aa.length/\N<=b * 2400+k/\SIn2 R N (λr=>A6 q b r++phS q b k r) ss/\Kn H H1 [] ([(x5,.st [.sl false 2 (Q8 y.aa),.sl false 4 (Af y.ins),.int .i64 y.jump,.int .i64 y.on,.sl false 1 (Qb y.next)])]++ssL o ss)/\
    lk 3 e1=.c (.ah o 1 0 R)/\lk 4 e1=.c (.int .i64 b)/\lk 5 e1=.c (.ptr x5 0)/\lk 15 e1=.c (.sl false 5 (Ql q.blocks))/\lk 16 e1=.c (.int .i64 q.blocks.length)/\lk 17 e1=.c (.int .i64 b)/\
    lk 23 e1=.c (.sl false 2 (Q8 y.aa))/\lk 24 e1=.c (.int .i64 y.aa.length)/\lk 25 e1=.c (.int .i64 k)) y.aa.length ?_ ?_))
   ·exact⟨0,N,ss,ZD,ZD,Ja5 iV (Jbg _ _),hS.same λr _=>by simp[phS],kn,rfl,rfl,rfl,rfl,rfl,rfl,rfl,rfl,rfl⟩
   ·clear kn hS l3 l15 l16 l17 h2 h3 bm;rintro m2 e2 H2 ⟨k,N,ss,eK,hk,iV,hS,kn,l3,l4,l5,l15,l16,l17,l23,l24,l25⟩;refine Qa ?_;simp only[go_sem,l3,l4,l5,l15,l16,l17,l23,l24,l25];refine Wv ?_ ?_
    ·intro ao;have aI:k<y.aa.length:=ZI;obtain⟨p,hp⟩:∃p,y.aa[k]=p:=⟨_,rfl⟩;have dI:p∈y.aa:=ZaD;obtain⟨x,hv,b6⟩:=(bu.pto p dI).nt;have k7:∀r,phS q b (k+1) r=phS q b k r++if p.to=(r:Int)then [((b:Int),(-1:Int))]else []:=λr=>by
      have:=IW (q:=q) (b:=b) (k:=k) (r:=r) (by rw[cW];exact aI);simp only[cW,hp]at this;exact this
     refine Ze ?_
     refine Qg (Qd ?_);rw[hR]at b6;obtain⟨s,fy,d9,kz,oH,aE,eA,iB⟩:=hS.get b6;have fi:=aE.ai;refine Qa ?_;simp only[go_sem,l3,l4,l5,l15,l16,l17,l23,l24,l25,aI,Q5,Br _ _ aI,PhiD.cells,hp];intro x7 dW H3 h3;have kn:=kn.al dW h3;have dW:H3 x7=.st [.int .i64 0,.sl true 1 []]:=(kn.get (x7,.st [.int .i64 0,.sl true 1 []]) ZF).1;simp only[go_sem,Qpl,dW];intro H4 h4;have kn:Kn H H3 [] ([(x7,.st [.int .i64 0,.sl true 1 []]),(x5,.st [.sl false 2 (Q8 y.aa),.sl false 4 (Af y.ins),.int .i64 y.jump,.int .i64 y.on,.sl false 1 (Qb y.next)])]++ssL o ss):=kn.perm (Qt λf hf h0 hc hp=>by
      show f (([(x5,_)]++ssL o ss)++[(x7,_)])=f ([(x7,_)]++([(x5,_)]++ssL o ss));simp only[hf];omega)
     have kn:Kn H H4 [] ([(x7,.st [.int .i64 p.to,.sl false 1 (Qb p.args)]),(x5,.st [.sl false 2 (Q8 y.aa),.sl false 4 (Af y.ins),.int .i64 y.jump,.int .i64 y.on,.sl false 1 (Qb y.next)])]++ssL o ss):=kn.aB 0 rfl h4;have kn:=kn.perm (List.Perm.append_left [(x7,Obj.st [.int .i64 p.to,.sl false 1 (Qb p.args)]),(x5,.st [.sl false 2 (Q8 y.aa),.sl false 4 (Af y.ins),.int .i64 y.jump,.int .i64 y.on,.sl false 1 (Qb y.next)])] (GJ d9 kz));have kn:Kn H H4 [] ((([(o,.vec 1 (ss.map SReg.row))]++[(x7,.st [.int .i64 p.to,.sl false 1 (Qb p.args)]),(x5,.st [.sl false 2 (Q8 y.aa),.sl false 4 (Af y.ins),.int .i64 y.jump,.int .i64 y.on,.sl false 1 (Qb y.next)])])++(ss.eraseIdx x).flatMap SReg.lg)++s.lg):=kn.perm (Qt λf hf h0 hc hp=>by
      simp only[hf];omega)
     have aX:H4 o=.vec 1 (ss.map SReg.row):=kn.l 0 rfl;have dW:H4 x7=.st [.int .i64 p.to,.sl false 1 (Qb p.args)]:=kn.l 1 rfl;have dA:(ss.map SReg.row).length=R:=(by rw[Jf,hS.n]);have ju:(ss.map SReg.row).take R=ss.map SReg.row:=Jg ZD;refine Aw ?_;simp only[go_sem,aX,dW,dA,ju,hv,b6,iB,fi,Jn,Jo];refine kn.bD (new:=prs2 [((b:Int),(-1:Int))]) aE (.mk' _ _ _ _) (Fl _) (by simp only[C2,LIM,Jh,Jj];omega) λt2 Lg2 H5 eC ee kn=>?_;have aX:H5 o=.vec 1 (ss.map SReg.row):=kn.l 0 rfl;have dW:H5 x7=.st [.int .i64 p.to,.sl false 1 (Qb p.args)]:=kn.l 1 rfl;simp only[go_sem,Qpm,aX,dW,dA,ju,hv,b6,iB,fi,ee,Jn,Jo];intro H6 h6;obtain⟨s',eX⟩:∃s':SReg,s'=⟨(A6 q b x++phS q b k x)++[((b:Int),(-1:Int))],t2,Lg2⟩:=⟨_,rfl⟩;have bK:(ss.map SReg.row).set x [t2]=(ss.set x s').map SReg.row:=(by rw[Jbe,eX];rfl);rw[bK]at h6;have kn:Kn H H6 [] ((([(o,.vec 1 ((ss.set x s').map SReg.row))]++[(x7,.st [.int .i64 p.to,.sl false 1 (Qb p.args)]),(x5,.st [.sl false 2 (Q8 y.aa),.sl false 4 (Af y.ins),.int .i64 y.jump,.int .i64 y.on,.sl false 1 (Qb y.next)])])++(ss.eraseIdx x).flatMap SReg.lg)++s'.lg):=by
      have e:s'.lg=Lg2:=(by rw[eX]);rw[e];exact kn.aB 0 rfl h6
     have kn:Kn H H6 [] ([(x7,.st [.int .i64 p.to,.sl false 1 (Qb p.args)]),(x5,.st [.sl false 2 (Q8 y.aa),.sl false 4 (Af y.ins),.int .i64 y.jump,.int .i64 y.on,.sl false 1 (Qb y.next)])]++ssL o (ss.set x s')):=kn.perm (Qt λf hf h0 hc hp=>by
      have:=hp _ _ (DD (o:=o) (s:=s') d9);simp only[hf]at this⊢;omega)
     have kn:Kn H H6 [] ([(x5,.st [.sl false 2 (Q8 y.aa),.sl false 4 (Af y.ins),.int .i64 y.jump,.int .i64 y.on,.sl false 1 (Qb y.next)])]++ssL o (ss.set x s')):=Kn.drop (B:=[(x7,.st [.int .i64 p.to,.sl false 1 (Qb p.args)])]) (kn.perm (Qt λf hf h0 hc hp=>by
      show f ([(x7,_)]++([(x5,_)]++ssL o (ss.set x s')))=f (([(x5,_)]++ssL o (ss.set x s'))++[(x7,_)]);simp only[hf];omega))
     refine Zi ?_;refine⟨Qo,?_⟩;show ∃m,_;refine⟨y.aa.length-(k+1),ZD,k+1,N+1,ss.set x s',rfl,ZD,ZD,?_,kn,rfl,rfl,rfl,rfl,rfl,rfl,rfl,rfl,rfl⟩;rw[eX];refine (hS.put b6 (p:=((b:Int),(-1:Int))) (t:=t2) (Lg:=Lg2) ?_ λr=>?_)
     ·have:prs2 ((A6 q b x++phS q b k x)++[((b:Int),(-1:Int))])=prs2 s.ps++prs2 [((b:Int),(-1:Int))]:=(by rw[oH];simp[prs2]);rw[this];exact eC
     ·show A6 q b r++phS q b (k+1) r=_;rw[k7];by_cases eM:r=x
      ·subst eM;rw[if_pos rfl,if_pos hv];simp
      ·rw[if_neg eM,if_neg ZD];simp
    ·intro ao;have nM:k=y.aa.length:=(by have:y.aa.length<=k:=(by simpa using ao);omega);subst nM;have bm:H2 x5=.st [.sl false 2 (Q8 y.aa),.sl false 4 (Af y.ins),.int .i64 y.jump,.int .i64 y.on,.sl false 1 (Qb y.next)]:=kn.l 0 rfl;refine Zb ?_;refine Qa ?_;simp only[go_sem,l3,l4,l5,l15,l16,l17,bm,A0];try intro _
     have kn:Kn H H2 [] (ssL o ss):=Kn.drop (B:=[(x5,.st [.sl false 2 (Q8 y.aa),.sl false 4 (Af y.ins),.int .i64 y.jump,.int .i64 y.on,.sl false 1 (Qb y.next)])]) (kn.perm J1);clear bm;refine Qd (Qs (λm e1 H1=>∃(j N:Nat) (ss:List SReg),m=y.ins.length-j/\j<=y.ins.length/\N<=b * 2400+y.aa.length+j/\SIn2 R N (λr=>A6 q b r++phS q b y.aa.length r++inS q b j r) ss/\Kn H H1 [] (ssL o ss)/\
      lk 3 e1=.c (.ah o 1 0 R)/\lk 4 e1=.c (.int .i64 b)/\lk 15 e1=.c (.sl false 5 (Ql q.blocks))/\lk 16 e1=.c (.int .i64 q.blocks.length)/\lk 17 e1=.c (.int .i64 b)/\
      lk 44 e1=.c (.sl false 4 (Af y.ins))/\lk 45 e1=.c (.int .i64 y.ins.length)/\lk 46 e1=.c (.int .i64 j)) y.ins.length ?_ ?_)
     ·exact⟨0,N,ss,ZD,ZD,Ja5 iV (Jbg _ _),hS.same λr _=>by simp[inS],kn,rfl,rfl,rfl,rfl,rfl,rfl,rfl,rfl⟩
     ·clear kn hS l3 l4 l5 l15 l16 l17 l23 l24 l25;rintro m3 e3 H3 ⟨j,N,ss,nF,hj,iV,hS,kn,l3,l4,l15,l16,l17,l44,l45,l46⟩;refine Qa ?_;simp only[go_sem,l3,l4,l15,l16,l17,l44,l45,l46];refine Wv ?_ ?_
      ·intro bk;have aV:j<y.ins.length:=ZM;obtain⟨w,hw⟩:∃w,y.ins[j]=w:=⟨_,rfl⟩;have nr:w∈y.ins:=ZaZ;have rD:Ea q b j=AB w:=by
        have:=Fo (q:=q) (b:=b) (i:=j) ZaT;simp only[cW,hw]at this;exact this
       refine Ze ?_
       refine Az (λe2 H2=>∃(N:Nat) (ss:List SReg),N<=b * 2400+y.aa.length+(j+1)/\SIn2 R N (λr=>A6 q b r++phS q b y.aa.length r++inS q b (j+1) r) ss/\Kn H H2 [] (ssL o ss)/\
        lk 3 e2=.c (.ah o 1 0 R)/\lk 4 e2=.c (.int .i64 b)/\lk 15 e2=.c (.sl false 5 (Ql q.blocks))/\lk 16 e2=.c (.int .i64 q.blocks.length)/\lk 17 e2=.c (.int .i64 b)/\
        lk 44 e2=.c (.sl false 4 (Af y.ins))/\lk 45 e2=.c (.int .i64 y.ins.length)/\lk 46 e2=.c (.int .i64 j)) ?_ ?_
       ·intro Q br _ _;refine Qd (Qa ?_);simp only[go_sem,l3,l4,l15,l16,l17,l44,l45,l46,aV,A0,BR _ _ aV,InsD.cells,hw];intro x9 i6 H4 h4;have kn:=kn.al i6 h4;have i6:H4 x9=.st [.int .i64 0,.int .i64 0,.sl true 1 [],.int .i64 0]:=(kn.get (x9,.st [.int .i64 0,.int .i64 0,.sl true 1 [],.int .i64 0]) ZF).1;simp only[go_sem,Qpn,i6];intro H5 h5;have kn:Kn H H4 [] ([(x9,.st [.int .i64 0,.int .i64 0,.sl true 1 [],.int .i64 0])]++ssL o ss):=kn.perm ZF;have kn:Kn H H5 [] ([(x9,.st [.int .i64 w.op,.int .i64 w.to,.sl false 1 (Qb w.args),.int .i64 w.n])]++ssL o ss):=kn.aB 0 rfl h5;have i6:=kn.l 0 rfl;refine Zh i6 ?_;refine KL (x:=w) ?_;have kn:Kn H H5 [] (ssL o ss):=Kn.drop (B:=[(x9,_)]) (kn.perm J1);clear i6;simp only[go_sem,Qpo];refine Za ?_;refine Ww ?_ ?_
        ·intro bN;have aY:0<=AB w:=ZQ;have cF:AK w.op=true/\AB w=w.to:=by
          rcases Rq w with h|⟨_,h⟩
          ·exact h
          ·omega
         obtain⟨x,hv,b6⟩:=(bu.to w nr cF.1).nt;rw[hR]at b6;rw[<-cF.2]at hv;clear cF;obtain⟨s,fy,d9,kz,oH,aE,eA,iB⟩:=hS.get b6;have fi:=aE.ai;have kn:=kn.perm (GJ d9 kz);have aX:H5 o=.vec 1 (ss.map SReg.row):=(kn.get (o,.vec 1 (ss.map SReg.row)) ZF).1;have dA:(ss.map SReg.row).length=R:=(by rw[Jf,hS.n]);have ju:(ss.map SReg.row).take R=ss.map SReg.row:=Jg ZD;refine Qp ?_;simp only[go_sem,aX,dA,ju,hv,b6,iB,fi,Jn,Jo];refine kn.bD (new:=prs2 [((b:Int),(j:Int))]) aE (.mk' _ _ _ _) (Fl _) (by simp only[C2,LIM,Jh,Jj];omega) λt2 Lg2 H6 eC ee kn=>?_;have aX:H6 o=.vec 1 (ss.map SReg.row):=(kn.get (o,.vec 1 (ss.map SReg.row)) ZF).1;simp only[go_sem,Qm8,aX,dA,ju,hv,b6,iB,fi,ee,Jn,Jo];intro H7 h7;obtain⟨s',eX⟩:∃s':SReg,s'=⟨(A6 q b x++phS q b y.aa.length x++inS q b j x)++[((b:Int),(j:Int))],t2,Lg2⟩:=⟨_,rfl⟩;have bK:(ss.map SReg.row).set x [t2]=(ss.set x s').map SReg.row:=(by rw[Jbe,eX];rfl);rw[bK]at h7;have kn:Kn H H7 [] (([(o,.vec 1 ((ss.set x s').map SReg.row))]++(ss.eraseIdx x).flatMap SReg.lg)++s'.lg):=by
          have e:s'.lg=Lg2:=(by rw[eX]);rw[e];exact kn.aB 0 rfl h7
         have kn:=kn.perm (DD d9);refine br _ _ ⟨N+1,ss.set x s',ZD,?_,kn,rfl,rfl,rfl,rfl,rfl,rfl,rfl,rfl⟩;rw[eX];refine (hS.put b6 (p:=((b:Int),(j:Int))) (t:=t2) (Lg:=Lg2) ?_ λr=>?_)
         ·have:prs2 ((A6 q b x++phS q b y.aa.length x++inS q b j x)++[((b:Int),(j:Int))])=prs2 s.ps++prs2 [((b:Int),(j:Int))]:=(by rw[oH];simp[prs2]);rw[this];exact eC
         ·show A6 q b r++phS q b y.aa.length r++inS q b (j+1) r=_;rw[D7,rD];by_cases eM:r=x
          ·subst eM;rw[if_pos rfl,if_pos hv];simp
          ·rw[if_neg eM,if_neg ZD];simp
        ·intro bN;have oX:¬0<=AB w:=ZQ;refine Ze ?_
         refine br _ _ ⟨N,ss,ZD,hS.same λr _=>?_,kn,rfl,rfl,rfl,rfl,rfl,rfl,rfl,rfl⟩;rw[D7,rD,if_neg ZD];simp
       ·rintro e4 H4 ⟨N,ss,iV,hS,kn,l3,l4,l15,l16,l17,l44,l45,l46⟩;refine Qp ?_;simp only[go_sem,l3,l4,l15,l16,l17,l44,l45,l46];refine⟨Qo,?_⟩;show ∃m,_;exact⟨y.ins.length-(j+1),ZD,j+1,N,ss,rfl,ZD,iV,hS,kn,rfl,rfl,rfl,rfl,rfl,rfl,rfl,rfl⟩
      ·intro bk;have lL:j=y.ins.length:=(by have:y.ins.length<=j:=(by simpa using bk);omega);subst lL;refine Zb ?_;refine Qp ?_;simp only[go_sem,l3,l15,l16,l17];refine⟨Qo,?_⟩;show ∃m,_;refine⟨q.blocks.length-(b+1),ZD,b+1,N,ss,rfl,ZD,ZD,hS.same λr _=>?_,kn,rfl,rfl,rfl,rfl⟩;rw[Q07,blS,cW];simp
  ·intro hc;have iv:b=q.blocks.length:=by have:q.blocks.length<=b:=ZG;omega
   subst iv;refine Zb ?_;refine Zh l3 ?_;refine Zc ?_;have aX:=kn.l 0 rfl;have bz:∀p∈ssL o ss,H1 p.1=p.2/\un H p.1=true:=λp hp=>⟨(kn.get p (Jd _ hp)).1,BE (kn.loc p hp)⟩;have cx:FrzR H1 (un H) (ss.map SReg.row) (Bt q):=by
    have e:Bt q=ss.map λs=>[C.sl false 2 (prs2 s.ps)]:=by
     rw[Bt,hR];refine Jau (by simp[hS.n]) λi h1 h2=>?_;have h3:i<ss.length:=Zag;simp only[Jav,Jbb,hS.f i h3];rfl
    rw[e];exact DO ss λs hs=>.cons (Gr.frzM (hS.ok s hs) (λp hp=>bz p (Jd _ (Jq.2 ⟨s,hs,hp⟩))) (FrzR.same (Fl _))) .nil
   exact⟨_,.c _ _ (cx.ah (kn.un 0 rfl) aX (by rw[Jf,hS.n])),hK _ kn.fin⟩
end Go.AE.Y
namespace Go.AE.Y
attribute [local go_sem] cond_true cond_false Bool.not_true Bool.not_false
attribute [local instance] Classical.propDecidable
open Go.Proofs.Tryz
variable {H H0:Heap}{K:V->Heap->Prop}{E B Lg:List (Nat×Obj)}{q:CodeD}
noncomputable def GA (cs:List CodeD)(k r:Int):List Plc:=if regB cs k r=true then match cs[k.toNat]? with
 |some q=>Am q r.toNat
 |none=>[]else []
theorem Qbi6 {cs:List CodeD}{k r:Int}(h:regB cs k r=false):GA cs k r=[]:=by rw[GA,h];simp
theorem KC {cs:List CodeD}{m r:Nat}(h:regB cs (m:Int) (r:Int)=true)(hm:m<cs.length):GA cs (m:Int) (r:Int)=Am cs[m] r:=by
 rw[GA,if_pos h];simp[hm]
theorem Vf {p:Plc}(hK:K (.c (.sl true 1 [[.int .i64 p.1],[.int .i64 p.2]])) H):Qv prog Hy [.ag (pR2 p)] H K:=by
 refine Qc Ab Qab2 ?_;refine Qa ?_;simp only[go_sem,pR2];refine Wr ?_;exact hK
set_option maxHeartbeats 4000000 in
theorem Qbtj {ps:List Plc}{f:Bool}(hl:ps.length<=1000000)(hK:∀(H':Heap),Upd H H' []->K (.c (.sl false 1 (AA ps))) H') :
  Qv prog TI [.c (.sl f 2 (prs2 ps)),.c (.fn Hy [])] H K:=by
 refine Q0 ?_;refine Qc Ab Qqw ?_;have kn:=Kn.ar H;refine Wd ?_;refine Q3 (Qa ?_);simp only[go_sem,C2];try intro _
 refine Qg (Qd (Qs (λm e1 H1=>∃(i:Nat) (t:C) (Lg:List (Nat×Obj)),m=ps.length-i/\i<=ps.length/\Gr Lg 1 (AA (ps.take i)) t/\Kn H H1 [] ([]++Lg)/\
  lk 1 e1=.c (.fn Hy [])/\lk 5 e1=.c t/\lk 8 e1=.c (.sl f 2 (prs2 ps))/\lk 9 e1=.c (.int .i64 ps.length)/\lk 10 e1=.c (.int .i64 i)) ps.length ?_ ?_))
 ·exact⟨0,_,[],ZD,ZD,.nil 1,kn,rfl,rfl,rfl,rfl,rfl⟩
 ·clear kn;rintro m e1 H1 ⟨i,t,Lg,hm,hi,aq,kn,l1,l5,l8,l9,l10⟩;have eb:=aq.ai;refine Qa ?_;simp only[go_sem,l1,l5,l8,l9,l10,eb];refine Wv ?_ ?_
  ·intro hc;have ae:i<ps.length:=ZG
   obtain⟨p,hp⟩:∃p,ps[i]=p:=⟨_,rfl⟩;refine Ze ?_
   refine Wh ?_;simp only[go_sem,l1,l5,l8,l9,l10,eb,ae,C2,Qbom _ _ ae,hp,pR2];intro x7 dW H2 h2;have kn:=kn.al dW h2;have dW:H2 x7=.st [.int .i64 0,.int .i64 0]:=(kn.get (x7,.st [.int .i64 0,.int .i64 0]) ZF).1;simp only[go_sem,Qd4,dW,eb];intro H3 h3;have kn:Kn H H2 [] ([(x7,.st [.int .i64 0,.int .i64 0])]++Lg):=kn.perm ZF;have kn:Kn H H3 [] ([(x7,.st (pR2 p))]++Lg):=kn.aB 0 rfl h3;have dW:H3 x7=.st [.int .i64 p.1,.int .i64 p.2]:=kn.l 0 rfl;refine Qp ?_;simp only[go_sem,dW,eb];refine Vf (p:=p) ?_;simp only[go_sem,Qd6,eb];refine kn.bD (new:=AA [p]) aq (.mk' _ _ _ _) (GX _) (by simp only[BW,J4,LIM,Jh,Jj];omega) λt2 Lg2 H4 cG ee kn=>?_;have kn:Kn H H4 [] Lg2:=Kn.drop (B:=[(x7,_)]) (kn.perm J1);simp only[go_sem,Qd5,ee];refine Zv ee ?_;refine⟨Qo,?_⟩;show ∃m,_;refine⟨ps.length-(i+1),ZD,i+1,t2,Lg2,rfl,ZD,?_,kn,rfl,rfl,rfl,rfl,rfl⟩;have:AA (ps.take (i+1))=AA (ps.take i)++AA [p]:=by rw[Jk ae,hp];simp[AA]
   rw[this];exact cG
  ·intro hc;have aY:ps.length<=i:=ZG
   rw[Jg aY]at aq;refine Zb ?_;refine Zn l5 eb ?_;refine Zj eb ?_;exact⟨_,.c _ _ (aq.frz kn (GX _)),hK _ kn.fin⟩
theorem Xa {b k r:Nat}:(phS q b k r).length<=k:=by
 rw[phS,Jf];exact Ja5 (Jaf _ _) (by rw[J4];omega)
theorem XB {b j r:Nat}:(inS q b j r).length<=j:=by
 rw[inS,Jf];exact Ja5 (Jaf _ _) (by rw[Jbd];omega)
theorem Ks (ho:q.ok)(r:Nat):∀n,n<=q.blocks.length->(A6 q n r).length<=n * 2400
 |0,_=>by simp[A6]
 |n+1,h=>by
  have h1:=Ks ho r n ZD;have h2:=Xa (q:=q) (b:=n) (k:=(Ae q n).aa.length) (r:=r);have h3:=XB (q:=q) (b:=n) (j:=(Ae q n).ins.length) (r:=r);have h4:=ho.il n ZD;rw[AG ZD]at h2 h3;rw[Q07,blS,AG ZD,Jm,Jm];omega
theorem Ra (ho:q.ok)(r:Nat):(Am q r).length<=1000000:=by
 have:=Ks ho r q.blocks.length (Jo _);have:=ho.b1;rw[Am];omega
theorem DP:(Bt q).length=q.ab.toNat:=by simp[Bt]
theorem Q8j {r:Nat}(h:r<q.ab.toNat):(Bt q).getD r []=[.sl false 2 (prs2 (Am q r))]:=by simp[Bt,Jb,h]
set_option maxHeartbeats 4000000 in
theorem Qaz0 {cs:List CodeD}{fl:Bool}{k r:Int}(aL:∀c∈cs,c.fits)(hK:∀(H':Heap),Upd H H' []->K (.c (.sl false 1 (AA (GA cs k r)))) H') :
  Qv prog SB [.ag [.sl fl 3 (Qw cs)],.c (.int .i64 k),.c (.int .i64 r)] H K:=by
 refine Q0 ?_;refine Qc Ab Qaul ?_;refine Wf ?_;refine Ib aL λH1 hu=>?_;have kn:=(Kn.ar H).aw hu;simp only[go_sem,Qpd];refine Wv ?_ ?_
 ·intro hc;have hg:regB cs k r=false:=Bf hc;refine Za ?_;refine Zm ?_;have:=hK _ kn.fin;rw[Qbi6 hg]at this;exact⟨_,.c _ _ FrzR.nil.sl,this⟩
 ·intro hc;have hg:regB cs k r=true:=A8 hc;obtain⟨m,r',hm,rfl,rfl,ho,hr⟩:=I0 hg;have e:=KC hg hm;obtain⟨q,hq⟩:∃q,cs[m]=q:=⟨_,rfl⟩;rw[hq]at ho e hr;refine Ze ?_
  refine Qa ?_;simp only[go_sem,hm,Q6,Bd _ _ hm,CodeD.cells,hq];refine KB ho λH2 hu=>?_;have kn:=kn.aw hu;simp only[go_sem,Qpf,hr,DP,Q8j hr];refine Qbtj (Ra ho _) λH3 hu=>?_;have kn:=kn.aw hu;simp only[go_sem,Qpe];refine Zc ?_;have:=hK _ kn.fin;rw[e]at this;exact⟨_,.c _ _ (Qi rfl),this⟩
end Go.AE.Y
namespace Go.AE.Y
open Go.Proofs.Tryz
def Tf:List Item:=[gT 9 5 (.not (.t 8)),pF 10 5 9,mJ 2 10]
def Te:List Item:=mJ 5 4::gTf 6 5 0 1::gTl 7 5 6::.e (some 8) (some (5,true)) (.call TH [.t 7,.k (.c (.fn Tp []))])::Tf
def Qahi:SC:=sR (tJ 3 1 1::aJ 4 PL [.t 3]::Te) [2] .ret
def Qau9:SC:=sR [vJ 1 0,fB 2 false] [1] Qahi
abbrev Sd:List RS:=[.tmp 2]
theorem Qauk:mFn prog SD 1 11 Qau9 Sd=true:=ZH
def Qiq:List Item:=[oJ 5 4,mJ 2 5]
def Q17:SC:=sR (tJ 3 3 1::aJ 4 Ti [.t 3]::Qiq) [2] .ret
def Qab9:SC:=sR [vJ 1 0,fB 2 false] [1] Q17
abbrev Qo6:List RS:=[.tmp 2]
theorem Qab1:mFn prog Tp 1 6 Qab9 Qo6=true:=ZH
def Qwd:SC:=cT 13 (sR [fB 9 true] [9] .ret) .skip
def Il:List Item:=[gF 62 41 (.pick (.t 51) (.t 61) (.k (.c (.bool false)))),gT 63 20 (.pick (.t 41) (.k (.c (.bool true))) (.t 62)),pF 64 20 63,mJ 9 64]
def Qwe:SC:=.seq (.a7 52 [0,1,2,3,4,5,6,7,8,9,10,11,12,13,14,15,16,17,18,19,20,21,22,23,24,25,26,27,28,29,30,31,32,33,34,35,36,37,38,39,40,41,42,43,44,45,46,47,48,49,50,51] ( lJ 14 4::mJ 15 0::iJ 16 1 14 15::lJ 17 16::nJ 18 17::cJ 19 .gtr 18 0::mJ 20 19::gTl 21 20 4::gTm 22 20 0::gT 23 20 (.iad 1 (.t 21) (.t 22))::gTl 24 20 23::gT 25 20 (.iad 2 (.t 24) (kI 0))::gTf 26 20 0 25::gTl 27 20 26::gTm 28 20 1::gT 29 20 (.bin 0 .eql (.t 27) (.t 28))::gTm 30 20 29::gTl 31 30 4::gTm 32 30 0::gT 33 30 (.iad 1 (.t 31) (.t 32))::gTl 34 30 33::gT 35 30 (.iad 2 (.t 34) (kI 0))::gTf 36 30 1 35::gTl 37 30 36::gTm 38 30 2::gT 39 30 (.bin 0 .lss (.t 37) (.t 38))::gT 40 20 (.pick (.t 30) (.t 39) (.k (.c (.bool false))))::gTm 41 20 40::gFl 42 41 4::gFm 43 41 0::gF 44 41 (.iad 1 (.t 42) (.t 43))::gFl 45 41 44::gF 46 41 (.iad 2 (.t 45) (kI 0))::gFf 47 41 0 46::gFl 48 41 47::gFm 49 41 1::gF 50 41 (.bin 0 .neq (.t 48) (.t 49))::gFm 51 41 50::gTl 52 51 5::gTl 53 51 4::gTm 54 51 0::gT 55 51 (.iad 1 (.t 53) (.t 54))::gTl 56 51 55::gT 57 51 (.iad 2 (.t 56) (kI 0))::gTf 58 51 0 57::gTl 59 51 58::gTm 60 51 1::.e (some 61) (some (51,true)) (.call TE [.t 52,.t 59,.t 60])::Il) [9]) .ret
def Qwf:SC:=.seq (sR [mJ 10 0,fJ 11 0 3,lJ 12 11,bJ 13 .lss 10 12] [0,1,2,4,5,13] Qwd) Qwe
def Q3h:SC:=sR [fB 9 false] [0,1,2,3,4,5] Qwf
abbrev T8:List RS:=[.tmp 9]
theorem Q1m:mFn prog DZ 6 65 Q3h T8=true:=ZH
def Qgm:List Item:=[oJ 11 10,mJ 5 11]
def Qwg:SC:=sR (lJ 6 1::mJ 7 0::lJ 8 2::lJ 9 3::eI 10 (.bB (.t 6) [.t 7,.t 8,.t 9])::Qgm) [5] .ret
def Q3i:SC:=sR [fB 5 false] [0,1,2,3] Qwg
abbrev Qj9:List RS:=[.tmp 5]
theorem Q1n:mFn prog T7 4 12 Q3i Qj9=true:=ZH
def Tc:List Item:=[pF 12 9 11]
def Qqr:List Item:=[oJ 21 20]
def Qam1:SC:=cT 21 (sR [fB 2 false] [2] .ret) .skip
def Qam2:SC:=.reg [mJ 13 3,cJ 14 .add 13 1,mJ 3 14] [1,3]
def Qam3:SC:=.seq (.block 1 (sR (fJ 15 0 1::lJ 16 15::mJ 17 3::iJ 18 3 16 17::tJ 19 3 18::aJ 20 EZ [.t 19]::Qqr) [1,3,21] Qam1)) Qam2
def Qaeo:SC:=.seq (sR (mJ 4 3::fJ 5 0 1::lJ 6 5::nJ 7 6::bJ 8 .lss 4 7::mJ 9 8::gT 10 9 (.ld 1 true (.t 1))::.e (some 11) (some (9,true)) (.call DY [.t 10])::Tc) [1,3,12] (cT 12 .skip (.exit 0))) Qam3
def Qqs:List Item:=[mJ 2 23]
def Qvi:SC:=sR (tJ 22 1 1::aJ 23 DY [.t 22]::Qqs) [2] .ret
def Qam4:SC:=.seq (sR [zJ 3 0] [1,3] (bL 0 Qaeo)) Qvi
def Qayz:SC:=sR [vJ 1 0,fB 2 false] [1] Qam4
abbrev P9:List RS:=[.tmp 2]
theorem Qauz:mFn prog PH 1 24 Qayz P9=true:=ZH
def KY:List Item:=[hJ 11 10,.chk 12 none (.len (.t 11)),nJ 9 8,bJ 13 .neq 9 12]
def Qbpg:SC:=cT 13 (sR [fB 2 false] [2] .ret) .skip
def KX:List Item:=[mJ 3 15]
def Qbph:SC:=cT 41 (sR [fB 2 false] [2] .ret) .skip
def Qbpi:SC:=.reg [mJ 20 4,cJ 21 .add 20 1,mJ 4 21] [1,3,4]
def Qbpj:SC:=.seq (.block 1 (sR [mJ 22 3,mJ 23 4,iJ 24 1 22 23,lJ 25 24,nJ 26 25,cJ 27 .gtr 26 1,mJ 28 27,gFm 29 28 4,gFf 30 28 0 1,gFl 31 28 30,gF 32 28 (.bin 0 .lss (.t 29) (.t 31)),gFm 33 28 32,gTm 34 33 3,gTm 35 33 4,gT 36 33 (.iad 1 (.t 34) (.t 35)),gTl 37 33 36,gT 38 33 (.len (.t 37)),gT 39 33 (.bin 0 .gtr (.t 38) (kI 0)),gF 40 28 (.pick (.t 33) (.t 39) (.k (.c (.bool false)))),pT 41 28 40] [1,3,4,41] Qbph)) Qbpi
def Qbjy:SC:=.seq (sR [mJ 16 4,fJ 17 1 1,lJ 18 17,bJ 19 .lss 16 18] [1,3,4,19] (cT 19 .skip (.exit 0))) Qbpj
def K8:List Item:=[mJ 5 43]
def K7:List Item:=[oJ 56 55]
def Qbpk:SC:=cT 56 (sR [fB 2 false] [2] .ret) .skip
def Qbjq:SC:=.reg [mJ 49 6,cJ 50 .add 49 1,mJ 6 50] [1,3,5,6]
def Qbjr:SC:=.seq (.block 3 (sR (tJ 51 3 1::mJ 52 3::mJ 53 5::mJ 54 6::aJ 55 Rs [.t 51,.t 52,.t 53,.t 54]::K7) [1,3,5,6,56] Qbpk)) Qbjq
def Qbbu:SC:=.seq (sR [mJ 44 6,fJ 45 2 1,lJ 46 45,nJ 47 46,bJ 48 .lss 44 47] [1,3,5,6,48] (cT 48 .skip (.exit 2))) Qbjr
def Qbjs:SC:=sR [fB 2 true] [2] .ret
def Qbjt:SC:=.seq (sR [zJ 6 0] [1,3,5,6] (bL 2 Qbbu)) Qbjs
def Qbju:SC:=sR (tJ 42 3 1::aJ 43 Hf [.t 42]::K8) [1,3,5] Qbjt
def Qbjv:SC:=.seq (sR [zJ 4 0] [1,3,4] (bL 0 Qbjy)) Qbju
def Qbjw:SC:=sR (tJ 14 3 1::aJ 15 OU [.t 14]::KX) [1,3] Qbjv
def Qbjx:SC:=.seq (.seq (.a7 7 [0,3,4,5,1,4,5,2,6] ( tJ 7 3 1::fJ 10 2 1::lJ 11 10::nJ 12 11::aJ 8 El [.t 7]::KY) [1,13]) Qbpg) Qbjw
def VW:SC:=sR [vJ 1 0,fB 2 false] [1] Qbjx
abbrev FM:List RS:=[.tmp 2]
theorem XR:mFn prog EZ 1 57 VW FM=true:=ZH
def Q35:List Item:=[sJ 5 9 19]
def Q36:List Item:=[mJ 10 22]
def Q37:List Item:=[oJ 63 62]
def Qa4r:SC:=cT 63 (sR [fB 8 false] [8] .ret) .skip
def Qa4s:SC:=.reg [mJ 34 12,cJ 35 .add 34 1,mJ 12 35] [1,2,3,4,9,10,11,12]
def Qa4t:SC:=.seq (.block 3 (.seq (.a7 28 [0,1,2,3,4,5,6,7,8,9,10,11,12,13,14,15,16,17,18,19,20,21,22,23,24,25,26,27] ( tJ 36 3 4::mJ 37 1::mJ 38 2::fJ 39 0 9::lJ 40 39::mJ 41 11::iJ 42 2 40 41::fJ 43 1 42::lJ 44 43::mJ 45 12::iJ 46 1 44 45::lJ 47 46::mJ 48 10::mJ 49 12::iJ 50 1 48 49::lJ 51 50::fJ 52 2 4::lJ 53 52::mJ 54 10::mJ 55 12::iJ 56 1 54 55::lJ 57 56::iJ 58 5 53 57::fJ 59 1 58::lJ 60 59::nJ 61 60::aJ 62 Hn [.t 36,.t 37,.t 38,.t 47,.t 51,.t 61]::Q37) [1,2,3,4,9,10,11,12,63]) Qa4r)) Qa4s
def Qaxt:SC:=.seq (sR [mJ 30 12,mJ 31 10,nJ 32 31,bJ 33 .lss 30 32] [1,2,3,4,9,10,11,12,33] (cT 33 .skip (.exit 2))) Qa4t
def Qa4u:SC:=.reg [mJ 28 11,cJ 29 .add 28 1,mJ 11 29] [1,2,3,4,9,10,11]
def Qa4v:SC:=.seq (.block 1 (sR [zJ 12 0] [1,2,3,4,9,10,11,12] (bL 2 Qaxt))) Qa4u
def Qaxu:SC:=.seq (sR [mJ 23 11,fJ 24 0 9,lJ 25 24,nJ 26 25,bJ 27 .lss 23 26] [1,2,3,4,9,10,11,27] (cT 27 .skip (.exit 0))) Qa4v
def Qyg:List Item:=[oJ 97 96]
def Qaxj:SC:=cT 97 (sR [fB 8 false] [8] .ret) .skip
def Qaxk:SC:=.reg [mJ 80 14,cJ 81 .add 80 1,mJ 14 81] [1,2,3,4,9,13,14]
def Qaxl:SC:=.seq (.block 7 (.seq (.a7 16 [0,1,2,3,4,5,6,7,8,9,10,11,12,13,14,15] ( tJ 82 3 4::mJ 83 1::mJ 84 2::fJ 85 1 9::lJ 86 85::mJ 87 13::iJ 88 4 86 87::fJ 89 2 88::lJ 90 89::mJ 91 14::iJ 92 1 90 91::lJ 93 92::mJ 94 3::mJ 95 13::aJ 96 Hn [.t 82,.t 83,.t 84,.t 93,.t 94,.t 95]::Qyg) [1,2,3,4,9,13,14,97]) Qaxj)) Qaxk
def Qaqd:SC:=.seq (sR [mJ 71 14,fJ 72 1 9,lJ 73 72,mJ 74 13,iJ 75 4 73 74,fJ 76 2 75,lJ 77 76,nJ 78 77,bJ 79 .lss 71 78] [1,2,3,4,9,13,14,79] (cT 79 .skip (.exit 6))) Qaxl
def Qaxm:SC:=.reg [mJ 69 13,cJ 70 .add 69 1,mJ 13 70] [1,2,3,4,9,13]
def Qaxn:SC:=.seq (.block 5 (sR [zJ 14 0] [1,2,3,4,9,13,14] (bL 6 Qaqd))) Qaxm
def Qaqe:SC:=.seq (sR [mJ 64 13,fJ 65 1 9,lJ 66 65,nJ 67 66,bJ 68 .lss 64 67] [1,2,3,4,9,13,68] (cT 68 .skip (.exit 4))) Qaxn
def So:List Item:=[pT 112 101 111,mJ 8 112]
def Qaxo:SC:=sR (fJ 98 2 9::lJ 99 98::cJ 100 .eql 99 1::mJ 101 100::gF 102 101 (.ld 3 true (.t 4))::gFm 103 101 1::gFm 104 101 2::gFf 105 101 3 9::gFl 106 101 105::gFm 107 101 3::gFf 108 101 1 9::gFl 109 101 108::gF 110 101 (.len (.t 109))::.e (some 111) (some (101,false)) (.call Hn [.t 102,.t 103,.t 104,.t 106,.t 107,.t 110])::So) [8] .ret
def Qaxp:SC:=.seq (sR [zJ 13 0] [1,2,3,4,9,13] (bL 4 Qaqe)) Qaxo
def Qaxq:SC:=.seq (sR [zJ 11 0] [1,2,3,4,9,10,11] (bL 0 Qaxu)) Qaxp
def Qaxr:SC:=sR (tJ 20 3 4::mJ 21 3::aJ 22 Cv [.t 20,.t 21]::Q36) [1,2,3,4,9,10] Qaxq
def Qaxs:SC:=sR (fJ 15 2 4::lJ 16 15::mJ 17 3::iJ 18 5 16 17::tJ 19 5 18::eI 9 (.alloc [.sl true 2 [],.sl true 4 [],.int .i64 0,.int .i64 0,.sl true 1 []])::Q35) [1,2,3,4,9] Qaxr
def Qbjp:SC:=sR [vJ 4 0,fB 8 false] [1,2,3,4] Qaxs
abbrev Q6s:List RS:=[.tmp 8]
theorem Qbiu:mFn prog Rs 4 113 Qbjp Q6s=true:=ZH
def Qa5f:SC:=cT 17 (sR [fB 12 true] [12] .ret) .skip
def Qa5g:SC:=cT 23 (sR [fB 12 false] [12] .ret) .skip
def Qa5h:SC:=cT 34 (sR [mJ 35 13,fI 36 (.iad 1 (.t 35) (kI 1)),lJ 37 36,mJ 38 5,bJ 39 .lss 37 38,mJ 12 39] [12] .ret) .skip
def Qa5i:SC:=sR [mJ 40 2,mJ 41 13,fI 42 (.iad 1 (.t 41) (kI 0)),lJ 43 42,iJ 44 1 40 43,lJ 45 44,mJ 46 4,iJ 47 1 45 46,lJ 48 47,mJ 12 48] [12] .ret
def Qa5j:SC:=.seq (sR [mJ 30 13,fI 31 (.iad 1 (.t 30) (kI 0)),lJ 32 31,mJ 33 4,bJ 34 .eql 32 33] [2,4,5,13,34] Qa5h) Qa5i
def Qa5k:SC:=sR [mJ 24 1,mJ 25 3,iJ 26 1 24 25,lJ 27 26,fI 28 (.iad 1 (.t 27) (kI 0)),lJ 29 28,mJ 13 29] [2,4,5,13] Qa5j
def Qa5l:SC:=.seq (sR [mJ 18 1,mJ 19 3,iJ 20 1 18 19,lJ 21 20,nJ 22 21,cJ 23 .eql 22 0] [1,2,3,4,5,23] Qa5g) Qa5k
def Qa5m:SC:=.seq (sR [mJ 14 3,fJ 15 0 6,lJ 16 15,bJ 17 .lss 14 16] [1,2,3,4,5,17] Qa5f) Qa5l
def Qbjz:SC:=sR [vJ 6 0,fB 12 false] [1,2,3,4,5,6] Qa5m
abbrev Q6t:List RS:=[.tmp 12]
theorem Qbiv:mFn prog Hn 6 49 Qbjz Q6t=true:=ZH
end Go.AE.Y
namespace Go.AE.Y
attribute [local go_sem] cond_true cond_false Bool.not_true Bool.not_false
attribute [local instance] Classical.propDecidable
open Go.Proofs.Tryz
variable {H H0:Heap}{K:V->Heap->Prop}{E B Lg:List (Nat×Obj)}{q:CodeD}
set_option maxHeartbeats 4000000 in
theorem Q6i {fl f1 f2:Bool}(ho:q.ok){v i:Int}{b:Nat}(ez:0<=v)(ey:v<q.ab)(hb:b<q.blocks.length)(hK:K (.c (.bool (decide (Rul q v b i)))) H) :
  Qv prog Hn [.ag [.int .i64 q.params,.int .i64 q.ab,.sl fl 5 (Ql q.blocks)],.c (.sl f1 1 (AR q)),.c (.sl f2 1 (A7 q.blocks.length (nxN (gnx q)) q.blocks.length)),.c (.int .i64 v),.c (.int .i64 b),.c (.int .i64 i)] H K:=by
 have bH:=ho.r0;have dC:=ho.r1;have bf:=ho.b1;obtain⟨r,rfl⟩:∃r:Nat,v=(r:Int):=⟨v.toNat,ZD⟩;have hr:r<q.ab.toNat:=ZD
 have jr:=Hk (q:=q) hr;have eA:=Ra ho r;have retf:∀(x:Bool) (e:Env),(x=true↔Rul q r b i)->lk 12 e=.c (.bool x)->Q4 Q6t K .ret e H:=by
  intro x e hx h3;simp only[go_sem,Q4,Aa,Ja,forall_eq,RS.op,h3];rw[show x=decide (Rul q r b i)by rw[Jaa,hx];simp];exact hK
 refine Qc Ab Qbiv ?_;refine Wf ?_;refine Wv ?_ ?_
 ·intro hc;have hp:(r:Int)<q.params:=ZG
  refine Wi ?_;exact retf true _ ⟨λ_=>.inl hp,λ_=>rfl⟩ ZE
 ·intro hc;have hp:¬(r:Int)<q.params:=ZG
  refine Zr ?_;refine Q3 (Qa ?_);simp only[go_sem,Ek,hr,jr,BW];intro _;refine Wv ?_ ?_
  ·intro hc;have h0:(Am q r).length=0:=ZG
   have h0:=Ja0.1 h0;refine Wi ?_;refine retf false _ ⟨nofun,λh=>?_⟩ ZE;rcases h with h|⟨p,ps,e,_⟩
   ·exact absurd h hp
   ·rw[Jr,h0]at e;cases e
  ·intro hc;refine Zr ?_
   cases hs:Am q r with
   |nil=>rw[hs]at hc;simp at hc
   |cons p ps=>
    obtain⟨c,bW,h1,h2⟩:=DQ (q:=q) (r:=r) (p:=p) (by rw[hs];simp);have tL:(0:Int)<=1:=ZR;have l01:(0:Int)<2:=ZR;have l11:(1:Int)<2:=ZR;have gm:(AA (p::ps)).getD 0 []=pRow p:=rfl;rw[hs]at jr eA;refine Qa ?_;simp only[go_sem,Ek,hr,jr,BW,Jh,Jat,gm,pRow];refine⟨ZR,?_⟩;refine Q3 (Qa ?_);simp only[go_sem,pRow,h1,Jan,tL,l01,l11,Jh,Jj,Js,Jv];refine Wv ?_ ?_
    ·intro hc;have fb:(c:Int)=(b:Int):=ZG;have fb:c=b:=ZD;subst fb;refine Qa ?_;simp only[go_sem,tL,l01,l11,Jh,Jj,Js,Jv];refine Zl ?_;refine retf (decide (p.2<i)) _ ?_ ZE;rw[decide_eq_true_eq];constructor
     ·intro h;exact .inr ⟨p,ps,hs,λ_=>h,λe=>absurd h1 e⟩
     ·rintro (h|⟨p',ps',e,h3,_⟩)
      ·exact absurd h hp
      ·rw[Jr,hs]at e;cases e;exact h3 h1
    ·intro hc;have fb:¬(c:Int)=(b:Int):=ZG;refine Zr ?_;refine Qa ?_;simp only[go_sem,Jan,tL,l01,l11,Jh,Jj,Js,Jv,Jae,Jr,CS,bW,Gg bW,Qu,Cw,hb,Qx _ _ (show b<(AS q.blocks.length (nxN (gnx q)) c).length by rw[Cw];exact hb)];refine Qk ?_;refine retf _ _ ?_ rfl;rw[Ho hb];constructor
     ·intro h;exact .inr ⟨p,ps,hs,λe=>absurd (h1▸e) fb,λ_=>by rw[h1];exact h⟩
     ·rintro (h|⟨p',ps',e,_,h3⟩)
      ·exact absurd h hp
      ·rw[Jr,hs]at e;cases e;have:=h3 (by rw[h1];exact fb);rw[h1]at this;exact this
structure BSgl (q:CodeD)(b:Nat):Prop where
 ph:∀p∈(Ae q b).aa,∀k (hk:k<(Qz (gnx q) (b:Int) q.blocks.length).length),Rul q (p.args.getD k 0) ((Qz (gnx q) (b:Int) q.blocks.length)[k]).toNat (Ae q ((Qz (gnx q) (b:Int) q.blocks.length)[k]).toNat).ins.length
 ins:∀i (hi:i<(Ae q b).ins.length),∀v∈((Ae q b).ins[i]).args,Rul q v b i
 on:¬(Ae q b).jump=1->Rul q (Ae q b).on b (Ae q b).ins.length
set_option maxHeartbeats 4000000 in
theorem Qbij {fl f1 f2:Bool}(ho:q.ok){b:Nat}(hb:b<q.blocks.length)(hK:∀H',Upd H H' []->K (.c (.bool (decide (BSgl q b)))) H') :
  Qv prog Rs [.ag [.int .i64 q.params,.int .i64 q.ab,.sl fl 5 (Ql q.blocks)],.c (.sl f1 1 (AR q)),.c (.sl f2 1 (A7 q.blocks.length (nxN (gnx q)) q.blocks.length)),.c (.int .i64 b)] H K:=by
 have bH:=ho.r0;have dC:=ho.r1;have bf:=ho.b1;obtain⟨y,hy⟩:∃y,q.blocks[b]=y:=⟨_,rfl⟩;have cW:Ae q b=y:=by rw[AG hb,hy]
 have bu:=ho.bs b hb;have fg:=ho.il b hb;rw[hy]at bu fg;have kn:=Kn.ar H;refine Q0 ?_;have retf:∀(v:Bool) (e:Env) (H':Heap) (L:List (Nat×Obj)),(v=true↔BSgl q b)->Kn H H' [] L->lk 8 e=.c (.bool v)->Q4 Q6s (unK H K) .ret e H':=by
  intro v e H' L hv kn h3;simp only[go_sem,Q4,Aa,Ja,forall_eq,RS.op,h3];rw[show v=decide (BSgl q b)by rw[Jaa,hv];simp];exact⟨_,.c _ _ (Qi rfl),hK _ kn.fin⟩
 refine Qc Ab Qbiu ?_;refine Wj ?_;simp only[go_sem,hb,Qj,Q9 _ _ hb,BlkD.cells,hy];intro x5 bm H3 h3;have kn:=kn.al bm h3;have bm:H3 x5=.st [.sl true 2 [],.sl true 4 [],.int .i64 0,.int .i64 0,.sl true 1 []]:=kn.l 0 rfl;simp only[go_sem,Q35,bm];intro H4 h4;have kn:Kn H H4 [] [(x5,.st [.sl false 2 (Q8 y.aa),.sl false 4 (Af y.ins),.int .i64 y.jump,.int .i64 y.on,.sl false 1 (Qb y.next)])]:=kn.aB 0 rfl h4;clear h3 h4 bm;refine Za ?_;refine CY (nx:=gnx q) (.mk' _ _ _ _) rfl (Cs H4 q fl).x λH5 hu=>?_;have kn:=kn.aw hu;clear hu;obtain⟨P,hP⟩:∃P,Qz (gnx q) (b:Int) q.blocks.length=P:=⟨_,rfl⟩;have pU:P.length<=q.blocks.length:=by rw[<-hP];exact Ct _ _ _
 simp only[go_sem,Q36,Qj,hP];refine Wa ?_;refine Qg (Qd (Qs (λm e1 H1=>∃(i:Nat),m=y.aa.length-i/\i<=y.aa.length/\Kn H H1 [] [(x5,.st [.sl false 2 (Q8 y.aa),.sl false 4 (Af y.ins),.int .i64 y.jump,.int .i64 y.on,.sl false 1 (Qb y.next)])]/\
  (∀p∈y.aa.take i,∀k (hk:k<P.length),Rul q (p.args.getD k 0) (P[k]).toNat (Ae q (P[k]).toNat).ins.length)/\
  lk 1 e1=.c (.sl f1 1 (AR q))/\lk 2 e1=.c (.sl f2 1 (A7 q.blocks.length (nxN (gnx q)) q.blocks.length))/\lk 3 e1=.c (.int .i64 b)/\lk 4 e1=.c (.pp [.int .i64 q.params,.int .i64 q.ab,.sl fl 5 (Ql q.blocks)])/\lk 9 e1=.c (.ptr x5 0)/\lk 10 e1=.c (.sl false 1 (Qb P))/\lk 11 e1=.c (.int .i64 i)) y.aa.length ?_ ?_))
 ·exact⟨0,ZD,ZD,kn,ZF,rfl,rfl,rfl,rfl,rfl,rfl,rfl⟩
 ·clear kn;rintro m e1 H6 ⟨i,hm,hi,kn,bg,l1,l2,l3,l4,l9,l10,l11⟩;have bm:=kn.l 0 rfl;refine Q3 (Qa ?_);simp only[go_sem,l1,l2,l3,l4,l9,l10,l11,bm,Q5];try intro _
  refine Wv ?_ ?_
  ·intro ao;have aI:i<y.aa.length:=ZI
   obtain⟨p,hp⟩:∃p,y.aa[i]=p:=⟨_,rfl⟩;have dI:p∈y.aa:=ZaD
   have jx:p.args.length=P.length:=by rw[<-hP];exact bu.pal p dI
   refine Ze ?_
   refine Wm ?_;refine Qd (Qs (λm e1 H1=>∃(k:Nat),m=P.length-k/\k<=P.length/\Kn H H1 [] [(x5,.st [.sl false 2 (Q8 y.aa),.sl false 4 (Af y.ins),.int .i64 y.jump,.int .i64 y.on,.sl false 1 (Qb y.next)])]/\
    (∀k' (hk:k'<P.length),k'<k->Rul q (p.args.getD k' 0) (P[k']).toNat (Ae q (P[k']).toNat).ins.length)/\
    lk 1 e1=.c (.sl f1 1 (AR q))/\lk 2 e1=.c (.sl f2 1 (A7 q.blocks.length (nxN (gnx q)) q.blocks.length))/\lk 3 e1=.c (.int .i64 b)/\lk 4 e1=.c (.pp [.int .i64 q.params,.int .i64 q.ab,.sl fl 5 (Ql q.blocks)])/\lk 9 e1=.c (.ptr x5 0)/\lk 10 e1=.c (.sl false 1 (Qb P))/\lk 11 e1=.c (.int .i64 i)/\lk 12 e1=.c (.int .i64 k)) P.length ?_ ?_)
   ·exact⟨0,ZD,ZD,kn,λ_ _ h=>absurd h ZD,rfl,rfl,rfl,rfl,rfl,rfl,rfl,rfl⟩
   ·clear kn l1 l2 l3 l4 l9 l10 l11 bm;rintro m3 e3 H7 ⟨k,nF,hk,kn,dc,l1,l2,l3,l4,l9,l10,l11,l12⟩;have bm:=kn.l 0 rfl;refine Q3 (Qa ?_);simp only[go_sem,l1,l2,l3,l4,l9,l10,l11,l12,Qe];try intro _
    refine Wv ?_ ?_
    ·intro bk;have aV:k<P.length:=ZM;have dK:k<p.args.length:=ZD;obtain⟨c,sN,bW⟩:∃c:Nat,P[k]=(c:Int)/\c<q.blocks.length:=by
      have:P[k]∈Qz (gnx q) (b:Int) q.blocks.length:=(by rw[hP];exact Jc aV);simp only[Qz,Jl,Jad,Jw]at this;obtain⟨c,⟨hc,_⟩,e⟩:=this;exact⟨c,e.symm,hc⟩
     have wZ:P.getD k 0=(c:Int):=(by simp[Jb,aV,sN]);obtain⟨z,hz⟩:∃z,q.blocks[c]=z:=⟨_,rfl⟩;have tN:Ae q c=z:=(by rw[AG bW,hz]);obtain⟨v,hv⟩:∃v,p.args[k]=v:=⟨_,rfl⟩;obtain⟨ez,ey⟩:=bu.pargs p dI _ (Jc dK);rw[hv]at ez ey;have iZ:p.args.getD k 0=v:=(by simp[Jb,dK,hv]);refine Ze ?_
     refine Qg (Qd ?_);refine Aj ?_;simp only[go_sem,l1,l2,l3,l4,l9,l10,l11,l12,bm,aI,Q5,Br _ _ aI,PhiD.cells,hp,Qe,Qn _ _ dK,dK,iZ,aV,Qn _ _ aV,wZ,bW,Qj,Q9 _ _ bW,BlkD.cells,hz,A0,Jae,Jr];refine Q6i ho ez ey bW ?_;simp only[go_sem,Q37];have sL:Rul q (p.args.getD k 0) (P[k]).toNat (Ae q (P[k]).toNat).ins.length↔Rul q v c z.ins.length:=(by rw[iZ,sN,Jr,tN]);refine Ww ?_ ?_
     ·intro bN;have hn:¬Rul q v c z.ins.length:=ZQ;refine Wi ?_;refine retf false _ _ _ ⟨nofun,λh=>absurd (sL.1 ?_) hn⟩ kn ZE;have:=h.ph p (by rw[cW];exact dI) k (by rw[hP];exact aV);simp only[hP]at this;exact this
     ·intro bN;have hn:Rul q v c z.ins.length:=ZQ;refine Ze ?_
      refine Qp ?_;simp only[go_sem,l1,l2,l3,l4,l9,l10,l11,l12];refine⟨Qo,?_⟩;show ∃m,_;refine⟨P.length-(k+1),ZD,k+1,rfl,ZD,kn,λk' fu ae=>?_,rfl,rfl,rfl,rfl,rfl,rfl,rfl,rfl⟩;rcases J6 k' k with h|h
      ·exact dc k' fu h
      ·have:k'=k:=ZD;subst this;exact sL.2 hn
    ·intro bk;have aY:P.length<=k:=ZM;refine Zb ?_;refine Qp ?_;simp only[go_sem,l1,l2,l3,l4,l9,l10,l11];refine⟨Qo,?_⟩;show ∃m,_;refine⟨y.aa.length-(i+1),ZD,i+1,rfl,ZD,kn,λp' bX k' fu=>?_,rfl,rfl,rfl,rfl,rfl,rfl,rfl⟩;rw[Jk aI,hp]at bX;rcases Jp.1 bX with h|h
     ·exact bg p' h k' fu
     ·rw[Ja]at h;rw[h];exact dc k' fu ZD
  ·intro ao;have aY:y.aa.length<=i:=ZI
   rw[Jg aY]at bg;refine Zb ?_;refine Q3 (Qa ?_);simp only[go_sem,l1,l2,l3,l4,l9];refine Qg (Qd (Qs (λm e1 H1=>∃(j:Nat),m=y.ins.length-j/\j<=y.ins.length/\Kn H H1 [] [(x5,.st [.sl false 2 (Q8 y.aa),.sl false 4 (Af y.ins),.int .i64 y.jump,.int .i64 y.on,.sl false 1 (Qb y.next)])]/\
    (∀i (hi:i<y.ins.length),i<j->∀v∈(y.ins[i]).args,Rul q v b i)/\lk 1 e1=.c (.sl f1 1 (AR q))/\lk 2 e1=.c (.sl f2 1 (A7 q.blocks.length (nxN (gnx q)) q.blocks.length))/\lk 3 e1=.c (.int .i64 b)/\lk 4 e1=.c (.pp [.int .i64 q.params,.int .i64 q.ab,.sl fl 5 (Ql q.blocks)])/\lk 9 e1=.c (.ptr x5 0)/\lk 13 e1=.c (.int .i64 j)) y.ins.length ?_ ?_))
   ·exact⟨0,ZD,ZD,kn,λ_ _ h=>absurd h ZD,rfl,rfl,rfl,rfl,rfl,rfl⟩
   ·clear kn l1 l2 l3 l4 l9 l10 l11 bm;rintro m3 e3 H7 ⟨j,nF,hj,kn,ib,l1,l2,l3,l4,l9,l13⟩;have bm:=kn.l 0 rfl;refine Q3 (Qa ?_);simp only[go_sem,l1,l2,l3,l4,l9,l13,bm,A0];try intro _
    refine Wv ?_ ?_
    ·intro bk;have aV:j<y.ins.length:=ZM;obtain⟨w,hw⟩:∃w,y.ins[j]=w:=⟨_,rfl⟩;have nr:w∈y.ins:=ZaZ;have qe:=bu.al w nr;refine Ze ?_
     refine Wm ?_;refine Qd (Qs (λm e1 H1=>∃(k:Nat),m=w.args.length-k/\k<=w.args.length/\Kn H H1 [] [(x5,.st [.sl false 2 (Q8 y.aa),.sl false 4 (Af y.ins),.int .i64 y.jump,.int .i64 y.on,.sl false 1 (Qb y.next)])]/\
      (∀v∈w.args.take k,Rul q v b j)/\lk 1 e1=.c (.sl f1 1 (AR q))/\lk 2 e1=.c (.sl f2 1 (A7 q.blocks.length (nxN (gnx q)) q.blocks.length))/\lk 3 e1=.c (.int .i64 b)/\lk 4 e1=.c (.pp [.int .i64 q.params,.int .i64 q.ab,.sl fl 5 (Ql q.blocks)])/\lk 9 e1=.c (.ptr x5 0)/\lk 13 e1=.c (.int .i64 j)/\lk 14 e1=.c (.int .i64 k)) w.args.length ?_ ?_)
     ·exact⟨0,ZD,ZD,kn,ZF,rfl,rfl,rfl,rfl,rfl,rfl,rfl⟩
     ·clear kn l1 l2 l3 l4 l9 l13 bm;rintro m4 e4 H8 ⟨k,yg,hk,kn,lu,l1,l2,l3,l4,l9,l13,l14⟩;have bm:=kn.l 0 rfl;refine Q3 (Qa ?_);simp only[go_sem,l1,l2,l3,l4,l9,l13,l14,bm,aV,A0,BR _ _ aV,InsD.cells,hw,Qe];try intro _
      refine Wv ?_ ?_
      ·intro bN;have gn:k<w.args.length:=ZQ;obtain⟨v,hv⟩:∃v,w.args[k]=v:=⟨_,rfl⟩;obtain⟨ez,ey⟩:=bu.args w nr _ (Jc gn);rw[hv]at ez ey;have iZ:w.args.getD k 0=v:=(by simp[Jb,gn,hv]);refine Ze ?_
       refine Qg (Qd ?_);refine Aj ?_;simp only[go_sem,l1,l2,l3,l4,l9,l13,l14,bm,aV,A0,BR _ _ aV,InsD.cells,hw,Qe,gn,Qn _ _ gn,iZ,Jae,Jr];refine Q6i ho ez ey hb ?_;simp only[go_sem,Qyg];refine Ww ?_ ?_
       ·intro iS;have hn:¬Rul q v b j:=ZaJ;refine Wi ?_;refine retf false _ _ _ ⟨nofun,λh=>absurd ?_ hn⟩ kn ZE;have:=h.ins j ZaT v (by simp only[cW,hw,<-hv];exact Jc gn);exact this
       ·intro iS;have hn:Rul q v b j:=ZaJ;refine Ze ?_
        refine Qp ?_;simp only[go_sem,l1,l2,l3,l4,l9,l13,l14];refine⟨Qo,?_⟩;show ∃m,_;refine⟨w.args.length-(k+1),ZD,k+1,rfl,ZD,kn,λv' fx=>?_,rfl,rfl,rfl,rfl,rfl,rfl,rfl⟩;rw[Jk gn,hv]at fx;rcases Jp.1 fx with h|h
        ·exact lu v' h
        ·rw[Ja]at h;rw[h];exact hn
      ·intro bN;have pz:w.args.length<=k:=ZQ;rw[Jg pz]at lu;refine Zb ?_;refine Qp ?_;simp only[go_sem,l1,l2,l3,l4,l9,l13];refine⟨Qo,?_⟩;show ∃m,_;refine⟨y.ins.length-(j+1),ZD,j+1,rfl,ZD,kn,λi' bS ae=>?_,rfl,rfl,rfl,rfl,rfl,rfl⟩;rcases J6 i' j with h|h
       ·exact ib i' bS h
       ·have:i'=j:=ZD;subst this;rw[hw];exact lu
    ·intro bk;have p9:y.ins.length<=j:=ZM;refine Zb ?_;have xc:∀p∈y.aa,∀k (hk:k<(Qz (gnx q) (b:Int) q.blocks.length).length),Rul q (p.args.getD k 0) ((Qz (gnx q) (b:Int) q.blocks.length)[k]).toNat (Ae q ((Qz (gnx q) (b:Int) q.blocks.length)[k]).toNat).ins.length:=by
      simp only[hP];exact bg
     have fin:(¬y.jump=1->Rul q y.on b y.ins.length)↔BSgl q b:=by
      constructor
      ·intro h;exact⟨by rw[cW];exact xc,by simp only[cW];exact λi hi=>ib i hi ZD,by rw[cW];exact h⟩
      ·intro h;have:=h.on;rw[cW]at this;exact this
     by_cases jP:y.jump=1
     ·have mN:decide (y.jump=1)=true:=decide_eq_true jP;refine Qa ?_;simp only[go_sem,l1,l2,l3,l4,l9,bm,mN,So];refine Qk ?_;exact retf true _ _ _ ⟨λ_=>fin.1 λh=>absurd jP h,λ_=>rfl⟩ kn ZE
     ·have mN:decide (y.jump=1)=false:=decide_eq_false jP;obtain⟨ez,ey⟩:=bu.on jP;refine Qa ?_;simp only[go_sem,l1,l2,l3,l4,l9,bm,mN,A0];intro _;refine Q6i ho ez ey hb ?_;simp only[go_sem,So,mN];refine Qk ?_;exact retf _ _ _ _ (by rw[decide_eq_true_eq,<-fin];exact⟨λh _=>h,λh=>h jP⟩) kn rfl
theorem Qa8v {p rg:Int}{fl:Bool}{rows:List (List C)}{nx:Nat->List Int}(hg:GF rows nx)(hf:A4 rows.length nx=true)
  (hK:∀(o:List Nat) H',Upd H H' []->o.length<=rows.length->(o.length=rows.length↔∀x,x<rows.length->Al (nxN nx) (-1) x=true)->K (.c (.sl false 1 (Q7 o))) H') :
  Qv prog El [.ag [.int .i64 p,.int .i64 rg,.sl fl 5 rows]] H K:=by
 have bY:=CN hf;refine MV hg hf λS o H' hu hd=>?_;have fe:∀x,x<(List.replicate rows.length false).length->∀y∈nxN nx x,y<(List.replicate rows.length false).length:=by
  rw[Jas];exact λx hx y hy=>Co hf hx hy
 have iY:∀x∈[0],x<(List.replicate rows.length false).length:=by rw[Jas];simpa using bY
 have h1:=hd.count fe iY;rw[Q5v hf hd]at h1;have h0:cnt (List.replicate rows.length false)=0:=by simp[cnt,List.count_replicate]
 have hl:(inL rows.length (nxN nx)).length=rows.length:=Cq;have h2:=C0 (inL rows.length (nxN nx));simp only[Jj]at h1;have e:o.length=cnt (inL rows.length (nxN nx)):=ZD
 refine hK o.reverse H' hu (by rw[List.length_reverse];omega) ?_;rw[List.length_reverse,e,cnt];constructor
 ·intro h x hx;exact (List.count_eq_length.1 (h.trans hl.symm) (Al (nxN nx) (-1) x) (Jl.2 ⟨x,Jw.2 hx,rfl⟩)).symm
 ·intro h;refine (List.count_eq_length.2 λb hb=>?_).trans hl;obtain⟨x,hx,rfl⟩:=Jl.1 hb;exact (h x (Jw.1 hx)).symm
set_option maxHeartbeats 4000000 in
theorem Xz {fl:Bool}(ho:q.ok)(hK:∀H',Upd H H' []->K (.c (.bool (decide (SglP q)))) H') :
  Qv prog EZ [.ag [.int .i64 q.params,.int .i64 q.ab,.sl fl 5 (Ql q.blocks)]] H K:=by
 have bH:=ho.r0;have dC:=ho.r1;have bf:=ho.b1;obtain⟨R,hR⟩:∃R:Nat,q.ab.toNat=R:=⟨_,rfl⟩;have lz:q.ab=(R:Int):=ZD
 have kn:=Kn.ar H;refine Q0 ?_;have retf:∀(v:Bool) (e:Env) (H':Heap),(v=true↔SglP q)->Kn H H' [] []->lk 2 e=.c (.bool v)->Q4 FM (unK H K) .ret e H':=by
  intro v e H' hv kn h3;simp only[go_sem,Q4,Aa,Ja,forall_eq,RS.op,h3];rw[show v=decide (SglP q)by rw[Jaa,hv];simp];exact⟨_,.c _ _ (Qi rfl),hK _ kn.fin⟩
 refine Qc Ab XR ?_;refine Za ?_;refine Q3 (Aj ?_);simp only[go_sem];refine Qa8v (GC ho.gd) ZaC λo H1 sW dJ lF=>?_;rw[Qj]at dJ lF;simp only[go_sem,KY,Qj,Q1];have kn:=kn.aw sW;clear sW;refine Wv ?_ ?_
 ·intro hc;have hn:¬o.length=q.blocks.length:=by intro h;rw[h]at hc;simp at hc
  refine Wi ?_;exact retf false _ _ ⟨nofun,λh=>absurd (lF.2 λx hx=>h.re x hx) hn⟩ kn ZE
 ·intro hc;have hn:o.length=q.blocks.length:=by
   have:(o.length:Int)=(q.blocks.length:Int):=ZG
   omega
  have rf:=lF.1 hn;refine Zr ?_;refine Za ?_;refine Kl ho λH2 dx=>?_;have kn:=kn.aw dx;clear dx;simp only[go_sem,KX];refine Wa ?_;refine Qg (Qd (Qs (λm e1 H1=>∃(r:Nat),m=R-r/\r<=R/\Kn H H1 [] []/\(∀r',r'<r->(Am q r').length<=1/\((r':Int)<q.params->Am q r'=[]))/\
   lk 1 e1=.c (.pp [.int .i64 q.params,.int .i64 q.ab,.sl fl 5 (Ql q.blocks)])/\lk 3 e1=.c (.sl false 1 (AR q))/\lk 4 e1=.c (.int .i64 r)) R ?_ ?_))
  ·exact⟨0,ZD,ZD,kn,λ_ h=>absurd h ZD,rfl,rfl,rfl⟩
  ·clear kn;rintro m e1 H3 ⟨r,hm,hr,kn,bg,l1,l3,l4⟩;refine Q3 (Qa ?_);simp only[go_sem,l1,l3,l4];try intro _
   refine Wv ?_ ?_
   ·intro ao;have ae:r<R:=(by have:(r:Int)<q.ab:=(by simpa using ao);omega);have jM:r<q.ab.toNat:=ZD;refine Ze ?_
    refine Qg (Qd ?_);by_cases h1:1<(Am q r).length
    ·have bT:decide ((1:Int)<((Am q r).length:Int))=true:=decide_eq_true ZD;refine Qa ?_;simp only[go_sem,l1,l3,l4,Ek,Hk jM,jM,BW,bT];try intro _
     refine Qf rfl (λ_=>?_) (λh=>by cases h);refine Wi ?_;exact retf false _ _ ⟨nofun,λh=>absurd (h.one r jM).1 ZD⟩ kn ZE
    ·have bT:decide ((1:Int)<((Am q r).length:Int))=false:=decide_eq_false ZD;by_cases h2:(r:Int)<q.params
     ·have cD:decide ((r:Int)<q.params)=true:=decide_eq_true h2;refine Qa ?_;simp only[go_sem,l1,l3,l4,Ek,Hk jM,jM,BW,bT,cD];try intro _
      try intro _
      refine Ww ?_ ?_
      ·intro bk;have h0:0<(Am q r).length:=ZM;refine Wi ?_;exact retf false _ _ ⟨nofun,λh=>absurd ((h.one r jM).2 h2) (by intro e;rw[e]at h0;simp at h0)⟩ kn ZE
      ·intro bk;have h0:Am q r=[]:=ZM;refine Ze ?_
       refine Qp ?_;simp only[go_sem,l1,l3,l4];refine⟨Qo,?_⟩;show ∃m,_;refine⟨R-(r+1),ZD,r+1,rfl,ZD,kn,λr' eo=>?_,rfl,rfl,rfl⟩;rcases J6 r' r with h|h
       ·exact bg r' h
       ·have:r'=r:=ZD;subst this;exact⟨ZD,λ_=>h0⟩
     ·have cD:decide ((r:Int)<q.params)=false:=decide_eq_false h2;refine Qa ?_;simp only[go_sem,l1,l3,l4,Ek,Hk jM,jM,BW,bT,cD];try intro _
      refine Qf rfl (λh=>by cases h) (λ_=>?_);refine Ze ?_
      refine Qp ?_;simp only[go_sem,l1,l3,l4];refine⟨Qo,?_⟩;show ∃m,_;refine⟨R-(r+1),ZD,r+1,rfl,ZD,kn,λr' eo=>?_,rfl,rfl,rfl⟩;rcases J6 r' r with h|h
      ·exact bg r' h
      ·have:r'=r:=ZD;subst this;exact⟨ZD,λh=>absurd h h2⟩
   ·intro ao;have aY:R<=r:=(by have:q.ab<=(r:Int):=(by simpa using ao);omega);have fE:∀r',r'<q.ab.toNat->(Am q r').length<=1/\((r':Int)<q.params->Am q r'=[]):=λr' h=>bg r' ZD;refine Zb ?_;refine Zn l1 l3 ?_;refine FG (rows:=Ql q.blocks) (nx:=gnx q) (GC ho.gd) ZaC λH4 hu=>?_;have kn:=kn.aw hu;clear hu;simp only[go_sem,K8,Qj];refine Wa ?_;refine Qg (Qd (Qs (λm e1 H1=>∃(b:Nat),m=q.blocks.length-b/\b<=q.blocks.length/\Kn H H1 [] []/\(∀b',b'<b->BSgl q b')/\
     lk 1 e1=.c (.pp [.int .i64 q.params,.int .i64 q.ab,.sl fl 5 (Ql q.blocks)])/\lk 3 e1=.c (.sl false 1 (AR q))/\lk 5 e1=.c (.sl false 1 (A7 q.blocks.length (nxN (gnx q)) q.blocks.length))/\lk 6 e1=.c (.int .i64 b)) q.blocks.length ?_ ?_))
    ·exact⟨0,ZD,ZD,kn,λ_ h=>absurd h ZD,rfl,rfl,rfl,rfl⟩
    ·clear kn l1 l3 l4;rintro m e1 H5 ⟨b,hm,hb,kn,ji,l1,l3,l5,l6⟩;refine Q3 (Qa ?_);simp only[go_sem,l1,l3,l5,l6,Qj];try intro _
     refine Wv ?_ ?_
     ·intro bk;have ae:b<q.blocks.length:=ZM;refine Ze ?_
      refine Wh ?_;simp only[go_sem,l1,l3,l5,l6];refine Qbij ho ae λH6 hu=>?_;have kn:=kn.aw hu;clear hu;simp only[go_sem,K7];refine Ww ?_ ?_
      ·intro bN;have hn:¬BSgl q b:=ZQ;refine Wi ?_;exact retf false _ _ ⟨nofun,λh=>absurd ⟨h.ph b ae,h.ins b ae,h.on b ae⟩ hn⟩ kn ZE
      ·intro bN;have hn:BSgl q b:=ZQ;refine Ze ?_
       refine Qp ?_;simp only[go_sem,l1,l3,l5,l6];refine⟨Qo,?_⟩;show ∃m,_;refine⟨q.blocks.length-(b+1),ZD,b+1,rfl,ZD,kn,λb' eo=>?_,rfl,rfl,rfl,rfl⟩;rcases J6 b' b with h|h
       ·exact ji b' h
       ·have:b'=b:=ZD;subst this;exact hn
     ·intro bk;have aY:q.blocks.length<=b:=ZM;refine Wc ?_;refine Qk ?_;exact retf true _ _ ⟨λ_=>⟨rf,fE,λb h=>(ji b ZD).ph,λb h=>(ji b ZD).ins,λb h=>(ji b ZD).on⟩,λ_=>rfl⟩ kn ZE
end Go.AE.Y
namespace Go.AE.Y
attribute [local go_sem] cond_true cond_false Bool.not_true Bool.not_false
attribute [local instance] Classical.propDecidable
open Go.Proofs.Tryz
variable {H H0:Heap}{K:V->Heap->Prop}{E B Lg:List (Nat×Obj)}{q:CodeD}{cs:List CodeD}
noncomputable def B2 (cs:List CodeD):Bool:=decide (Bg cs=true/\∀k (h:k<cs.length),SglP cs[k])
set_option maxHeartbeats 4000000 in
theorem MX {fl:Bool}(aL:∀c∈cs,c.fits)(hK:∀H',Upd H H' []->K (.c (.bool (B2 cs))) H') :
  Qv prog PH [.ag [.sl fl 3 (Qw cs)]] H K:=by
 have kn:=Kn.ar H;refine Q0 ?_;have retf:∀(v:Bool) (e:Env) (H':Heap),(v=true↔(Bg cs=true/\∀k (h:k<cs.length),SglP cs[k]))->Kn H H' [] []->lk 2 e=.c (.bool v)->Q4 P9 (unK H K) .ret e H':=by
  intro v e H' hv kn h3;simp only[go_sem,Q4,Aa,Ja,forall_eq,RS.op,h3];rw[show v=B2 cs by rw[B2,Jaa,hv];simp];exact⟨_,.c _ _ (Qi rfl),hK _ kn.fin⟩
 refine Qc Ab Qauz ?_;refine Wf ?_;have fin:∀(H1:Heap) (e1:Env),Kn H H1 [] []->(Bg cs=true->∀k (h:k<cs.length),SglP cs[k])->lk 1 e1=.c (.pp [.sl fl 3 (Qw cs)])->Ad prog Qvi (Q4 P9 (unK H K)) e1 H1:=by
  intro H1 e1 kn bg l1;refine Zh l1 ?_;refine Hq aL λH2 hu=>?_;have kn:=kn.aw hu;simp only[go_sem,Qqs];refine Qk ?_;exact retf _ _ _ ⟨λh=>⟨h,bg h⟩,λh=>h.1⟩ kn rfl
 refine Qg (Qd (Qs (λm e1 H1=>∃(k:Nat),m=cs.length-k/\k<=cs.length/\Kn H H1 [] []/\(∀k' (h:k'<cs.length),k'<k->SglP cs[k'])/\
  lk 1 e1=.c (.pp [.sl fl 3 (Qw cs)])/\lk 3 e1=.c (.int .i64 k)) cs.length ?_ ?_))
 ·exact⟨0,ZD,ZD,kn,λ_ _ h=>absurd h ZD,rfl,rfl⟩
 ·clear kn;rintro m e1 H1 ⟨k,hm,hk,kn,bg,l1,l3⟩;refine Q3 ?_;by_cases ae:k<cs.length
  ·have hd:decide ((k:Int)<(cs.length:Int))=true:=decide_eq_true ZD;refine Qa ?_;simp only[go_sem,l1,l3,Q6,hd];try intro _
   refine Hq aL λH2 hu=>?_;have kn:=kn.aw hu;clear hu;simp only[go_sem,Tc,hd];refine Wv ?_ ?_
   ·intro hc;obtain⟨d,cD⟩:∃d,cs[k]=d:=⟨_,rfl⟩;have mY:=CA hc ae;have h4:=(DC aL hc).1;rw[cD]at mY;refine Ze ?_
    refine Wh ?_;simp only[go_sem,l1,l3,ae,Q6,Bd _ _ ae,CodeD.cells,cD];refine Xz mY λH3 hu=>?_;have kn:=kn.aw hu;clear hu;simp only[go_sem,Qqr];refine Ww ?_ ?_
    ·intro bN;have hn:¬SglP d:=ZQ;refine Wi ?_;exact retf false _ _ ⟨nofun,λh=>absurd (cD▸h.2 k ae) hn⟩ kn ZE
    ·intro bN;have hn:SglP d:=ZQ;refine Ze ?_
     refine Qp ?_;simp only[go_sem,l1,l3];refine⟨Qo,?_⟩;show ∃m,_;refine⟨cs.length-(k+1),ZD,k+1,rfl,ZD,kn,λk' h' eo=>?_,rfl,rfl⟩;rcases J6 k' k with h|h
     ·exact bg k' h' h
     ·have:k'=k:=ZD;subst this;rw[cD];exact hn
   ·intro hc;refine Zb ?_;exact fin _ _ kn (λh=>by rw[h]at hc;cases hc) (by first|rfl|exact l1|simp[lk,l1])
  ·have hd:decide ((k:Int)<(cs.length:Int))=false:=decide_eq_false ZD;refine Qa ?_;simp only[go_sem,l1,l3,Q6,hd,Tc];try intro _
   refine Qg (Qf rfl (λh=>by cases h) (λ_=>?_));refine Zb ?_;exact fin _ _ kn (λ_ k' h'=>bg k' h' ZD) (by first|rfl|exact l1|simp[lk,l1])
end Go.AE.Y
namespace Go.AE.Y
attribute [local go_sem] cond_true cond_false Bool.not_true Bool.not_false
attribute [local instance] Classical.propDecidable
open Go.Proofs.Tryz
variable {H H0:Heap}{K:V->Heap->Prop}{E B Lg:List (Nat×Obj)}{q:CodeD}
set_option maxHeartbeats 4000000 in
theorem FH {p rg:Int}{fl f2:Bool}(ho:q.ok){v i:Int}{b xa xd:Nat}(ez:0<=v)(ey:v<q.ab)(hb:b<q.blocks.length)(ha:H xa=.st [.sl f2 1 (Bt q)])
  (hd:H xd=.st [.pp (domC p rg fl (Ql q.blocks) (nxN (gnx q)))]) (hK:K (.c (.bool (decide (Rul q v b i)))) H) :
  Qv prog DZ [.c (.int .i64 v),.c (.int .i64 b),.c (.int .i64 i),.c (.pp q.cells),.c (.ptr xa 0),.c (.ptr xd 0)] H K:=by
 have bH:=ho.r0;have dC:=ho.r1;have bf:=ho.b1;obtain⟨r,rfl⟩:∃r:Nat,v=(r:Int):=⟨v.toNat,ZD⟩;have hr:r<q.ab.toNat:=ZD
 have jr:=Q8j (q:=q) hr;have eA:=Ra ho r;have retf:∀(x:Bool) (e:Env),(x=true↔Rul q r b i)->lk 9 e=.c (.bool x)->Q4 T8 K .ret e H:=by
  intro x e hx h3;simp only[go_sem,Q4,Aa,Ja,forall_eq,RS.op,h3];rw[show x=decide (Rul q r b i)by rw[Jaa,hx];simp];exact hK
 refine Qc Ab Q1m ?_;refine Wg ?_;simp only[go_sem,CodeD.cells];refine Wv ?_ ?_
 ·intro hc;have hp:(r:Int)<q.params:=ZG
  refine Wi ?_;exact retf true _ ⟨λ_=>.inl hp,λ_=>rfl⟩ ZE
 ·intro hc;have hp:¬(r:Int)<q.params:=ZG
  refine Zr ?_
  cases hs:Am q r with
  |nil=>
   have gp:(Am q r).length=0:=by rw[hs];rfl
   have iG:prs2 (Am q r)=[]:=by rw[hs];rfl
   rw[iG]at jr;have lh:decide ((0:Int)<((0:Nat):Int))=false:=rfl;refine Aj ?_;simp only[go_sem,ha,hd,DP,hr,jr,lh,Jj,List.getD_nil,List.take_nil,List.headD_nil,Il];refine Qk ?_;refine retf false _ ⟨nofun,λh=>?_⟩ rfl;rcases h with h|⟨p,ps,e,_⟩
   ·exact absurd h hp
   ·rw[Jr,hs]at e;cases e
  |cons p ps=>
   obtain⟨c,bW,h1,h2⟩:=DQ (q:=q) (r:=r) (p:=p) (by rw[hs];simp);rw[hs]at jr eA;have gm:(prs2 (p::ps)).getD 0 []=pR2 p:=rfl;have lh:decide ((0:Int)<((ps.length+1:Nat):Int))=true:=decide_eq_true ZD;have tL:(0:Int)<=1:=ZR
   by_cases fb:(c:Int)=(b:Int)
   ·have bT:decide ((c:Int)=(b:Int))=true:=decide_eq_true fb;by_cases qk:p.2<i
    ·have cD:decide (p.2<i)=true:=decide_eq_true qk;refine Aj ?_;simp only[go_sem,ha,hd,DP,hr,jr,C2,lh,bT,cD,gm,pR2,h1,Jh,Jj,Jat,Jan,Js,Jv,Il];refine Qk ?_;exact retf true _ ⟨λ_=>.inr ⟨p,ps,hs,λ_=>qk,λe=>absurd (h1.trans fb) e⟩,λ_=>rfl⟩ rfl
    ·have cD:decide (p.2<i)=false:=decide_eq_false qk;refine Aj ?_;simp only[go_sem,ha,hd,DP,hr,jr,C2,lh,bT,cD,gm,pR2,h1,Jh,Jj,Jat,Jan,Js,Jv,Il];refine Qk ?_;refine retf false _ ⟨nofun,λh=>?_⟩ rfl;rcases h with h|⟨p',ps',e,h3,_⟩
     ·exact absurd h hp
     ·rw[Jr,hs]at e;cases e;exact absurd (h3 (h1.trans fb)) qk
   ·have bT:decide ((c:Int)=(b:Int))=false:=decide_eq_false fb;refine Aj ?_;simp only[go_sem,ha,hd,DP,hr,jr,C2,lh,bT,gm,pR2,h1,Jh,Jj,Jat,Jan,Js,Jv];refine Qa8e (rows:=Ql q.blocks) (by rw[Qj];exact bW) (by rw[Qj];exact hb) ?_;simp only[go_sem,ha,hd,DP,hr,jr,C2,lh,bT,gm,pR2,h1,Jh,Jj,Jat,Jan,Js,Jv,Il];refine Qk ?_;refine retf _ _ ?_ rfl;constructor
    ·intro h;exact .inr ⟨p,ps,hs,λe=>absurd (h1▸e) fb,λ_=>by rw[h1];exact h⟩
    ·rintro (h|⟨p',ps',e,_,h3⟩)
     ·exact absurd h hp
     ·rw[Jr,hs]at e;cases e;have:=h3 (by rw[h1];exact fb);rw[h1]at this;exact this
end Go.AE.Y
namespace Go.AE.Y
open Go.Proofs.Tryz
def Qkj:List Item:=[sJ 1 4 20]
def Qkk:List Item:=.chk 17 none (.ld 3 true (.t 1))::.chk 19 none (.ld 3 true (.t 1))::sJ 1 3 18::Qkj
def Qkl:List Item:=.chk 17 none (.ld 3 true (.t 1))::.chk 19 none (.ld 3 true (.t 1))::eI 4 (.alloc [.sl true 1 []])::Qkk
def Qkm:List Item:=eI 3 (.alloc [.pnil])::Qkl
def Qkn:List Item:=.chk 19 none (.ld 3 true (.t 1))::aJ 20 PJ [.t 19]::Qkm
def Q7h:SC:=cT 25 (sR [fB 2 false] [2] .ret) .skip
def Q7i:SC:=cT 46 (sR [fB 2 false] [2] .ret) .skip
def Q7j:SC:=sR [mJ 33 6,nJ 34 33,cJ 35 .gtr 34 1,mJ 36 35,gFm 37 36 5,gFf 38 36 0 1,gFl 39 36 38,gF 40 36 (.bin 0 .lss (.t 37) (.t 39)),gFm 41 36 40,gTm 42 41 6,gT 43 41 (.len (.t 42)),gT 44 41 (.bin 0 .gtr (.t 43) (kI 0)),gF 45 36 (.pick (.t 41) (.t 44) (.k (.c (.bool false)))),pT 46 36 45] [1,3,4,26,27,28,46] Q7i
def Q7k:SC:=.reg [cJ 47 .add 28 1,mJ 28 47] [1,3,4,26,27,28]
def Q7l:SC:=.seq (.block 1 (sR [mJ 30 28,iJ 31 1 26 28,lJ 32 31,mJ 5 30,mJ 6 32] [1,3,4,5,6,26,27,28] Q7j)) Q7k
def Qz1:SC:=sR [bJ 29 .lss 28 27] [1,3,4,26,27,28,29] (cX 29 0 Q7l)
def Qiy:List Item:=[sJ 1 7 48]
def Qiz:List Item:=[sJ 5 9 56]
def Qi0:List Item:=sJ 1 8 54::Qiz
def Qi1:List Item:=eI 9 (.alloc [.sl true 2 [],.sl true 4 [],.int .i64 0,.int .i64 0,.sl true 1 []])::Qi0
def Qi2:List Item:=[mJ 10 59]
def Qi3:List Item:=[sJ 2 12 66]
def Qi4:List Item:=[oJ 92 91]
def Q2v:SC:=cT 92 (sR [fB 2 false] [2] .ret) .skip
def Q2w:SC:=.seq (.a7 18 [0,1,2,3,4,5,6,7,8,9,10,11,12,13,14,15,16,17] ( lJ 75 7::mJ 76 14::mJ 77 10::mJ 78 13::iJ 79 1 77 78::lJ 80 79::fJ 81 2 1::lJ 82 81::mJ 83 10::mJ 84 13::iJ 85 1 83 84::lJ 86 85::iJ 87 5 82 86::fJ 88 1 87::lJ 89 88::nJ 90 89::eI 91 (.bB (.t 75) [.t 76,.t 80,.t 90])::Qi4) [1,7,8,9,10,50,51,52,61,62,63,68,69,70,92]) Q2v
def Q2x:SC:=.reg [cJ 93 .add 70 1,mJ 70 93] [1,7,8,9,10,50,51,52,61,62,63,68,69,70]
def Q2y:SC:=.seq (.block 7 (sR [mJ 72 70,iJ 73 1 68 70,lJ 74 73,mJ 13 72,mJ 14 74] [1,7,8,9,10,13,14,50,51,52,61,62,63,68,69,70] Q2w)) Q2x
def Qz2:SC:=sR [bJ 71 .lss 70 69] [1,7,8,9,10,50,51,52,61,62,63,68,69,70,71] (cX 71 6 Q2y)
def Q2z:SC:=sR [fJ 67 1 12,lJ 68 67,nJ 69 68,zJ 70 0] [1,7,8,9,10,50,51,52,61,62,63,68,69,70] (bL 6 Qz2)
def Q20:SC:=.reg [cJ 94 .add 63 1,mJ 63 94] [1,7,8,9,10,50,51,52,61,62,63]
def Q21:SC:=.seq (.block 5 (sR (iJ 65 2 61 63::tJ 66 2 65::eI 12 (.alloc [.int .i64 0,.sl true 1 []])::Qi3) [1,7,8,9,10,12,50,51,52,61,62,63] Q2z)) Q20
def Qz3:SC:=sR [bJ 64 .lss 63 62] [1,7,8,9,10,50,51,52,61,62,63,64] (cX 64 4 Q21)
def Qi5:List Item:=[sJ 4 16 102]
def Qi6:List Item:=sJ 1 15 100::Qi5
def Qi7:List Item:=eI 16 (.alloc [.int .i64 0,.int .i64 0,.sl true 1 [],.int .i64 0])::Qi6
def Q22:SC:=cT 106 (sR [fB 2 false] [2] .ret) .skip
def Q23:SC:=sR [fJ 103 2 16,lJ 104 103,fI 105 (.mkf T7 [.t 7,.t 8,.t 15]),aJ 106 EH [.t 104,.t 105]] [1,7,8,9,50,51,52,96,97,98,106] Q22
def Q24:SC:=.reg [cJ 107 .add 98 1,mJ 98 107] [1,7,8,9,50,51,52,96,97,98]
def Q25:SC:=.seq (.block 9 (sR (mJ 100 98::iJ 101 4 96 98::tJ 102 4 101::eI 15 (.alloc [.int .i64 0])::Qi7) [1,7,8,9,15,16,50,51,52,96,97,98] Q23)) Q24
def Qz4:SC:=sR [bJ 99 .lss 98 97] [1,7,8,9,50,51,52,96,97,98,99] (cX 99 8 Q25)
def T2:List Item:=[gT 120 111 (.not (.t 119)),pF 121 111 120]
def T1:List Item:=mJ 111 110::gTl 112 111 7::gTf 113 111 3 9::gTl 114 111 113::gTl 115 111 8::gTf 116 111 1 9::gTl 117 111 116::gT 118 111 (.len (.t 117))::.e (some 119) (some (111,true)) (.bB (.t 112) [.t 114,.t 115,.t 118])::T2
def Q26:SC:=cT 121 (sR [fB 2 false] [2] .ret) .skip
def Q27:SC:=sR (fJ 108 2 9::lJ 109 108::aJ 110 Eo [.t 109]::T1) [1,7,50,51,52,121] Q26
def Q28:SC:=.seq (sR [fJ 95 1 9,lJ 96 95,nJ 97 96,zJ 98 0] [1,7,8,9,50,51,52,96,97,98] (bL 8 Qz4)) Q27
def Q29:SC:=.seq (sR [fJ 60 0 9,lJ 61 60,nJ 62 61,zJ 63 0] [1,7,8,9,10,50,51,52,61,62,63] (bL 4 Qz3)) Q28
def Q3a:SC:=sR (tJ 57 3 1::lJ 58 8::aJ 59 G0 [.t 57,.t 58]::Qi2) [1,7,8,9,10,50,51,52] Q29
def Qkh:SC:=.reg [cJ 122 .add 52 1,mJ 52 122] [1,7,50,51,52]
def Qki:SC:=.seq (.block 3 (sR (mJ 54 52::iJ 55 5 50 52::tJ 56 5 55::eI 8 (.alloc [.int .i64 0])::Qi1) [1,7,8,9,50,51,52] Q3a)) Qkh
def Qz5:SC:=sR [bJ 53 .lss 52 51] [1,7,50,51,52,53] (cX 53 2 Qki)
def Q3b:SC:=sR [fB 2 true] [2] .ret
def Q3c:SC:=.seq (sR [fJ 49 2 1,lJ 50 49,nJ 51 50,zJ 52 0] [1,7,50,51,52] (bL 2 Qz5)) Q3b
def Q3d:SC:=sR (fI 48 (.mkf DZ [.t 1,.t 4,.t 3])::eI 7 (.alloc [.fnil])::Qiy) [1,7] Q3c
def Q3e:SC:=.seq (sR [lJ 26 4,nJ 27 26,zJ 28 0] [1,3,4,26,27,28] (bL 0 Qz1)) Q3d
def Q3f:SC:=.seq (sR [lJ 21 3,kJ 22 21,fJ 23 4 22,lJ 24 23,aJ 25 T6 [.t 24,.k (.c (.bool false))]] [1,3,4,25] Q7h) Q3e
def Q3g:SC:=.seq (.a7 100048 [0,2,1,2,3,4,0,2,5,0,2,6,7] ( tJ 17 3 1::tJ 19 3 1::aJ 18 RH [.t 17]::Qkn) [1,3,4]) Q3f
def Qah4:SC:=sR [vJ 1 0,fB 2 false] [1] Q3g
abbrev PM:List RS:=[.tmp 2]
theorem Qagc:mFn prog Ti 1 123 Qah4 PM=true:=ZH
def Qu3:SC:=cT 16 (sR [mJ 17 5,mJ 4 17] [4] .ret) .skip
def Qu4:SC:=sR [mJ 11 1,mJ 12 0,mJ 13 5,iJ 14 3 12 13,tJ 15 3 14,eI 16 (.bB (.t 11) [.t 15])] [0,1,5,7,8,16] Qu3
def Qu5:SC:=.reg [cJ 18 .add 8 1,mJ 8 18] [0,1,7,8]
def Qu6:SC:=.seq (.block 1 (sR [mJ 10 8,mJ 5 10] [0,1,5,7,8] Qu4)) Qu5
def Qrf:SC:=sR [bJ 9 .lss 8 7] [0,1,7,8,9] (cX 9 0 Qu6)
def Qu7:SC:=sR [zJ 4 (-1)] [4] .ret
def Qu8:SC:=.seq (sR [mJ 6 0,nJ 7 6,zJ 8 0] [0,1,7,8] (bL 0 Qrf)) Qu7
def Q0y:SC:=sR [zJ 4 0] [0,1] Qu8
abbrev T3:List RS:=[.tmp 4]
theorem Qzg:mFn prog TD 2 19 Q0y T3=true:=ZH
def Qd7:List Item:=[cJ 8 .geq 7 0,mJ 4 8]
def Qng:SC:=sR (mJ 5 0::mJ 6 1::aJ 7 TD [.t 5,.t 6]::Qd7) [4] .ret
def Qq8:SC:=sR [fB 4 false] [0,1] Qng
abbrev Qfi:List RS:=[.tmp 4]
theorem Qqx:mFn prog TH 2 9 Qq8 Qfi=true:=ZH
def Q74:SC:=cT 16 (sR [mJ 17 5,mJ 4 17] [4] .ret) .skip
def Q75:SC:=sR [mJ 11 1,mJ 12 0,mJ 13 5,iJ 14 1 12 13,lJ 15 14,fI 16 (.bin 1 .eql (.t 11) (.t 15))] [0,1,5,7,8,16] Q74
def Q76:SC:=.reg [cJ 18 .add 8 1,mJ 8 18] [0,1,7,8]
def Q77:SC:=.seq (.block 1 (sR [mJ 10 8,mJ 5 10] [0,1,5,7,8] Q75)) Q76
def Q5g:SC:=sR [bJ 9 .lss 8 7] [0,1,7,8,9] (cX 9 0 Q77)
def Q78:SC:=sR [zJ 4 (-1)] [4] .ret
def Q79:SC:=.seq (sR [mJ 6 0,nJ 7 6,zJ 8 0] [0,1,7,8] (bL 0 Q5g)) Q78
def Qam0:SC:=sR [zJ 4 0] [0,1] Q79
abbrev SO:List RS:=[.tmp 4]
theorem Qage:mFn prog Th 2 19 Qam0 SO=true:=ZH
def Qgn:List Item:=[cJ 8 .geq 7 0,mJ 4 8]
def Qwm:SC:=sR (mJ 5 0::mJ 6 1::aJ 7 Th [.t 5,.t 6]::Qgn) [4] .ret
def Q5e:SC:=sR [fB 4 false] [0,1] Qwm
abbrev Qkd:List RS:=[.tmp 4]
theorem Q1o:mFn prog T6 2 9 Q5e Qkd=true:=ZH
def Qg7:List Item:=[mJ 3 9]
def Qg8:List Item:=[sJ 1 4 12]
def Qg9:List Item:=eI 4 (.alloc [.sl true 3 []])::Qg8
def Qha:List Item:=aJ 12 Hr [.t 11]::Qg9
def Qhb:List Item:=[hJ 23 22,iJ 31 5 23 30,mJ 6 31]
def PU:List Item:=[cJ 34 .eql 33 0,mJ 35 34,gTm 36 35 6,gT 37 35 (.nck (.t 36)),gTf 38 35 1 37,gTl 39 35 38,gT 40 35 (.len (.t 39)),gT 41 35 (.bin 0 .gtr (.t 40) (kI 0)),pF 42 35 41,mJ 43 42,gTm 44 43 5,gT 45 43 (.nck (.t 44)),gTf 46 43 1 45,gTl 47 43 46,gT 48 43 (.bin 0 .gtr (.t 47) (kI 0)),pF 49 43 48]
def Qhc:List Item:=[hJ 53 52,iJ 61 4 53 60,mJ 7 61]
def Qhd:List Item:=[hJ 71 70,fI 78 (.iad 1 (.t 71) (kI 0)),sJ 1 78 77]
def Qhe:List Item:=[kJ 91 84,fJ 92 1 91,sJ 1 92 90]
def Q00:SC:=cT 83 (.reg (mJ 84 7::mJ 85 3::mJ 86 5::kJ 87 86::fJ 88 1 87::lJ 89 88::aJ 90 Qr [.t 85,.t 89]::Qhe) [2,4]) .skip
def Qwu:SC:=cT 67 (.a7 12 [0,1,2,3,4,5,6,7,8,9,3,10,11] ( mJ 68 7::kJ 69 68::fJ 70 2 69::lJ 71 70::mJ 72 3::mJ 73 5::kJ 74 73::fJ 75 1 74::lJ 76 75::aJ 77 Qr [.t 72,.t 76]::Qhd) [2,4]) (sR [mJ 79 7,kJ 80 79,fJ 81 1 80,lJ 82 81,cJ 83 .geq 82 0] [2,3,4,5,7,83] Q00)
def Qwv:SC:=sR [mJ 62 7,kJ 63 62,fJ 64 2 63,lJ 65 64,nJ 66 65,cJ 67 .gtr 66 0] [2,3,4,5,7,67] Qwu
def Qww:SC:=cT 49 (.seq (.a7 13 [0,1,2,3,4,5,6,7,8,9,10,3,11,12] ( mJ 50 6::kJ 51 50::fJ 52 1 51::lJ 53 52::mJ 54 3::mJ 55 6::kJ 56 55::fJ 57 1 56::lJ 58 57::nJ 59 58::aJ 60 Qr [.t 54,.t 59]::Qhc) [2,3,4,5,7]) Qwv) .skip
def TA:SC:=sR [tJ 93 1 4,sJ 1 2 93] [2] .ret
def Qwx:SC:=.seq (sR (mJ 32 3::aJ 33 Qr [.t 32,kI 3]::PU) [2,3,4,5,6,49] Qww) TA
def Qwy:SC:=.seq (.a7 13 [0,1,2,3,4,5,6,7,8,9,10,3,11,12] ( mJ 20 5::kJ 21 20::fJ 22 2 21::lJ 23 22::mJ 24 3::mJ 25 5::kJ 26 25::fJ 27 2 26::lJ 28 27::nJ 29 28::aJ 30 Qr [.t 24,.t 29]::Qhb) [2,3,4,5,6]) Qwx
def Qwz:SC:=sR [fJ 13 0 4,lJ 14 13,fJ 15 0 4,lJ 16 15,nJ 17 16,cJ 18 .sub 17 1,iJ 19 3 14 18,mJ 5 19] [2,3,4,5] Qwy
def Qw0:SC:=sR (mJ 10 3::aJ 11 Q55 [.t 10]::Qha) [2,3,4] Qwz
def Qw1:SC:=sR (mJ 8 0::aJ 9 Q6a [.t 8]::Qg7) [2,3] Qw0
def Q8a:SC:=sR [eI 2 (.alloc [.sl true 3 []])] [0,2] Qw1
abbrev PP:List RS:=[.cell 2 1 true]
theorem Q6l:mFn prog Tu 1 94 Q8a PP=true:=ZH
def Qamn:SC:=cT 15 (sR [fB 4 true] [4] .ret) .skip
def Qamo:SC:=sR [mJ 13 6,mJ 14 1,bJ 15 .geq 13 14] [1,7,8,9,15] Qamn
def Qamp:SC:=.reg [cJ 16 .add 9 1,mJ 9 16] [1,7,8,9]
def Qamq:SC:=.seq (.block 1 (sR [iJ 11 1 7 9,lJ 12 11,mJ 6 12] [1,6,7,8,9] Qamo)) Qamp
def Qaef:SC:=sR [bJ 10 .lss 9 8] [1,7,8,9,10] (cX 10 0 Qamq)
def Qamr:SC:=sR [fB 4 false] [4] .ret
def Qams:SC:=.seq (sR [mJ 7 0,nJ 8 7,zJ 9 0] [1,7,8,9] (bL 0 Qaef)) Qamr
def Qayv:SC:=sR [fB 4 false] [0,1] Qams
abbrev RZ:List RS:=[.tmp 4]
theorem Qaux:mFn prog S7 2 17 Qayv RZ=true:=ZH
def Q70:SC:=cT 11 (sR [fB 2 true] [2] .ret) .skip
def Qkq:List Item:=[sJ 1 3 13]
def Qkr:List Item:=eI 3 (.alloc [.sl true 3 []])::Qkq
def Qks:List Item:=[mJ 4 15]
def Tq:List Item:=[fI 19 (.bin 1 .neq (.t 16) (.t 18)),mJ 20 19,gFm 21 20 4,gF 22 20 (.not (.t 21)),pT 23 20 22]
def Qkt:List Item:=[fI 27 (.bin 1 .eql (.t 24) (.t 26)),mJ 2 27]
def Q71:SC:=cT 23 (sR (mJ 24 4::tJ 25 1 3::aJ 26 PH [.t 25]::Qkt) [2] .ret) .skip
def Qku:List Item:=[mJ 5 33,sJ 3 6 35]
def Qkv:List Item:=[mJ 8 44]
def PW:List Item:=[gT 74 69 (.bin 0 .gtr (.t 73) (kI 0)),gF 75 59 (.pick (.t 69) (.t 74) (.k (.c (.bool false)))),pT 76 59 75]
def Q4x:SC:=cT 76 (sR [fB 2 false] [2] .ret) .skip
def Q4y:SC:=sR (mJ 45 8::nJ 46 45::cJ 47 .gtr 46 1::mJ 48 47::gFm 49 48 7::gFf 50 48 0 6::gFl 51 48 50::gF 52 48 (.bin 0 .lss (.t 49) (.t 51))::gFm 53 48 52::gTm 54 53 8::gT 55 53 (.len (.t 54))::gT 56 53 (.bin 0 .gtr (.t 55) (kI 0))::gF 57 48 (.pick (.t 53) (.t 56) (.k (.c (.bool false))))::pT 58 48 57::mJ 59 58::gFm 60 59 7::gFf 61 59 0 6::gFl 62 59 61::gF 63 59 (.bin 0 .geq (.t 60) (.t 62))::gFm 64 59 63::gTm 65 64 8::gT 66 64 (.len (.t 65))::gT 67 64 (.bin 0 .eql (.t 66) (kI 0))::gF 68 59 (.pick (.t 64) (.t 67) (.k (.c (.bool false))))::gFm 69 59 68::gT 70 69 (.ld 1 true (.t 3))::gTm 71 69 5::gTm 72 69 7::.e (some 73) (some (69,true)) (.call RO [.t 70,.t 71,.t 72])::PW) [3,5,6,29,30,31,37,38,76] Q4x
def Q4z:SC:=sR (tJ 41 1 3::mJ 42 5::mJ 43 7::aJ 44 SB [.t 41,.t 42,.t 43]::Qkv) [3,5,6,7,8,29,30,31,37,38] Q4y
def Q40:SC:=.reg [cJ 77 .add 38 1,mJ 38 77] [3,5,6,29,30,31,37,38]
def Q41:SC:=.seq (.block 3 (sR [mJ 40 38,mJ 7 40] [3,5,6,7,29,30,31,37,38] Q4z)) Q40
def Q0v:SC:=sR [bJ 39 .lss 38 37] [3,5,6,29,30,31,37,38,39] (cX 39 2 Q41)
def Qjg:List Item:=[.chk 91 (some (86,false)) (.ld 1 false (.t 90)),.chk 92 (some (86,false)) (.len (.t 91)),gF 89 86 (.len (.t 88)),gF 93 86 (.bin 0 .neq (.t 89) (.t 92)),pT 94 86 93]
def Qjh:List Item:=mJ 86 85::gF 87 86 (.ld 3 true (.t 6))::gFf 90 86 2 6::gFl 91 86 90::gF 92 86 (.len (.t 91))::.e (some 88) (some (86,false)) (.call Ta [.t 87])::Qjg
def Qji:List Item:=hJ 84 83::fI 81 (.iad 1 (.t 80) (kI 0))::lJ 82 81::aJ 85 S7 [.t 82,.t 84]::Qjh
def Q42:SC:=cT 94 (sR [fB 2 false] [2] .ret) .skip
def Q43:SC:=.seq (.a7 17 [0,1,5,6,2,6,3,4,7,8,9,12,13,14,10,13,14,11,15,16] ( tJ 78 1 3::mJ 79 5::fJ 83 0 6::lJ 84 83::aJ 80 Sg [.t 78,.t 79]::Qji) [3,29,30,31,94]) Q42
def Q44:SC:=.seq (sR [fJ 36 1 6,lJ 37 36,zJ 38 0] [3,5,6,29,30,31,37,38] (bL 2 Q0v)) Q43
def Q45:SC:=.reg [cJ 95 .add 31 1,mJ 31 95] [3,29,30,31]
def Q46:SC:=.seq (.block 1 (sR (mJ 33 31::iJ 34 3 29 31::tJ 35 3 34::eI 6 (.alloc [.int .i64 0,.int .i64 0,.sl true 5 []])::Qku) [3,5,6,29,30,31] Q44)) Q45
def Q0w:SC:=sR [bJ 32 .lss 31 30] [3,29,30,31,32] (cX 32 0 Q46)
def Q47:SC:=sR [fB 2 true] [2] .ret
def Q48:SC:=.seq (sR [fJ 28 0 3,lJ 29 28,nJ 30 29,zJ 31 0] [3,29,30,31] (bL 0 Q0w)) Q47
def Q49:SC:=.seq (sR (mJ 16 4::tJ 17 1 3::aJ 18 PH [.t 17]::Tq) [3,4,23] Q71) Q48
def Q5a:SC:=sR (tJ 14 1 3::aJ 15 SD [.t 14]::Qks) [3,4] Q49
def Q5b:SC:=sR (mJ 12 0::aJ 13 Tu [.t 12]::Qkr) [3] Q5a
def Q5c:SC:=.seq (sR [mJ 9 0,nJ 10 9,cJ 11 .gtr 10 1048576] [0,11] Q70) Q5b
def Qamm:SC:=sR [fB 2 false] [0] Q5c
abbrev SP:List RS:=[.tmp 2]
theorem Qagd:mFn prog Qo4 1 96 Qamm SP=true:=ZH
end Go.AE.Y
namespace Go.AE.Y
attribute [local go_sem] cond_true cond_false Bool.not_true Bool.not_false
attribute [local instance] Classical.propDecidable
open Go.Proofs.Tryz
variable {H H0:Heap}{K:V->Heap->Prop}{E B Lg:List (Nat×Obj)}{q:CodeD}
theorem Qa75 {f v:Bool}{bs:List Bool}(hK:∀r:Int,decide (0<=r)=bs.contains v->K (.c (.int .i64 r)) H) :
  Qv prog Th [.c (.sl f 1 (Qm bs)),.c (.bool v)] H K:=by
 refine Qc Ab Qage ?_;refine Wg ?_;simp only[go_sem,Qu];intro hl;simp only[LIM]at hl;refine Qg (Qd (Qs (λm e1 H1=>∃(i:Nat),m=bs.length-i/\i<=bs.length/\H1=H/\v∉bs.take i/\e1=[(0,.c (.sl f 1 (Qm bs))),(1,.c (.bool v)),(7,.c (.int .i64 bs.length)),(8,.c (.int .i64 i))]) bs.length ?_ ?_))
 ·exact⟨0,ZD,ZD,rfl,ZF,rfl⟩
 ·rintro m e1 H1 ⟨i,hm,hi,rfl,bR,rfl⟩;refine Za ?_;refine Wv ?_ ?_
  ·intro hc;have ae:i<bs.length:=ZG
   have bQ:bs.getD i false=bs[i]:=by simp[Jb,ae]
   refine Wb ?_;refine Wj ?_;simp only[go_sem,ae,Qu,Qx _ _ ae];refine Ww ?_ ?_
   ·intro ao;have hv:v=bs[i]:=Zay;refine Za ?_;refine Zm ?_;refine hK _ ?_;have:v∈bs:=(by rw[hv];exact Jc ae);rw[J5.2 this];simp
   ·intro ao;have hv:¬v=bs[i]:=Zay;refine Wl ?_;refine⟨Qo,bs.length-(i+1),ZD,i+1,rfl,ZD,?_,rfl⟩;rw[Jk ae];simp only[Jp,Ja,not_or];exact⟨bR,hv⟩
  ·intro hc;have aY:bs.length<=i:=ZG
   rw[Jg aY]at bR;refine Wn ?_;refine hK _ ?_;have:bs.contains v=false:=by
    cases hc:bs.contains v with
    |false=>rfl
    |true=>exact absurd (J5.1 hc) bR
   rw[this];rfl
theorem Qanf {f v:Bool}{bs:List Bool}(hK:K (.c (.bool (bs.contains v))) H):Qv prog T6 [.c (.sl f 1 (Qm bs)),.c (.bool v)] H K:=by
 refine Qc Ab Q1o ?_;refine Wd ?_;refine Qa75 λr hr=>?_;simp only[go_sem,Qgn];refine Zc ?_;rw[hr];exact hK
theorem Qaze {fl:Bool}{l:List CodeD}{f:Nat}{caps:List C}{p:CodeD->Bool}
  (hf:∀(x:CodeD) (H1:Heap) (K':V->Heap->Prop),x∈l->(∀H2,Upd H1 H2 []->K' (.c (.bool (p x))) H2)->Qv prog f ([.ag x.cells]++caps.map .c) H1 K')
  (hK:∀(r:Int) (H':Heap),Upd H H' []->decide (0<=r)=l.any p->K (.c (.int .i64 r)) H') :
  Qv prog TD [.c (.sl fl 3 (Qw l)),.c (.fn f caps)] H K:=by
 refine Q0 ?_;refine Qc Ab Qzg ?_;refine Wg ?_;simp only[go_sem,Q6];intro hl;simp only[LIM]at hl;refine Qg (Qd (Qs (λm e1 H1=>∃(i:Nat),m=l.length-i/\i<=l.length/\Kn H H1 [] []/\(∀x∈l.take i,p x=false)/\e1=[(0,.c (.sl fl 3 (Qw l))),(1,.c (.fn f caps)),(7,.c (.int .i64 l.length)),(8,.c (.int .i64 i))]) l.length ?_ ?_))
 ·exact⟨0,ZD,ZD,Kn.ar H,ZF,rfl⟩
 ·rintro m e1 H1 ⟨i,hm,hi,kn,bg,rfl⟩;refine Za ?_;refine Wv ?_ ?_
  ·intro hc;have ae:i<l.length:=ZG
   have hh:=hf l[i];rw[CodeD.cells]at hh;refine Wb ?_;refine Wj ?_;simp only[go_sem,ae,Q6,Bd _ _ ae,CodeD.cells];refine hh _ _ (Jc ae) λH2 hu=>?_;have kn:=kn.aw hu;refine Ww ?_ ?_
   ·intro ao;refine Za ?_;refine Zm ?_;refine⟨_,.c _ _ (Qi rfl),hK _ _ kn.fin ?_⟩;have:l.any p=true:=Ja3.2 ⟨_,Jc ae,ao⟩;rw[this];simp
   ·intro ao;refine Wl ?_;refine⟨Qo,l.length-(i+1),ZD,i+1,rfl,ZD,kn,?_,rfl⟩;rw[Jk ae];intro x hx;rcases Jp.1 hx with hx|hx
    ·exact bg x hx
    ·simp only[Ja]at hx;subst hx;exact ao
  ·intro hc;have aY:l.length<=i:=ZG
   rw[Jg aY]at bg;refine Wn ?_;refine⟨_,.c _ _ (Qi rfl),hK _ _ kn.fin ?_⟩;have:l.any p=false:=by
    cases hc:l.any p with
    |false=>rfl
    |true=>obtain⟨x,hx,hp⟩:=Ja3.1 hc;rw[bg x hx]at hp;exact absurd hp ZF
   rw[this];rfl
theorem Qafb {fl:Bool}{l:List CodeD}{f:Nat}{caps:List C}{p:CodeD->Bool}
  (hf:∀(x:CodeD) (H1:Heap) (K':V->Heap->Prop),x∈l->(∀H2,Upd H1 H2 []->K' (.c (.bool (p x))) H2)->Qv prog f ([.ag x.cells]++caps.map .c) H1 K')
  (hK:∀(H':Heap),Upd H H' []->K (.c (.bool (l.any p))) H') :
  Qv prog TH [.c (.sl fl 3 (Qw l)),.c (.fn f caps)] H K:=by
 refine Qc Ab Qqx ?_;refine Wd ?_;refine Qaze hf λr H' hu hr=>?_;simp only[go_sem,Qd7];refine Zc ?_;rw[hr];exact hK _ hu
set_option maxHeartbeats 1000000 in
theorem Qbh6 {p rg:Int}{fl f2:Bool}(ho:q.ok){v i:Int}{b xa xd x7 xb xi:Nat}(ez:0<=v)(ey:v<q.ab)(hb:b<q.blocks.length)(ha:H xa=.st [.sl f2 1 (Bt q)])
  (hd:H xd=.st [.pp (domC p rg fl (Ql q.blocks) (nxN (gnx q)))]) (h7:H x7=.st [.fn DZ [.pp q.cells,.ptr xa 0,.ptr xd 0]]) (lD:H xb=.st [.int .i64 b]) (hxi:H xi=.st [.int .i64 i])
  (hK:K (.c (.bool (!decide (Rul q v b i)))) H) :
  Qv prog T7 [.c (.int .i64 v),.c (.ptr x7 0),.c (.ptr xb 0),.c (.ptr xi 0)] H K:=by
 refine Qc Ab Q1n ?_;refine Za ?_;refine Zo h7 lD hxi ?_;refine FH ho ez ey hb ha hd ?_;simp only[go_sem,Qgm];refine Zc ?_;exact hK
noncomputable def sgL (q:CodeD)(x3 x4 x7:Nat):List (Nat×Obj):=
 [(x3,.st [.pp (domC q.params q.ab false (Ql q.blocks) (nxN (gnx q)))]),(x4,.st [.sl false 1 (Bt q)]),(x7,.st [.fn DZ [.pp q.cells,.ptr x4 0,.ptr x3 0]])]
set_option maxHeartbeats 8000000 in
theorem Qbqt {b x3 x4 x7:Nat}{Q:X->Env->Heap->Prop}{e:Env}(ho:q.ok)(hb:b<q.blocks.length)(kn:Kn H0 H [] (sgL q x3 x4 x7))
  (l1:lk 1 e=.c (.pp q.cells)) (l7:lk 7 e=.c (.ptr x7 0)) (l50:lk 50 e=.c (.sl false 5 (Ql q.blocks))) (l51:lk 51 e=.c (.int .i64 q.blocks.length)) (l52:lk 52 e=.c (.int .i64 b))
  (hf:∀e' H' L,¬BSgl q b->Kn H0 H' [] L->lk 2 e'=.c (.bool false)->Q .ret e' H')
  (hn:∀e' H',BSgl q b->Kn H0 H' [] (sgL q x3 x4 x7)->lk 1 e'=.c (.pp q.cells)->lk 7 e'=.c (.ptr x7 0)->lk 50 e'=.c (.sl false 5 (Ql q.blocks))->lk 51 e'=.c (.int .i64 q.blocks.length)->lk 52 e'=.c (.int .i64 ((b+1:Nat):Int))->Q .nrm e' H') :
  Ad prog Qki Q e H:=by
 have bH:=ho.r0;have dC:=ho.r1;have bf:=ho.b1;obtain⟨y,hy⟩:∃y,q.blocks[b]=y:=⟨_,rfl⟩;have cW:Ae q b=y:=by rw[AG hb,hy]
 have bu:=ho.bs b hb;have fg:=ho.il b hb;rw[hy]at bu fg;have kR:∀e' H',BSgl q b->Kn H0 H' [] (sgL q x3 x4 x7)->lk 1 e'=.c (.pp q.cells)->lk 7 e'=.c (.ptr x7 0)->lk 50 e'=.c (.sl false 5 (Ql q.blocks))->lk 51 e'=.c (.int .i64 q.blocks.length)->lk 52 e'=.c (.int .i64 b)->Ad prog Qkh Q e' H':=by
  intro e' H' hB kn l1 l7 l50 l51 l52;refine Qp ?_;simp only[go_sem,l1,l7,l50,l51,l52];exact⟨Qo,hn _ _ hB kn rfl rfl rfl rfl rfl⟩
 refine Wh ?_;simp only[go_sem,l1,l7,l50,l51,l52,hb,Qj,Q9 _ _ hb,BlkD.cells,hy];intro x8 aS H3 h3;have kn:=kn.al aS h3;simp only[go_sem,Qi1];intro x9 i6 H4 h4;have kn:=kn.al i6 h4;have h8:=kn.l 3 rfl;simp only[go_sem,Qi0,h8];intro H5 h5;have kn:=kn.aB 3 rfl h5;have h9:=kn.l 4 rfl;simp only[go_sem,Qiz,h9];intro H6 h6;have kn:Kn H0 H6 [] (sgL q x3 x4 x7++[(x8,.st [.int .i64 b]),(x9,.st [.sl false 2 (Q8 y.aa),.sl false 4 (Af y.ins),.int .i64 y.jump,.int .i64 y.on,.sl false 1 (Qb y.next)])]):=kn.aB 4 rfl h6;clear h3 h4 h5 h6 h8 h9 aS i6;have h8:=kn.l 3 rfl;refine Qa ?_;simp only[go_sem,l1,l7,l50,l51,l52,h8,CodeD.cells];refine FD (rows:=Ql q.blocks) (nx:=gnx q) (Cs _ q false) λfp H7 hu=>?_;have kn:=kn.aw hu;have qk:DK (gnx q) (b:Int) (Ql q.blocks).length=Qz (gnx q) (b:Int) q.blocks.length:=by
  rw[Qj,DK,decide_eq_true (Jae b),decide_eq_true (show (b:Int)<=(q.blocks.length:Int)-1 by omega)];rfl
 rw[qk];obtain⟨P,hP⟩:∃P,Qz (gnx q) (b:Int) q.blocks.length=P:=⟨_,rfl⟩;have pU:P.length<=q.blocks.length:=by rw[<-hP];exact Ct _ _ _
 simp only[go_sem,Qi2,hP];clear h8 hu;have h9:=kn.l 4 rfl;refine Q3 (Qa ?_);simp only[go_sem,h9,Q5];try intro _
 obtain⟨X,hX⟩:∃X,sgL q x3 x4 x7++[(x8,.st [.int .i64 b]),(x9,.st [.sl false 2 (Q8 y.aa),.sl false 4 (Af y.ins),.int .i64 y.jump,.int .i64 y.on,.sl false 1 (Qb y.next)])]=X:=⟨_,rfl⟩;refine Qg (Qd (Qs (λm e1 H1=>∃(i:Nat),m=y.aa.length-i/\i<=y.aa.length/\Kn H0 H1 [] X/\
  (∀p∈y.aa.take i,∀k (hk:k<P.length),Rul q (p.args.getD k 0) (P[k]).toNat (Ae q (P[k]).toNat).ins.length)/\
  lk 1 e1=.c (.pp q.cells)/\lk 7 e1=.c (.ptr x7 0)/\lk 8 e1=.c (.ptr x8 0)/\lk 9 e1=.c (.ptr x9 0)/\lk 10 e1=.c (.sl fp 1 (Qb P))/\lk 50 e1=.c (.sl false 5 (Ql q.blocks))/\lk 51 e1=.c (.int .i64 q.blocks.length)/\lk 52 e1=.c (.int .i64 b)/\
  lk 61 e1=.c (.sl false 2 (Q8 y.aa))/\lk 62 e1=.c (.int .i64 y.aa.length)/\lk 63 e1=.c (.int .i64 i)) y.aa.length ?_ ?_))
 ·rw[hX]at kn;exact⟨0,ZD,ZD,kn,ZF,rfl,rfl,rfl,rfl,rfl,rfl,rfl,rfl,rfl,rfl,rfl⟩
 ·clear kn l1 l7 l50 l51 l52 h9;rintro m e1 H8 ⟨i,hm,hi,kn,bg,l1,l7,l8,l9,l10,l50,l51,l52,l61,l62,l63⟩;refine Qa ?_;simp only[go_sem,l1,l7,l8,l9,l10,l50,l51,l52,l61,l62,l63];refine Wv ?_ ?_
  ·intro ao;have aI:i<y.aa.length:=ZI
   obtain⟨p,hp⟩:∃p,y.aa[i]=p:=⟨_,rfl⟩;have dI:p∈y.aa:=ZaD
   have jx:p.args.length=P.length:=by rw[<-hP];exact bu.pal p dI
   refine Ze ?_
   refine Wh ?_;simp only[go_sem,l1,l7,l8,l9,l10,l50,l51,l52,l61,l62,l63,aI,Q5,Br _ _ aI,PhiD.cells,hp];intro x12 eF H9 h9;have kn:=kn.al eF h9;have f0:H9 x12=.st [.int .i64 0,.sl true 1 []]:=(kn.get (x12,_) ZF).1;simp only[go_sem,Qi3,f0];intro H10 dg;have kn:Kn H0 H10 [] (X++[(x12,.st [.int .i64 p.to,.sl false 1 (Qb p.args)])]):=by
    have:=kn.aB X.length (x:=x12) (o:=.st [.int .i64 0,.sl true 1 []]) ZF dg;simpa using this
   clear f0;have f0:H10 x12=.st [.int .i64 p.to,.sl false 1 (Qb p.args)]:=kn.lm ZF;refine Qa ?_;simp only[go_sem,f0,Qe];try intro _
   have kn:=Kn.drop (A:=X) kn;refine Qd (Qs (λm e1 H1=>∃(k:Nat),m=P.length-k/\k<=P.length/\Kn H0 H1 [] X/\
    (∀k' (hk:k'<P.length),k'<k->Rul q (p.args.getD k' 0) (P[k']).toNat (Ae q (P[k']).toNat).ins.length)/\
    lk 1 e1=.c (.pp q.cells)/\lk 7 e1=.c (.ptr x7 0)/\lk 8 e1=.c (.ptr x8 0)/\lk 9 e1=.c (.ptr x9 0)/\lk 10 e1=.c (.sl fp 1 (Qb P))/\lk 50 e1=.c (.sl false 5 (Ql q.blocks))/\lk 51 e1=.c (.int .i64 q.blocks.length)/\lk 52 e1=.c (.int .i64 b)/\
    lk 61 e1=.c (.sl false 2 (Q8 y.aa))/\lk 62 e1=.c (.int .i64 y.aa.length)/\lk 63 e1=.c (.int .i64 i)/\lk 68 e1=.c (.sl false 1 (Qb p.args))/\lk 69 e1=.c (.int .i64 p.args.length)/\lk 70 e1=.c (.int .i64 k)) P.length ?_ ?_)
   ·exact⟨0,ZD,ZD,kn,λ_ _ h=>absurd h ZD,rfl,rfl,rfl,rfl,rfl,rfl,rfl,rfl,rfl,rfl,rfl,rfl,rfl,rfl⟩
   ·clear kn l1 l7 l8 l9 l10 l50 l51 l52 l61 l62 l63 f0 h9 dg;rintro m3 e3 H11 ⟨k,nF,hk,kn,dc,l1,l7,l8,l9,l10,l50,l51,l52,l61,l62,l63,l68,l69,l70⟩;refine Qa ?_;simp only[go_sem,l1,l7,l8,l9,l10,l50,l51,l52,l61,l62,l63,l68,l69,l70];refine Wv ?_ ?_
    ·intro bk;have dK:k<p.args.length:=ZM;have aV:k<P.length:=ZD;obtain⟨c,sN,bW⟩:∃c:Nat,P[k]=(c:Int)/\c<q.blocks.length:=by
      have:P[k]∈Qz (gnx q) (b:Int) q.blocks.length:=(by rw[hP];exact Jc aV);simp only[Qz,Jl,Jad,Jw]at this;obtain⟨c,⟨hc,_⟩,e⟩:=this;exact⟨c,e.symm,hc⟩
     have wZ:P.getD k 0=(c:Int):=(by simp[Jb,aV,sN]);obtain⟨z,hz⟩:∃z,q.blocks[c]=z:=⟨_,rfl⟩;have tN:Ae q c=z:=(by rw[AG bW,hz]);obtain⟨v,hv⟩:∃v,p.args[k]=v:=⟨_,rfl⟩;obtain⟨ez,ey⟩:=bu.pargs p dI _ (Jc dK);rw[hv]at ez ey;have iZ:p.args.getD k 0=v:=(by simp[Jb,dK,hv]);have h3:H11 x3=.st [.pp (domC q.params q.ab false (Ql q.blocks) (nxN (gnx q)))]:=kn.lm ZT;have h4:H11 x4=.st [.sl false 1 (Bt q)]:=kn.lm ZT;have h7:H11 x7=.st [.fn DZ [.pp q.cells,.ptr x4 0,.ptr x3 0]]:=kn.lm ZT;refine Ze ?_
     refine Wh ?_;simp only[go_sem,l1,l7,l8,l9,l10,l50,l51,l52,l61,l62,l63,l68,l69,l70,dK,Qe,Qn _ _ dK,iZ];refine Aj ?_;simp only[go_sem,h7,aV,Qe,Qn _ _ aV,wZ,bW,CodeD.cells,Qj,Q9 _ _ bW,BlkD.cells,hz,A0,Jae,Jr];refine FH ho ez ey bW h4 h3 ?_;simp only[go_sem,Qi4];have sL:Rul q (p.args.getD k 0) (P[k]).toNat (Ae q (P[k]).toNat).ins.length↔Rul q v c z.ins.length:=(by rw[iZ,sN,Jr,tN]);refine Ww ?_ ?_
     ·intro bN;have pb:¬Rul q v c z.ins.length:=ZQ;refine Za ?_;refine Zu ?_;refine hf _ _ _ (λh=>absurd (sL.1 ?_) pb) kn ZE;have:=h.ph p (by rw[cW];exact dI) k (by rw[hP];exact aV);simp only[hP]at this;exact this
     ·intro bN;have pb:Rul q v c z.ins.length:=ZQ;refine Ze ?_
      refine Qp ?_;simp only[go_sem,l1,l7,l8,l9,l10,l50,l51,l52,l61,l62,l63,l68,l69,l70];refine⟨Qo,?_⟩;show ∃m,_;refine⟨P.length-(k+1),ZD,k+1,rfl,ZD,kn,λk' fu ae=>?_,rfl,rfl,rfl,rfl,rfl,rfl,rfl,rfl,rfl,rfl,rfl,rfl,rfl,rfl⟩;rcases J6 k' k with h|h
      ·exact dc k' fu h
      ·have:k'=k:=ZD;subst this;exact sL.2 pb
    ·intro bk;have aY:P.length<=k:=(by rw[<-jx];simpa using bk);refine Zs ?_;refine Qp ?_;simp only[go_sem,l1,l7,l8,l9,l10,l50,l51,l52,l61,l62,l63];refine⟨Qo,?_⟩;show ∃m,_;refine⟨y.aa.length-(i+1),ZD,i+1,rfl,ZD,kn,λp' bX k' fu=>?_,rfl,rfl,rfl,rfl,rfl,rfl,rfl,rfl,rfl,rfl,rfl⟩;rw[Jk aI,hp]at bX;rcases Jp.1 bX with h|h
     ·exact bg p' h k' fu
     ·rw[Ja]at h;rw[h];exact dc k' fu ZD
  ·intro ao;have aY:y.aa.length<=i:=ZI
   rw[Jg aY]at bg;have h9:H8 x9=.st [.sl false 2 (Q8 y.aa),.sl false 4 (Af y.ins),.int .i64 y.jump,.int .i64 y.on,.sl false 1 (Qb y.next)]:=kn.lm ZT;refine Zs ?_;refine Q3 (Qa ?_);simp only[go_sem,l1,l7,l8,l9,l50,l51,l52,h9,A0];try intro _
   refine Qg (Qd (Qs (λm e1 H1=>∃(j:Nat),m=y.ins.length-j/\j<=y.ins.length/\Kn H0 H1 [] X/\
    (∀i (hi:i<y.ins.length),i<j->∀v∈(y.ins[i]).args,Rul q v b i)/\lk 1 e1=.c (.pp q.cells)/\lk 7 e1=.c (.ptr x7 0)/\lk 8 e1=.c (.ptr x8 0)/\lk 9 e1=.c (.ptr x9 0)/\lk 50 e1=.c (.sl false 5 (Ql q.blocks))/\lk 51 e1=.c (.int .i64 q.blocks.length)/\lk 52 e1=.c (.int .i64 b)/\
    lk 96 e1=.c (.sl false 4 (Af y.ins))/\lk 97 e1=.c (.int .i64 y.ins.length)/\lk 98 e1=.c (.int .i64 j)) y.ins.length ?_ ?_))
   ·exact⟨0,ZD,ZD,kn,λ_ _ h=>absurd h ZD,rfl,rfl,rfl,rfl,rfl,rfl,rfl,rfl,rfl,rfl⟩
   ·clear kn l1 l7 l8 l9 l10 l50 l51 l52 l61 l62 l63 h9;rintro m3 e3 H9 ⟨j,nF,hj,kn,ib,l1,l7,l8,l9,l50,l51,l52,l96,l97,l98⟩;refine Qa ?_;simp only[go_sem,l1,l7,l8,l9,l50,l51,l52,l96,l97,l98];refine Wv ?_ ?_
    ·intro bk;have aV:j<y.ins.length:=ZM;obtain⟨w,hw⟩:∃w,y.ins[j]=w:=⟨_,rfl⟩;have nr:w∈y.ins:=ZaZ;refine Ze ?_
     refine Wh ?_;simp only[go_sem,l1,l7,l8,l9,l50,l51,l52,l96,l97,l98,aV,A0,BR _ _ aV,InsD.cells,hw];intro x15 qG G1 g1;have kn:=kn.al qG g1;simp only[go_sem,Qi7];intro x16 qF G2 g2;have kn:=kn.al qF g2;have nZ:G2 x15=.st [.int .i64 0]:=kn.lm ZF;simp only[go_sem,Qi6,nZ];intro G3 g3;have kn:Kn H0 G3 [] (X++[(x15,.st [.int .i64 j]),(x16,.st [.int .i64 0,.int .i64 0,.sl true 1 [],.int .i64 0])]):=by
      have:=kn.aB X.length (x:=x15) (o:=.st [.int .i64 0]) ZF g3;simpa using this
     have nl:G3 x16=.st [.int .i64 0,.int .i64 0,.sl true 1 [],.int .i64 0]:=kn.lm ZF;simp only[go_sem,Qi5,nl];intro G4 g4;have kn:Kn H0 G4 [] (X++[(x15,.st [.int .i64 j]),(x16,.st [.int .i64 w.op,.int .i64 w.to,.sl false 1 (Qb w.args),.int .i64 w.n])]):=by
      have:=kn.aB (X.length+1) (x:=x16) (o:=.st [.int .i64 0,.int .i64 0,.sl true 1 [],.int .i64 0]) ZF g4;simpa using this
     clear g1 g2 g3 g4 nZ nl qG qF;have nZ:G4 x15=.st [.int .i64 j]:=kn.lm ZF;have nl:G4 x16=.st [.int .i64 w.op,.int .i64 w.to,.sl false 1 (Qb w.args),.int .i64 w.n]:=kn.lm ZF;have h3:G4 x3=.st [.pp (domC q.params q.ab false (Ql q.blocks) (nxN (gnx q)))]:=kn.lm ZT;have h4:G4 x4=.st [.sl false 1 (Bt q)]:=kn.lm ZT;have h7:G4 x7=.st [.fn DZ [.pp q.cells,.ptr x4 0,.ptr x3 0]]:=kn.lm ZT;have h8:G4 x8=.st [.int .i64 b]:=kn.lm ZT;have kn:=Kn.drop (A:=X) kn;refine Zh nl ?_;refine Hu (p:=λv=>!decide (Rul q v b j)) (.mk' _ _ _ _) rfl (λv K' hv jH=>?_) ?_
     ·obtain⟨ez,ey⟩:=bu.args w nr v hv;exact Qbh6 ho ez ey hb h4 h3 h7 h8 nZ jH
     refine Ww ?_ ?_
     ·intro bN;have bN:w.args.any (λv=>!decide (Rul q v b j))=true:=bN;refine Za ?_;refine Zu ?_;refine hf _ _ _ (λh=>?_) kn ZE;obtain⟨v,hv,qM⟩:=Ja3.1 bN;have:=h.ins j ZaT v (by simp only[cW,hw];exact hv);simp[this]at qM
     ·intro bN;have bN:w.args.any (λv=>!decide (Rul q v b j))=false:=bN;refine Ze ?_
      refine Qp ?_;simp only[go_sem,l1,l7,l8,l9,l50,l51,l52,l96,l97,l98];refine⟨Qo,?_⟩;show ∃m,_;refine⟨y.ins.length-(j+1),ZD,j+1,rfl,ZD,kn,λi' bS ae=>?_,rfl,rfl,rfl,rfl,rfl,rfl,rfl,rfl,rfl,rfl⟩;rcases J6 i' j with h|h
      ·exact ib i' bS h
      ·have:i'=j:=ZD;subst this;rw[hw];intro v hv;have:=(List.any_eq_false.1 bN) v hv;simpa using this
    ·intro bk;have p9:y.ins.length<=j:=ZM;have h3:H9 x3=.st [.pp (domC q.params q.ab false (Ql q.blocks) (nxN (gnx q)))]:=kn.lm ZT;have h4:H9 x4=.st [.sl false 1 (Bt q)]:=kn.lm ZT;have h7:H9 x7=.st [.fn DZ [.pp q.cells,.ptr x4 0,.ptr x3 0]]:=kn.lm ZT;have h8:H9 x8=.st [.int .i64 b]:=kn.lm ZT;have h9:H9 x9=.st [.sl false 2 (Q8 y.aa),.sl false 4 (Af y.ins),.int .i64 y.jump,.int .i64 y.on,.sl false 1 (Qb y.next)]:=kn.lm ZT;rw[<-hX]at kn;have kn:=Kn.drop (A:=sgL q x3 x4 x7) kn;have xc:∀p∈y.aa,∀k (hk:k<(Qz (gnx q) (b:Int) q.blocks.length).length),Rul q (p.args.getD k 0) ((Qz (gnx q) (b:Int) q.blocks.length)[k]).toNat (Ae q ((Qz (gnx q) (b:Int) q.blocks.length)[k]).toNat).ins.length:=by
      simp only[hP];exact bg
     have fin:(¬y.jump=1->Rul q y.on b y.ins.length)↔BSgl q b:=by
      constructor
      ·intro h;exact⟨by rw[cW];exact xc,by simp only[cW];exact λi hi=>ib i hi ZD,by rw[cW];exact h⟩
      ·intro h;have:=h.on;rw[cW]at this;exact this
     refine Zs ?_;refine Qa ?_;simp only[go_sem,l1,l7,l8,l9,l50,l51,l52,h9];refine FZ ?_;by_cases jP:y.jump=1
     ·have mN:(decide (y.jump=2) || decide (y.jump=3))=false:=(by simp[jP]);simp only[go_sem,T1,T2,l7,l8,l9,h7,h8,h9,mN,A0];refine Qf rfl (λh=>by cases h) (λ_=>?_);refine Ze ?_
      exact kR _ _ (fin.1 λh=>absurd jP h) kn (by simp[lk,l1]) (by simp[lk,l7]) (by simp[lk,l50]) (by simp[lk,l51]) (by simp[lk,l52])
     ·have mN:(decide (y.jump=2) || decide (y.jump=3))=true:=by
       rcases bu.jmp with h|h|h
       ·exact absurd h jP
       ·simp[h]
       ·simp[h]
      obtain⟨ez,ey⟩:=bu.on jP;simp only[go_sem,T1,l7,l8,l9,h7,h8,h9,mN,A0];try intro _
      refine FH ho ez ey hb h4 h3 ?_;simp only[go_sem,T2,mN];refine Ww ?_ ?_
      ·intro bN;have pb:¬Rul q y.on b y.ins.length:=ZQ;refine Za ?_;refine Zu ?_;exact hf _ _ _ (λh=>pb (fin.2 h jP)) kn ZE
      ·intro bN;have pb:Rul q y.on b y.ins.length:=ZQ;refine Ze ?_
       exact kR _ _ (fin.1 λ_=>pb) kn (by simp[lk,l1]) (by simp[lk,l7]) (by simp[lk,l50]) (by simp[lk,l51]) (by simp[lk,l52])
end Go.AE.Y
namespace Go.AE.Y
attribute [local go_sem] cond_true cond_false Bool.not_true Bool.not_false
attribute [local instance] Classical.propDecidable
open Go.Proofs.Tryz
variable {H H0:Heap}{K:V->Heap->Prop}{E B Lg:List (Nat×Obj)}{q:CodeD}{cs:List CodeD}
theorem inL_no {n:Nat}{g:Nat->List Nat}:(inL n g).contains false=true↔¬∀b,b<n->Al g (-1) b=true:=by
 rw[J5,inL,Jl];constructor
 ·rintro⟨x,hx,h⟩ bg;rw[bg x (Jw.1 hx)]at h;cases h
 ·intro h;refine J7 λhn=>h λb hb=>?_
  cases hc:Al g (-1) b with
  |true=>rfl
  |false=>exact absurd ⟨b,Jw.2 hb,hc⟩ hn
set_option maxHeartbeats 8000000 in
theorem Qa7s (ho:q.ok)(hK:∀H',Upd H H' []->K (.c (.bool (decide (SglP q)))) H'):Qv prog Ti [.ag q.cells] H K:=by
 have bH:=ho.r0;have dC:=ho.r1;have bf:=ho.b1;obtain⟨R,hR⟩:∃R:Nat,q.ab.toNat=R:=⟨_,rfl⟩;have lz:q.ab=(R:Int):=ZD
 have kn:=Kn.ar H;refine Q0 ?_;have retf:∀(v:Bool) (e:Env) (H':Heap) (L:List (Nat×Obj)),(v=true↔SglP q)->Kn H H' [] L->lk 2 e=.c (.bool v)->Q4 PM (unK H K) .ret e H':=by
  intro v e H' L hv kn h3;simp only[go_sem,Q4,Aa,Ja,forall_eq,RS.op,h3];rw[show v=decide (SglP q)by rw[Jaa,hv];simp];exact⟨_,.c _ _ (Qi rfl),hK _ kn.fin⟩
 refine Qc Ab Qagc ?_;refine Zz ?_;refine ZB ?_;refine Qbrn (GC ho.gd) (λhfb=>absurd hfb (by rw[Qj,ho.fitB];simp)) λ_ H1 hu=>?_;have kn:=kn.aw hu;simp only[go_sem,Qkn];refine KB ho λH2 hu=>?_;have kn:=kn.aw hu;simp only[go_sem,Qkm];intro x3 aF H3 h3;have kn:=kn.al aF h3;simp only[go_sem,Qkl];intro x4 bO H4 h4;have kn:=kn.al bO h4;have g3:=kn.l 0 rfl;simp only[go_sem,Qkk,g3];intro H5 h5;have kn:=kn.aB 0 rfl h5;have g4:=kn.l 1 rfl;simp only[go_sem,Qkj,g4];intro H6 h6;have kn:Kn H H6 [] [(x3,.st [.pp (domC q.params q.ab false (Ql q.blocks) (nxN (gnx q)))]),(x4,.st [.sl false 1 (Bt q)])]:=kn.aB 1 rfl h6;clear h3 h4 h5 h6 aF bO g3 g4 hu;have g3:=kn.l 0 rfl;refine Q3 (Qa ?_);simp only[go_sem,g3,domC,C.isPtr];refine Qanf ?_;simp only[go_sem];refine Wv ?_ ?_
 ·intro hc;have hc:=inL_no.1 hc;rw[Qj]at hc;refine Za ?_;refine Zu ?_;exact retf false _ _ _ ⟨nofun,λh=>absurd h.re hc⟩ kn ZE
 intro hc;have rf:∀b,b<q.blocks.length->Al (nxN (gnx q)) (-1) b=true:=by
  refine J7 λhn=>?_;have:=inL_no.2 hn;rw[<-Qj q.blocks,hc]at this;cases this
 refine Ze ?_
 have g4:=kn.l 1 rfl;refine Q3 (Qa ?_);simp only[go_sem,g4,DP];try intro _
 refine Qg (Qd (Qs (λm e1 H1=>∃(r:Nat),m=R-r/\r<=R/\Kn H H1 [] [(x3,.st [.pp (domC q.params q.ab false (Ql q.blocks) (nxN (gnx q)))]),(x4,.st [.sl false 1 (Bt q)])]/\
  (∀r',r'<r->(Am q r').length<=1/\((r':Int)<q.params->Am q r'=[]))/\
  lk 1 e1=.c (.pp q.cells)/\lk 3 e1=.c (.ptr x3 0)/\lk 4 e1=.c (.ptr x4 0)/\lk 26 e1=.c (.sl false 1 (Bt q))/\lk 27 e1=.c (.int .i64 R)/\lk 28 e1=.c (.int .i64 r)) R ?_ ?_))
 ·rw[hR];exact⟨0,ZD,ZD,kn,λ_ h=>absurd h ZD,rfl,rfl,rfl,rfl,rfl,rfl⟩
 ·clear kn g3 g4;rintro m e1 H7 ⟨r,hm,iD,kn,fE,l1,l3,l4,l26,l27,l28⟩;refine Qa ?_;simp only[go_sem,l1,l3,l4,l26,l27,l28];refine Wv ?_ ?_
  ·intro ao;have ae:r<R:=ZI
   have jr:=Q8j (q:=q) (r:=r) ZD;have eA:=Ra ho r;refine Ze ?_
   refine Wh ?_;simp only[go_sem,l1,l3,l4,l26,l27,l28,DP,hR,ae,jr];have bad:(1<(Am q r).length\/((r:Int)<q.params/\0<(Am q r).length))->¬SglP q:=by
    intro h hS;obtain⟨h1,h2⟩:=hS.one r ZD;rcases h with h|⟨h3,h4⟩
    ·omega
    ·rw[h2 h3]at h4;simp at h4
   have retB:∀e2,¬SglP q->lk 2 e2=.c (.bool false)->Q4 PM (unK H K) .ret e2 H7:=λe2 hS l2=>retf false _ _ _ ⟨nofun,λh=>absurd h hS⟩ kn l2;have good:¬(1<(Am q r).length\/((r:Int)<q.params/\0<(Am q r).length))->∀r',r'<r+1->(Am q r').length<=1/\((r':Int)<q.params->Am q r'=[]):=by
    intro h r' bh;rcases J6 r' r with h2|h2
    ·exact fE r' h2
    ·have:r'=r:=ZD;subst this;refine⟨ZD,λh3=>Ja0.1 ?_⟩;omega
   by_cases mL:1<(Am q r).length
   ·have bT:decide ((1:Int)<((Am q r).length:Int))=true:=decide_eq_true ZD;refine Qa ?_;simp only[go_sem,CodeD.cells,C2,bT];try intro _
    refine Qf rfl (λ_=>?_) (λh=>by cases h);refine Za ?_;refine Zu ?_;exact retB _ (bad (.inl mL)) ZE
   ·have bT:decide ((1:Int)<((Am q r).length:Int))=false:=decide_eq_false ZD;by_cases hp:(r:Int)<q.params
    ·have cD:decide ((r:Int)<q.params)=true:=decide_eq_true hp;refine Qa ?_;simp only[go_sem,CodeD.cells,C2,bT,cD];try intro _
     refine Qf rfl (λbk=>?_) (λbk=>?_)
     ·have h0:0<(Am q r).length:=ZM;refine Za ?_;refine Zu ?_;exact retB _ (bad (.inr ⟨hp,h0⟩)) ZE
     ·have h0:¬0<(Am q r).length:=ZM;refine Ze ?_
      refine Qp ?_;simp only[go_sem,l1,l3,l4,l26,l27,l28];refine⟨Qo,?_⟩;show ∃m,_;exact⟨R-(r+1),ZD,r+1,rfl,ZD,kn,good ZD,rfl,rfl,rfl,rfl,rfl,rfl⟩
    ·have cD:decide ((r:Int)<q.params)=false:=decide_eq_false hp;refine Qa ?_;simp only[go_sem,CodeD.cells,C2,bT,cD];try intro _
     refine Qf rfl (λh=>by cases h) (λbk=>?_);refine Ze ?_
     refine Qp ?_;simp only[go_sem,l1,l3,l4,l26,l27,l28];refine⟨Qo,?_⟩;show ∃m,_;exact⟨R-(r+1),ZD,r+1,rfl,ZD,kn,good ZD,rfl,rfl,rfl,rfl,rfl,rfl⟩
  ·intro ao;have aY:R<=r:=ZI
   refine Zs ?_;refine Zo l1 l3 l4 ?_;intro x7 dW H8 h8;have kn:=kn.al dW h8;have g7:=kn.l 2 rfl;simp only[go_sem,Qiy,g7];intro H9 h9;have kn:Kn H H9 [] (sgL q x3 x4 x7):=kn.aB 2 rfl h9;clear h8 h9 dW g7;refine Q3 (Qa ?_);simp only[go_sem,CodeD.cells,Qj];try intro _
   refine Qg (Qd (Qs (λm e1 H1=>∃(b:Nat),m=q.blocks.length-b/\b<=q.blocks.length/\Kn H H1 [] (sgL q x3 x4 x7)/\(∀b',b'<b->BSgl q b')/\
    lk 1 e1=.c (.pp q.cells)/\lk 7 e1=.c (.ptr x7 0)/\lk 50 e1=.c (.sl false 5 (Ql q.blocks))/\lk 51 e1=.c (.int .i64 q.blocks.length)/\lk 52 e1=.c (.int .i64 b)) q.blocks.length ?_ ?_))
   ·exact⟨0,ZD,ZD,kn,λ_ h=>absurd h ZD,rfl,rfl,rfl,rfl,rfl⟩
   ·clear kn l1 l3 l4 l26 l27 l28;rintro m2 e2 H10 ⟨b,eK,bG,kn,hB,l1,l7,l50,l51,l52⟩;refine Qa ?_;simp only[go_sem,l1,l7,l50,l51,l52];refine Wv ?_ ?_
    ·intro bk;have ae:b<q.blocks.length:=ZM;refine Ze ?_
     refine Qbqt ho ae kn rfl rfl rfl rfl rfl (λe' H' L kR kn l2=>?_) (λe' H' hBb kn l1 l7 l50 l51 l52=>?_)
     ·exact retf false _ _ _ ⟨nofun,λh=>absurd ⟨h.ph b ae,h.ins b ae,h.on b ae⟩ kR⟩ kn l2
     ·show ∃m,_;refine⟨q.blocks.length-(b+1),ZD,b+1,rfl,ZD,kn,λb' aU=>?_,l1,l7,l50,l51,l52⟩;rcases J6 b' b with h|h
      ·exact hB b' h
      ·have:b'=b:=ZD;subst this;exact hBb
    ·intro bk;have j6:q.blocks.length<=b:=ZM;refine Zs ?_;refine Za ?_;refine Qk ?_;refine retf true _ _ _ ⟨λ_=>⟨rf,λr' bh=>fE r' ZD,λb' aU=>(hB b' ZD).ph,λb' aU=>(hB b' ZD).ins,λb' aU=>(hB b' ZD).on⟩,λ_=>rfl⟩ kn ZE
theorem Qbr6 (ho:q.ok)(hK:∀H',Upd H H' []->K (.c (.bool (!decide (SglP q)))) H'):Qv prog Tp [.ag q.cells] H K:=by
 refine Qc Ab Qab1 ?_;refine Zz ?_;refine Za ?_;refine Qa7s ho λH1 hu=>?_;simp only[go_sem,Qiq];refine Zc ?_;exact hK _ hu
set_option maxHeartbeats 2000000 in
theorem Qazz {fl:Bool}(aL:∀c∈cs,c.fits)(hK:∀H',Upd H H' []->K (.c (.bool (B2 cs))) H') :
  Qv prog SD [.ag [.sl fl 3 (Qw cs)]] H K:=by
 have kn:=Kn.ar H;refine Q0 ?_;have retf:∀(v:Bool) (e:Env) (H':Heap),v=B2 cs->Kn H H' [] []->lk 2 e=.c (.bool v)->Q4 Sd (unK H K) .ret e H':=by
  intro v e H' hv kn h3;simp only[go_sem,Q4,Aa,Ja,forall_eq,RS.op,h3];rw[hv];exact⟨_,.c _ _ (Qi rfl),hK _ kn.fin⟩
 refine Qc Ab Qauk ?_;refine Wd ?_;refine Q1h aL λH1 hu=>?_;have kn:=kn.aw hu
 cases hc:Bg cs with
 |false=>
  simp only[go_sem,Te,Tf];refine Qk ?_;exact retf false _ _ (by rw[B2,decide_eq_false (by rw[hc];simp)]) kn ZE
 |true=>
  simp only[go_sem,Te];refine Qafb (p:=λq=>!decide (SglP q)) (λq H2 K' hq jH=>?_) λH2 dx=>?_
  ·obtain⟨k,hk,rfl⟩:=Jy.1 hq;exact Qbr6 (CA hc hk) jH
  have kn:=kn.aw dx;simp only[go_sem,Tf];refine Qk ?_;refine retf _ _ _ ?_ kn rfl;rw[Jaa,B2,decide_eq_true_eq,Jaz,List.any_eq_false];constructor
  ·intro h;exact⟨hc,λk hk=>by simpa using h _ (Jc hk)⟩
  ·rintro⟨_,h⟩ q hq;obtain⟨k,hk,rfl⟩:=Jy.1 hq;simpa using h k hk
end Go.AE.Y
