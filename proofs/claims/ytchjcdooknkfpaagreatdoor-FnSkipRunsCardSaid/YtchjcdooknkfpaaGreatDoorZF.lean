/- Part 6 of the proof: the engine, codes, walks and plain laws, each named where it stands. -/
import Derived.Test.YtchjcdooknkfpaaGreatDoorZE
import Derived.WalkLawsBesides
import Derived.WalkSmall
open Nat (reduceEqDiff reduceAdd reduceLeDiff reduceLT)
set_option linter.unusedVariables false
set_option linter.unusedSimpArgs false
set_option maxRecDepth 4000
set_option maxHeartbeats 8000000
open Bool renaming and_eq_true->Ja6
open Classical renaming byContradiction->J2
open Int renaming toNat_natCast->Ja4,le_refl->Jbf
open List renaming mem_append_right->Ja,getD_eq_getElem?_getD->Jb,mem_singleton->Jc,getElem_mem->Jd,length_map->Je,take_of_length_le->Jf,getElem?_eq_getElem->Jg,mem_append_left->Jh,length_cons->Jk,length_nil->Jl,mem_flatMap->Jm,forall_mem_cons->Jn,mem_map->Jo,map_append->Jp,mem_append->Jq,perm_append_comm->Jr,getElem?_map->Jt,nodup_append->Ju,idxOf_lt_length_of_mem->Jv,mem_cons->Jw,not_mem_nil->Jy,take_succ_eq_append_getElem->Jz,eq_of_mem_replicate->J0,length_set->J1,mem_or_eq_of_mem_set->J3,getElem?_of_mem->J4,cons_append->J5,length_append->J6,nil_append->J7,mem_iff_getElem->J8,getD_cons_zero->J9,getElem_cons_succ->Jac,mem_range->Jad,ext_getElem->Jaf,getElem_set->Jag,map_cons->Jah,take_succ_cons->Jai,filter_append->Jaj,getElem?_eq_some_iff->Jak,append_assoc->Jal,flatMap_cons->Jam,getElem_map->Jan,getElem_cons_zero->Jao,contains_iff_mem->Jap,getElem?_eq_none->Jaq,getElem_set_self->Jar,length_filter_le->Jas,map_map->Jat,map_set->Jau,mem_filter->Jav,nodup_cons->Jaw,range_succ->Jax,eraseIdx_set_eq->Jay,mem_of_getElem?->Jaz,drop_zero->Ja1,getD_cons_succ->Ja2,map_eq_nil_iff->Ja3,map_nil->Ja5,take_length->Ja7,append_nil->Jba,take_zero->Jbb
open List.Nodup renaming length_le_of_subset->Jae
open Nat renaming le_refl->Ji,zero_add->Jj,add_sub_cancel_left->Jaa,mul_le_mul_right->Ja0,le_add_right->Ja8,zero_lt_succ->Ja9,le_trans->Jbc,sub_self->Jbd,sub_zero->Jbe
open Option renaming getD_some->Js,map_some->Jx
open Option.some renaming inj->Jab
namespace Go.AE.Y
open Go.Proofs.Tryz
def Qom:=dY 0x3f6a04e80f2d2
def Qakq:=dZ 0x874102f004112e3
def Qon:=dY 0x3f3ca08680f512
def Qakr:=dZ 0x874102f00411523
def Qaks:=dZ 0x102305b0059f1f0045803430
def Qakt:=dZ 0x190952f10241062648603f08610f018620f0128630f588600f08610f3808620f08610f018620f0128630f588600f08610f2808620f000634010020123580013802010020123580012802361bf1df1df20142 Qakr Qon Qaks
def Qadq:=dZ 0x9006833333f102400344050128025802f512 Qakt
def Qoo:=dY 0xed784e001
def Qop:=dY 0x3e884e001
def Qoq:=dY 0x3f6a0ee80f7d2
def Qadh:=dZ 0x874102f004117e3
def Qadi:=dZ 0x97ef2024102264ee03f0ee10f882ee20f0ee10f782ee20f0003f5a023e040f0e010f883e020f0e010f783e020f0003f5a023d240f0d210f881d220f0d210f781d220f0002340188020178026419f1 Qadh Qoq
def Qadj:=dZ 0x9002025101700432f089f04601436800138125f61 Qadi Qop
def Qadk:=dZ 0x202309d0069f1f0046805830
def Qadl:=dZ 0x190902024101700432f079f04601436800128125a610342 Qadj Qoo Qadk
def Q60:=dZ 0x9026857357f2024003440501281268053512 Qadl
def Qadn:=dZ 0x19095024202300f006112 Q60 [] CU
def Qado:=dZ 0x19095004102300f005112 Qadq [] Qadn
def Qadp:=dZ 0x19092ef0231022644e03f04e10f3844e20f04e10f2844e20f0003f5a0234040f04010f3834020f04010f2834020f0003f5a0233240f03210f3823220f03210f2823220f0003f7a0332040f02050f02010f3812020f02050f02010f2812020f0003340501380205016020924f12 Qakq Qom Qado
def Qazl:=dZ 0x902202f019190231 Qadp
theorem Qav1:mFn prog Qw9 2 127 Qazl BG=true:=ZF
def Qari:=dZ 0x874102f004111a3
def Qup:=dY 33489
def Qark:=dZ 0x102301a0059f1f0045802030
def Qarl:=dZ 0x19092df1024105236d0560153580013822056015358001282222bc0cf20142 KC Qup Qark
def Qaku:=dZ 0x900681f31ff102400344050128225801b512 Qarl
def Qarn:=dZ 0x19095004102300f005112 Qaku [] CU
def Qaro:=dZ 0x19091af023003f7a0332440f02450f02410f3822420f02450f02410f2822420f0003f5a0231640f01610f3811620f01610f2811620f00023401402013020615f12 Qari [] Qarn
def Qa9a:=dZ 0x902202f019190231 Qaro
theorem Qa2b:mFn prog Q1w 2 46 Qa9a BG=true:=ZF
def KB:=dZ 0x874102f004110a3
def Qbns:=dZ 0x874102f00411193
def Qbnt:=dZ 0x30030090059f1f0045800f30
def Qbnu:=dZ 0x190919f300400434010113580180010113580080119909f20142 Qbns [] Qbnt
def Qbf6:=dZ 0x900680e3830040024405080500b412 Qbnu
def Qbnw:=dZ 0x19095004300300f005112 Qbf6 [] CU
def Qbnx:=dZ 0x19098003002340560055006512 KB [] Qbnw
def Xr:=dZ 0x900202f00411 Qbnx
theorem Yo:mFn prog RO 2 26 Xr BG=true:=ZF
def Qa90:=dZ 0x874102f00411183
def Qa91:=dZ 0x9a0a00500434010113580180010113580080109909f2 Qa90
def Qa92:=dZ 0xa00409900d9f1fd8041920
def Qa93:=dZ 0x19090630050f80059f100f210142 Qa91 [] Qa92
def Qaz1:=dZ 0x9000eb00a005010440e11 Qa93
def Qa95:=dZ 0x190950040a00400f0050800b312 Qaz1 [] CU
def Qa96:=dZ 0x19098003002340560055006512 KB [] Qa95
def Qbo2:=dZ 0x900202f00411 Qa96
theorem Qbmc:mFn prog OT 2 26 Qbo2 BG=true:=ZF
def Qad4:=dZ 0x874102f004110c3
def Qlq:=dY 33265
def Qad5:=dZ 0x874102f004111f3
def Qad6:=dZ 0x10230390059f1f0045801230
def Qad7:=dZ 0x19091ff102410521cd0360133580013802036013358001280214bc0cf20142 Qad5 Qlq Qad6
def Q64:=dZ 0x90068113b10240034405012802700d512 Qad7
def Qad9:=dZ 0x19095004102300f005112 Q64 [] CU
def Qaea:=dZ 0x19098023003340501502050130206712 Qad4 [] Qad9
def Qast:=dZ 0x902202f019190231 Qaea
theorem Qant:mFn prog SN 2 32 Qast BG=true:=ZF
end Go.AE.Y
namespace Go.AE.Y
attribute [local go_sem] cond_true cond_false Bool.not_true Bool.not_false
attribute [local instance] Classical.propDecidable
open Go.Proofs.Tryz
variable {H H0:Heap}{K:Uk}{fl:Bool}
theorem Qbme {fn:Nat}{f:CodeD->CodeD}{l:List CodeD}(hl:l.length<=4)(hf:∀p∈l,∀(H:Heap) (K:V->Heap->Prop) (fl:Bool),(∀H',Upd H H' []->K (.ag (f p).cells) H')->Qr prog fn [.ag [Ui p.params,Ui p.ae,.sl fl 5 (Qo p.blocks)]] H K)
  (hK:∀H',Upd H H' []->K (.c (.sl false 3 (Qm (l.map f)))) H') :
  Qr prog Qd0 [.c (.sl fl 3 (Qm l)),.c (.fn fn [])] H K:=by
 refine Qy ?_;refine Qd BF Qqt ?_;refine Ws ?_;simp only[go_sem,Q8];intro _;refine Qh (Qe (Qw (λm e1 H1=>∃(ds:List CodeD) (t:C) (Lg:Ul),m=l.length-ds.length/\ds.length<=l.length/\(∀i (h1:i<l.length) (h2:i<ds.length),ds[i]=f l[i])/\Gr Lg 3 (Qm ds) t/\Kn H H1 [] ([]++Lg)/\
  e1=[(1,.c (.fn fn [])),(5,.c t),(8,.c (.sl fl 3 (Qm l))),(9,.c (Ui l.length)),(10,.c (Ui ds.length))]) l.length ?_ ?_))
 ·exact⟨[],_,[],ZD,ZD,ZD,.nil 3,Kn.an H,rfl⟩
 ·rintro m e1 H1 ⟨ds,t,Lg,hm,hi,sv,aq,kn,rfl⟩;have fM:=aq.ai;refine Za ?_;refine Wu ?_ ?_
  ·intro hc;have af:ds.length<l.length:=ZE
   obtain⟨p,hp⟩:∃p,l[ds.length]=p:=⟨_,rfl⟩;have eR:p∈l:=by rw[<-hp];exact Jd af
   refine Zc ?_
   refine Wi ?_;simp only[go_sem,af,Q8,Do _ _ af,CodeD.cells,hp];intro x7 cd H2 h2;have kn:=kn.al cd h2;have cd:H2 x7=.st [Ui 0,Ui 0,.sl true 5 []]:=(kn.get (x7,.st [Ui 0,Ui 0,.sl true 5 []]) ZD).1;simp only[go_sem,Tn,cd];intro H3 h3;have kn:Kn H H3 [] ([(x7,.st [Ui p.params,Ui p.ae,.sl false 5 (Qo p.blocks)])]++Lg):=by
    have:=kn.aB ([]++Lg).length (x:=x7) (o:=.st [Ui 0,Ui 0,.sl true 5 []]) ZD h3;refine Kn.perm (by simpa using this) ?_;exact Jr
   have cd:=kn.l 0 rfl;refine Qp ?_;simp only[go_sem,cd,Jba,Ja5];refine hf p eR _ _ _ λH4 hu=>?_;obtain⟨d,hd⟩:∃d,f p=d:=⟨_,rfl⟩;rw[hd];have kn:=kn.aw hu;simp only[go_sem,Qdj,CodeD.cells];refine kn.bk (new:=Qm [d]) aq (.mk' _ _ _ _) (Ey _) ZaB λt2 Lg2 H5 bO dy kn=>?_;simp only[go_sem,DM];refine Zg ?_;refine⟨Qs,l.length-(ds.length+1),ZB,ds++[d],t2,Lg2,ZD,by simp;omega,λi h1 h2=>?_,?_,?_,ZD⟩
   ·by_cases hi:i<ds.length
    ·rw[List.getElem_append_left hi];exact sv i h1 hi
    ·have jx:i=ds.length:=(by simp only[J6,Jk,Jl]at h2;omega);subst jx;rw[hp];have:(ds++[d])[ds.length]=d:=ZD;rw[this];exact hd.symm
   ·have:Qm (ds++[d])=Qm ds++Qm [d]:=Zbl;rw[this];exact bO
   ·exact Kn.drop (B:=[(x7,.st [Ui p.params,Ui p.ae,.sl false 5 (Qo p.blocks)])]) (kn.perm Jr)
  ·intro hc;have bh:ds.length=l.length:=by have:l.length<=ds.length:=ZE;omega
   refine Wb ?_;refine Zk ?_;have zq:ds=l.map f:=Jaf (by rw[Je,bh]) λi h1 h2=>by rw[Jan];exact sv i ZB h1
   have eA:=hK _ kn.fin;rw[<-zq]at eA;exact⟨_,.c _ _ (aq.frz kn (Ey _)),eA⟩
noncomputable def perL (f:CodeD->CodeD)(cs:List CodeD):List CodeD:=if BP cs=true then cs.map f else []
theorem Qbmh {fn:Nat}{f:CodeD->CodeD}{cs:List CodeD}(aR:∀c∈cs,c.fits)(hf:BP cs=true->∀p∈cs,∀(H:Heap) (K:V->Heap->Prop) (fl:Bool),(∀H',Upd H H' []->K (.ag (f p).cells) H')->Qr prog fn [.ag [Ui p.params,Ui p.ae,.sl fl 5 (Qo p.blocks)]] H K)
  (hK:∀H',Upd H H' []->K (.tup [.ag [.sl false 3 (Qm (perL f cs))],.c (.bool (BP cs))]) H') :
  Qr prog TW [.ag [.sl fl 3 (Qm cs)],.c (.fn fn [])] H K:=by
 refine Qy ?_;refine Qd BF Qa10 ?_;refine Za ?_;intro x4 aY H1 h1;have kn:=(Kn.an H).al aY h1;simp only[go_sem,DN];refine Wa ?_;refine S8 aR λH2 hu=>?_;have kn:=kn.aw hu;simp only[go_sem,SA];have aY:=kn.l 0 rfl;refine Wu ?_ ?_
 ·intro hc;have hc:=Dd hc;refine Zj aY ?_;intro H3 h3;have kn:=kn.aB 0 rfl h3;have aY:=kn.l 0 rfl;simp only[go_sem,DN];refine Zp aY ?_;have hK:=hK _ kn.fin;rw[perL,hc]at hK;exact⟨λ_=>trivial,_,E4 (FrzL.ag (.cons FrzR.nil.sl .nil)) (.c _ _ (Qg rfl)),hK⟩
 ·intro hc;have hg:=Ct hc;have ef:cs.length<=4:=by have:=(of_decide_eq_true hg).1;omega
  refine Zc ?_
  refine Za ?_;refine Qbme ef (hf hg) λH3 hu=>?_;have kn:=kn.aw hu;have aY:=kn.l 0 rfl;simp only[go_sem,Qsi,aY];intro H4 h4;have kn:=kn.aB 0 rfl h4;have aY:=kn.l 0 rfl;simp only[go_sem,IF];refine Zp aY ?_;have hK:=hK _ kn.fin;rw[perL,if_pos hg,hg]at hK;exact⟨λ_=>trivial,_,E4 (Eo _) (.c _ _ (Qg rfl)),hK⟩
theorem Rl {f:CodeD->CodeD}{cs:List CodeD}(aR:∀c∈cs,c.fits)(hf:∀c,c.fits->(f c).fits):∀c∈perL f cs,c.fits:=λc hc=>by
 rw[perL]at hc;split at hc
 ·obtain⟨x,hx,rfl⟩:=Jo.1 hc;exact hf x (aR x hx)
 ·simp at hc
noncomputable def CJ (cs:List CodeD)(b:Bool):List CodeD:=if (b&&BP cs)=true then cs else []
theorem Qblr {cs:List CodeD}{pass:List UInt8}{f:CodeD->CodeD}(aR:∀c∈cs,c.fits)(oz:∀c∈perL f cs,c.fits)
  (hf:BP cs=true->∀p∈cs,∀(H:Heap) (K:V->Heap->Prop),(∀H',Upd H H' []->K (.ag (f p).cells) H')->Qr prog Sk [.ag [Ui p.params,Ui p.ae,.sl false 5 (Qo p.blocks)],.c (.str pass)] H K)
  (hK:∀H',Upd H H' []->K (.tup [.ag [.sl false 3 (Qm (CJ (perL f cs) (BP cs)))],.c (.bool (BP cs&&BP (perL f cs)))]) H') :
  Qr prog IS [.ag [.sl fl 3 (Qm cs)],.c (.str pass)] H K:=by
 refine Qy ?_;refine Qd BF RD ?_;refine Za ?_;intro x4 aY H1 h1;have kn:=(Kn.an H).al aY h1;simp only[go_sem,DN];refine Wa ?_;refine IZ aR λH2 hu=>?_;have kn:=kn.aw hu;simp only[go_sem,IT];refine Wu ?_ ?_
 ·intro hc;have hc:BP cs=false:=Dd hc;have aY:=kn.l 0 rfl;refine Zj aY ?_;intro H3 h3;have kn:=kn.aB 0 rfl h3;have aY:=kn.l 0 rfl;simp only[go_sem,DN];refine Zp aY ?_;have hK:=hK _ kn.fin;have eo:CJ (perL f cs) false=[]:=by simp[CJ]
  rw[hc,eo]at hK;exact⟨λ_=>trivial,_,E4 (FrzL.ag (.cons (FrzR.nil.sl) .nil)) (.c _ _ (Qg rfl)),hK⟩
 ·intro hc;have hG:BP cs=true:=Ct hc;refine Zc ?_
  refine Za ?_;intro x6 be H3 h3;have kn:=kn.al be h3;have be:=kn.l 1 rfl;simp only[go_sem,TA,be];intro H4 h4;have kn:Kn H H4 [] [(x4,.st [.sl true 3 []]),(x6,.st [.sl true 3 []])]:=kn.aB 1 rfl h4;refine Wa ?_;have cG:=(FQ aR hG).1;refine Qh (Qe (Qw (λm e1 H1=>∃(ds:List CodeD) (t:C) (Lg:Ul),m=cs.length-ds.length/\ds.length<=cs.length/\ds=(cs.take ds.length).map f/\Gr Lg 3 (Qm ds) t/\Kn H H1 [] ([(x4,.st [.sl true 3 []]),(x6,.st [t])]++Lg)/\
   lk 1 e1=.c (.str pass)/\lk 2 e1=.c (.pp [.sl fl 3 (Qm cs)])/\lk 4 e1=Up x4/\lk 6 e1=Up x6/\lk 7 e1=.c (Ui ds.length)) cs.length ?_ ?_))
  ·exact⟨[],_,[],ZD,ZD,ZD,.nil 3,ZM,rfl,rfl,rfl,rfl,rfl⟩
  ·clear kn be;rintro m e1 H5 ⟨ds,t,Lg,hm,nu,gc,aq,kn,l1,l2,l4,l6,l7⟩;have fM:=aq.ai;refine Q1 (Qa ?_);simp only[go_sem,l1,l2,l4,l6,l7,Q8];try intro _
   refine Wu ?_ ?_
   ·intro aD;have af:ds.length<cs.length:=ZH;have be:=kn.l 1 rfl;obtain⟨q,hq⟩:∃q,cs[ds.length]=q:=⟨_,rfl⟩;have hqm:q∈cs:=(by rw[<-hq];exact Jd af);refine Zc ?_
    refine Wp ?_;simp only[go_sem,be,fM,af,Q8,Do _ _ af,CodeD.cells,hq];refine hf hG q hqm _ _ λH6 hu=>?_;obtain⟨d,hd⟩:∃d,f q=d:=⟨_,rfl⟩;rw[hd];have kn:=kn.aw hu;have be:=kn.l 1 rfl;simp only[go_sem,T8,CodeD.cells,be,fM];refine kn.bk (new:=Qm [d]) aq (.mk' _ _ _ _) (Ey _) ZaB λt2 Lg2 H7 bO dy kn=>?_;have be:=kn.l 1 rfl;simp only[go_sem,T9,be];intro H8 h8;have kn:=kn.aB 1 rfl h8;refine Zh ?_;refine⟨Qs,?_⟩;show ∃m,_;refine⟨cs.length-(ds.length+1),ZB,ds++[d],t2,Lg2,ZD,by simp only[J6,Jk,Jl];omega,?_,?_,kn,rfl,rfl,rfl,rfl,ZC⟩
    ·have e:(ds++[d]).length=ds.length+1:=ZD;rw[e,Jz af,Jp,<-gc,hq,Jah,Ja5,hd]
    ·have:Qm (ds++[d])=Qm ds++Qm [d]:=Zbl;rw[this];exact bO
   ·intro jL;have zm:ds.length=cs.length:=(by have:cs.length<=ds.length:=(by simpa using jL);omega);rw[zm,Ja7]at gc;have lu:perL f cs=ds:=(by rw[perL,if_pos hG,<-gc]);rw[hG,lu]at hK;rw[lu]at oz;refine Zb ?_;have be:=kn.l 1 rfl;obtain⟨S,kP,ly,eE,kn⟩:=kn.bQ;have ip:=ly (x6,.st [t]) ZD;have rp:FrzC H5 S t (.sl false 3 (Qm ds)):=Gr.frzM aq kP (FrzR.same (Ey _));have kn:=kn.setL (o':=.st [.sl false 3 (Qm ds)]) 1 rfl ZD;refine c_gh (E7 S (Fi ?_) (eE.set (o:=.st [.sl false 3 (Qm ds)]) ip.2 ZaD)) (e':=[(4,Up x4),(6,Up x6)]) ?_
    ·simp only[Jn];exact⟨.c _ _ (.same _ rfl),.c _ _ (.same _ rfl),ZD⟩
    generalize (H5.frz S).set x6 (Obj.st [C.sl false 3 (Qm ds)])=H6 at *;have be:=kn.l 1 rfl;have aY:=kn.l 0 rfl;clear eE ip rp kP ly;refine Q1 (Qa ?_);simp only[go_sem,be];refine IZ oz λH7 hu=>?_;have kn:=kn.aw hu;have be:=kn.l 1 rfl;have aY:=kn.l 0 rfl;simp only[go_sem,TL];refine Wu ?_ ?_
    ·intro bA;have f8:BP ds=false:=Dd bA;refine Zj aY ?_;intro H8 h8;have kn:=kn.aB 0 rfl h8;have aY:=kn.l 0 rfl;simp only[go_sem,DN];refine Zp aY ?_;have hK:=hK _ kn.fin;have eo:CJ ds true=[]:=(by simp[CJ,f8]);rw[f8,eo]at hK;exact⟨λ_=>trivial,_,E4 (FrzL.ag (.cons (FrzR.nil.sl) .nil)) (.c _ _ (Qg rfl)),hK⟩
    ·intro bA;have f8:BP ds=true:=Ct bA;refine Zc ?_
     refine Zm be aY ?_;intro H8 h8;have kn:=kn.aB 0 rfl h8;have aY:=kn.l 0 rfl;simp only[go_sem,IF];refine Zp aY ?_;have hK:=hK _ kn.fin;have eo:CJ ds true=ds:=(by simp[CJ,f8]);rw[f8,eo]at hK;exact⟨λ_=>trivial,_,E4 (Eo ds) (.c _ _ (Qg rfl)),hK⟩
end Go.AE.Y
namespace Go.AE.Y
attribute [local go_sem] cond_true cond_false Bool.not_true Bool.not_false
attribute [local instance] Classical.propDecidable
open Go.Proofs.Tryz
variable {H H0:Heap}{K:Uk}{fl:Bool}{q:CodeD}{cs:List CodeD}
theorem Qbst (ho:q.ok):Eb q.blocks.length (gnx q)=rchL q.blocks.length (nxN (gnx q)):=by
 rw[Eb,if_pos ho.fitB];rfl
theorem Qawl (ho:q.ok)(hK:∀H',Upd H H' []->K (.ag (drpE q).cells) H') :
  Qr prog Qj9 [.ag [Ui q.params,Ui q.ae,.sl fl 5 (Qo q.blocks)]] H K:=by
 have ba:=ho.b1;refine Qy ?_;refine Qd BF Qabl ?_;refine Za ?_;intro x2 aI H1 h1;have kn:=(Kn.an H).al aI h1;refine Zw ?_;refine Qbay (rows:=Qo q.blocks) (nx:=gnx q) (E5 H1 q fl) (by rw[Qn];omega) λH2 hu=>?_;have kn:=kn.aw hu;rw[Qn,Qbst ho];simp only[go_sem,Qh1];refine XF ho ho.rchPk (FB _ _) λH3 hu=>?_;have kn:=kn.aw hu;have aI:=kn.l 0 rfl;simp only[go_sem,SY,CodeD.cells,aI];intro H4 h4;have kn:=kn.aB 0 rfl h4;have aI:=kn.l 0 rfl;refine Zl aI ?_;exact⟨_,FrzL.ag (.cons (.same _ rfl) (.cons (.same _ rfl) (.cons (.same _ rfl) .nil))),hK _ kn.fin⟩
theorem Qblq {fl:Bool}(ho:q.ok)(hK:∀z H',Kn H H' [] [(z,.vec 5 (Qo (drpE q).blocks))]->K (.ag [Ui q.params,Ui q.ae,.ah z 5 0 (drpE q).blocks.length]) H') :
  Qr prog Sl [.ag [Ui q.params,Ui q.ae,.sl fl 5 (Qo q.blocks)]] H K:=
 MQ ho λd z H' hR hP kn=>by
  obtain⟨P,hP,hd⟩:=hP;rw[Qb5f ho ho.rchPk (FB _ _) hP]at hd;have hd:d=drpE q:=hd;subst hd;exact hK z H' kn
theorem Qb25 {l:List Nat}(h:q.fits):(pkE q l).fits:=λy hy=>by
 obtain⟨b,hb,rfl⟩:=J8.1 hy;rw[Ed,pkX];by_cases hl:l.getD b 0<q.blocks.length
 ·have:=h _ (Jd hl);rw[Cd hl];simpa using this
 ·have e:Qx q (l.getD b 0)=⟨[],[],0,0,[]⟩:=by rw[Qx,Jb,Jaq ZB];rfl
  rw[e];simp
end Go.AE.Y
namespace Go.AE.Y
open Go.Proofs.Tryz
def Qabt:=dW 0x7022108f2160421 [] [It] [eI 5 (.call TW [.t 4,.k (.c (.fn Vr []))])]
def Qan8:=dZ 0x9012137132f090121 Qabt Iu
theorem Qand:mFn prog Vx 1 8 Qan8 Ik=true:=ZF
def Qlc:=dY 0x5700332f021
def Qld:=dY 0xa8183e001
def Qle:=dY 0x29485e090032
def ST:=dY 0x3f5a0f025840f05850f303
def SS:=dY 0x1012325803f385800f1835860f0003ff9a0f063e40f03e50f03e10f003e20f0453e30f03e10f0f013e30f03e10f4843e20f03e10f1823e20f0003f6a0122e40f382e00f02e10f0f012e30f02e10f4842e20f0008161af ST
def Qacl:=dZ 0x8007039f01001a0101e12135807800104201536800118224ca04b3
def Qacm:=dZ 0x96007039f001001c001243808804931 Qacl
def Qacn:=dZ 0x7039f01001a05d0449f1f4c045520
def Qaco:=dZ 0x1909007039f0001001c08c06c0079f0124131046510742 Qacm [] Qacn
def Q6m:=dZ 0x90645b0007039f01001b010444511 Qaco
def Q6c:=dZ 0x95064007039f01001a00f0050104201536800118223d81 Q6m
def Q6d:=dZ 0x39f1001606d03a9f1fab045620
def Q6e:=dZ 0x1909039f0100170cb0069f103c210542 Q6c [] Q6d
def Q3c:=dZ 0x9043bb0039f10017010443b11 Q6e
def Q6f:=dZ 0x16095044039f1001600f00501182237412 Q3c
def Q6g:=dZ 0x91001406b0059f010f0130148423351 Q6f
def Q6h:=dZ 0x9803632332f00700018101231d380183613320f20f22 Q6g SS
def Q6i:=dZ 0x901507d00e9f1fe8045720
def Q6j:=dZ 0x190900700017117004727532f049f05624531010410342 Q6h Qle Q6i
def Q3d:=dZ 0x9020fb0009016010440f11 Q6j
def Qi8:=dY 0x9d283e001
def Q6k:=dZ 0x72110133d18365820d22 .skip Qi8
def Q3e:=dZ 0x1909502400901500f0050118220b412014 Q3d [] Q6k
def Q6l:=dZ 0x950048201210130d7360921c Q3e Qld
def Qaqa:=dZ 0x90121052f0111 Q6l Qlc
theorem Qann:mFn prog Vr 1 90 Qaqa Ce=true:=ZF
def So:=dY 0xa8585e001
def Qaoy:=dZ 0x7410d90049f2f03a1f023340f03310f5823320f002f04a0f022740f02750f02710f5812720f002f04a0f021b40f01b50f01b10f5801b20f000f0641800b14f1
def Qaoz:=dZ 0x9312117004727532f059f056015360013220661 Qaoy So
def Qa3k:=dZ 0x901202f0049f190221 Qaoz
theorem Qa1z:mFn prog Q1m 2 30 Qa3k BG=true:=ZF
def Qa7s:=dZ 0x874102f004111d3
def TK:=dY 0x7b0049f2f05a0f066340f06350f354
def Qa7t:=dZ 0x7411012896303f186300f2836360f002f04aa0f024940f04950f04910f004920f0454930f04910f0f014930f04910f5844920f04910f2824920f000134180010f0130158421e17f1bf1bf2 .skip TK
def Qa7u:=dZ 0x19091df2014003f3a1f033240f03210f5823220f0003f4a0f062640f02650f02610f5812620f0003f4a0f061a40f01a50f01a10f5801a20f000f0241800b13f12 Qa7s [] Qa7t
def Qa7v:=dZ 0x92013117004727532f059f056015360013220661 Qa7u So
def Qbm2:=dZ 0x901202f0049f190221 Qa7v
theorem Qbl7:mFn prog OY 2 56 Qbm2 BG=true:=ZF
def Qbej:=dZ 0x800000260101e12135807800104201536800138223aa0393
def Qbek:=dZ 0x260ea0079f1f0047802d30
def Qbel:=dZ 0x190939f0000027001244800101137800104201536800138222fb10542 Qbej [] Qbek
def Qa74:=dZ 0x904682c32cf0000027007440501042015368001382278024912 Qbel
def Qbem:=dZ 0x2503a0069f1f0046802230
def Qben:=dZ 0x19095044000002600f007110342 Qa74 [] Qbem
def Qa75:=dZ 0x9026821321f00002600344050138226801d512 Qben
def Qa7w:=dZ 0x2300f00410
def Qa7x:=dZ 0x1909502400002500f006112 Qa75 [] Qa7w
def Qa7y:=dZ 0x9000240c90059f010f0130104201534800138221591 Qa7x
def Qa7z:=dZ 0x230090049f1f0044800f30
def Qa70:=dZ 0x1909801614314f00241012a1d4803836113120142 Qa7y FM Qa7z
def Qay5:=dZ 0x900680e390024003440501722500a512 Qa70
def Q4e:=dY 0x4c283e001
def Qa71:=dZ 0x72110157d38364320d22 .skip Q4e
def Qa72:=dZ 0x19095004002301f004112 Qay5 [] Qa71
def Qa73:=dZ 0x902210190d6360821 Qa72 Sc
def Qbtn:=dZ 0x901205700332f090121 Qa73
theorem Qbrv:mFn prog Nb 1 69 Qbtn Ce=true:=ZF
def Qaeb:=dW 0x7022108f2160421 [] [It] [eI 5 (.call IS [.t 4,.k (.c (.str [115,107,105,112]))])]
def Qasu:=dZ 0x9012137132f090121 Qaeb Iu
theorem Qanu:mFn prog Vp 1 8 Qasu Ik=true:=ZF
def Qfs:=dY 0x48281e001
def Qw0:=dZ 0x72110118d200321 .skip Qfs
def Q4s:=dZ 0x9102037132f0211 Qw0
theorem Q2a:mFn prog VE 1 5 Q4s BQ=true:=ZF
end Go.AE.Y
namespace Go.AE.Y
attribute [local go_sem] cond_true cond_false Bool.not_true Bool.not_false
attribute [local instance] Classical.propDecidable
open Go.Proofs.Tryz
variable {H H0:Heap}{K:Uk}{q:CodeD}{bc:C}{ks:List NX}
theorem Qb05 {A B C D E:Prop} [Decidable A] [Decidable B] [Decidable C] [Decidable D] [Decidable E] (h:E↔A/\B/\C/\D):(bif bif bif decide A then decide B else false then decide C else false then decide D else false)=decide E:=by
 by_cases A <;> by_cases B <;> by_cases C <;> by_cases D <;> simp[*]
theorem bif_or {A B C D:Prop} [Decidable A] [Decidable B] [Decidable C] [Decidable D]:(bif bif bif decide A then true else decide B then true else decide C then true else !decide D)=true↔A\/B\/C\/¬D:=by
 by_cases A <;> by_cases B <;> by_cases C <;> by_cases D <;> simp[*]
theorem Qbqk {b:Nat}(h:NxR H q bc ks)(hb:b<q.blocks.length)(hl:q.blocks.length<=160)(hK:∀H',Upd H H' []->K (.c (.bool (decide (EmP q b)))) H') :
  Qr prog Q1m [.ag [Ui q.params,Ui q.ae,bc],Uv b] H K:=by
 obtain⟨k,hk,cW,aC⟩:=h.at hb;obtain⟨o5,d9⟩:=h.x k hk;have bt:=h.ow;have ax:=eq_true h.s.ok;have am:=h.s.len;have bp:=h.s.sz;have ew:=h.s.rows;have cg:(ks.map NX.row).length=q.blocks.length:=by rw[Je,h.len]
 refine Qy ?_;refine Qd BF Qa1z ?_;refine Wf ?_;simp only[go_sem,bt,ax,am,bp,ew,cg,hb,aC,NX.row,o5];intro x5 bq H1 h1;have kn:=(Kn.an H).al bq h1;have bq:=kn.l 0 rfl;simp only[go_sem,So,bq];intro H2 h2;have kn:=kn.aB 0 rfl h2;have bq:=kn.l 0 rfl;refine Qa ?_;simp only[go_sem,bq,Q0,Cv,cW];intro _ _;refine Zk ?_;have e:(bif bif bif decide (0<(b:Int))then decide (((Qx q b).ab.length:Int)=0)else false then decide (((Qx q b).ins.length:Int)=0)else false then decide ((Qx q b).jump=1)else false)=decide (EmP q b):=by
  exact Qb05 ⟨λh=>⟨by have:=h.1;omega,by rw[h.2.1];rfl,by rw[h.2.2.1];rfl,h.2.2.2⟩,λh=>⟨ZB,List.eq_nil_of_length_eq_zero ZB,List.eq_nil_of_length_eq_zero ZB,h.2.2.2⟩⟩
 rw[e];exact⟨_,.c _ _ (Qg rfl),hK _ kn.fin⟩
theorem Qbly {b:Nat}(h:NxR H q bc ks)(hb:b<q.blocks.length)(ho:q.ok)(hj:((Qx q b).next.length:Int)=Cq (Qx q b).jump)(hK:∀H',Upd H H' []->K (.c (.bool (decide (SkP q b)))) H') :
  Qr prog OY [.ag [Ui q.params,Ui q.ae,bc],Uv b] H K:=by
 have hl:=ho.b1;obtain⟨k,hk,cW,aC⟩:=h.at hb;obtain⟨o5,d9⟩:=h.x k hk;have bt:=h.ow;have ax:=eq_true h.s.ok;have am:=h.s.len;have bp:=h.s.sz;have ew:=h.s.rows;have cg:(ks.map NX.row).length=q.blocks.length:=by rw[Je,h.len]
 refine Qy ?_;refine Qd BF Qbl7 ?_;refine Wf ?_;simp only[go_sem,bt,ax,am,bp,ew,cg,hb,aC,NX.row,o5];intro x5 bq H1 h1;have kn:=(Kn.an H).al bq h1;have bq:=kn.l 0 rfl;simp only[go_sem,So,bq];intro H2 h2;have kn:=kn.aB 0 rfl h2;have bq:=kn.l 0 rfl;refine Q1 (Qa ?_);simp only[go_sem,bq,Q0,Cv,cW];intro _ _;refine Wu ?_ ?_
 ·intro hc;have hc:=bif_or.1 hc;have hn:¬SkP q b:=λh=>by
   rcases hc with h1|h1|h1|h1
   ·have:=h.b0;omega
   ·rw[h.ph]at h1;simp at h1
   ·rw[h.ins]at h1;simp at h1
   ·exact h1 h.j
  refine Za ?_;refine Zk ?_;have:=hK _ kn.fin;rw[decide_eq_false hn]at this;exact⟨_,.c _ _ (Qg rfl),this⟩
 ·intro hc;have hc:¬((b:Int)=0\/(0:Int)<(Qx q b).ab.length\/(0:Int)<(Qx q b).ins.length\/¬(Qx q b).jump=1):=λh=>by
   rw[bif_or.2 h]at hc;cases hc
  have yI:(Qx q b).jump=1:=J2 λh=>hc (.inr (.inr (.inr h)));have dV:(Qx q b).ab=[]:=List.eq_nil_of_length_eq_zero (J2 λh=>hc (.inr (.inl ZB)));have dH:(Qx q b).ins=[]:=List.eq_nil_of_length_eq_zero (J2 λh=>hc (.inr (.inr (.inl ZB))));have eV:0<b:=J2 λh=>hc (.inl ZB);have cO:(Qx q b).next.length=1:=by
   rw[yI]at hj;simp[Cq]at hj;omega
  rw[cW]at d9;have dg:=eq_true (d9.keep0 kn).ok;have cU:=d9.len;have gD:=d9.sz;have gG:=(d9.keep0 kn).rows;have oG:0<(Qx q b).next.length:=ZB
  have bm:=Qk (Qx q b).next 0 oG;have qs:(Qx q b).next.getD 0 0=skT q b:=rfl;rw[qs]at bm;have fj:=(ho.bs b hb).nx (skT q b) (by rw[<-Cd hb,skT,Jb,Jg oG];exact Jd _);obtain⟨m,hm⟩:∃m:Nat,skT q b=m:=⟨(skT q b).toNat,ZB⟩;have iZ:m<q.blocks.length:=ZB
  obtain⟨k2,fy,mw,lX⟩:=h.at iZ;rw[hm]at bm;have hR:=h.keep0 kn;have ax:=eq_true hR.s.ok;have ew:=hR.s.rows;refine Zc ?_
  refine BM ?_;simp only[go_sem,bt,bq,ax,am,bp,ew,cg,iZ,lX,NX.row,o5,dg,cU,gD,gG,bm,cO,mw,Q0,Qc];have th:(skT q b).toNat=m:=ZB
  refine⟨ZB,λ_=>ZB,λbA=>?_,λbA=>?_⟩
  ·have ef:¬(m:Int)=(b:Int)/\(Qx q m).ab=[]:=by
    by_cases h1:(m:Int)=(b:Int)
    ·rw[h1]at bA;simp at bA
    ·rw[decide_eq_false h1]at bA;refine⟨h1,List.eq_nil_of_length_eq_zero ?_⟩;have:((Qx q m).ab.length:Int)=0:=ZT;omega
   refine MO (nx:=gnx q) hR.s bt hR.hx λH3 hu=>?_;have kn:=kn.aw hu;rw[cg];simp only[go_sem,TK,bA,Qc];try intro _
   refine Zk ?_;have e:decide (0<((Qz (gnx q) (b:Int) q.blocks.length).length:Int))=decide (SkP q b):=decide_eq_decide.2 ⟨λh=>⟨eV,hb,dV,dH,yI,by rw[hm];exact ef.1,by rw[th];exact ef.2,λhh=>by rw[hh]at h;simp at h⟩,λh=>by
    have:=List.length_pos_iff.2 h.pr;omega⟩
   rw[e];exact⟨_,.c _ _ (Qg rfl),hK _ kn.fin⟩
  ·have hn:¬SkP q b:=λh=>by
    have h1:=h.ne;have h2:=h.tp;rw[hm]at h1;rw[th]at h2;rw[decide_eq_false h1,h2]at bA;simp at bA
   simp only[go_sem,TK,bA];try intro _
   refine Zk ?_;have:=hK _ kn.fin;rw[decide_eq_false hn]at this;exact⟨_,.c _ _ (Qg rfl),this⟩
end Go.AE.Y
namespace Go.AE.Y
attribute [local go_sem] cond_true cond_false Bool.not_true Bool.not_false
open Go.Proofs.Tryz
variable {H H0:Heap}{K:Uk}
theorem Ma {f g:Bool}{ns:List Int}(hK:K (.c (.bool true)) H):Qr prog OT [.c (.sl f 1 (Qb ns)),.c (.sl g 1 (Qb ns))] H K:=by
 refine Qd BF Qbmc ?_;refine Wh ?_;simp only[go_sem,Qc,decide_true];intro hl;try intro _
 simp only[LIM]at hl;refine Wu ?_ ?_
 ·intro h;simp at h
 intro _;refine Zc ?_
 refine Q1 (Qa ?_);simp only[go_sem,Qc];try intro _
 refine Qh (Qe (Qw (λm e1 H1=>∃(i:Nat),m=ns.length-i/\i<=ns.length/\H1=H/\lk 0 e1=.c (.sl f 1 (Qb ns))/\lk 1 e1=.c (.sl g 1 (Qb ns))/\lk 12 e1=.c (Ui ns.length)/\lk 13 e1=Uv i) ns.length ?_ ?_))
 ·exact⟨0,ZB,ZB,rfl,rfl,rfl,rfl,rfl⟩
 ·rintro m e1 H1 ⟨i,hm,hi,rfl,l0,l1,l12,l13⟩;refine Qa ?_;simp only[go_sem,l0,l1,l12,l13];refine Wu ?_ ?_
  ·intro hc;have af:i<ns.length:=ZE
   refine Zc ?_
   refine Wg ?_;refine BM ?_;simp only[go_sem,af,Qc,Qk _ _ af,decide_true];refine Wv ?_ ?_
   ·intro h;simp at h
   intro _;refine Zc ?_
   refine Zh ?_;refine⟨Qs,?_⟩;show ∃m,_;exact⟨ns.length-(i+1),ZB,i+1,rfl,ZB,rfl,rfl,rfl,rfl,rfl⟩
  ·intro hc;refine Wb ?_;refine Zk ?_;exact hK
theorem HB {f g:Bool}{ns:List Int}(hK:K (.c (.bool true)) H):Qr prog RO [.c (.sl f 1 (Qb ns)),.c (.sl g 1 (Qb ns))] H K:=by
 refine Qd BF Yo ?_;refine Wh ?_;simp only[go_sem,Qc,decide_true];intro hl;try intro _
 simp only[LIM]at hl;refine Wu ?_ ?_
 ·intro h;simp at h
 intro _;refine Zc ?_
 refine Wa ?_;try intro _
 refine Qh (Qe (Qw (λm e1 H1=>∃(i:Nat),m=ns.length-i/\i<=ns.length/\H1=H/\lk 0 e1=.c (.sl f 1 (Qb ns))/\lk 1 e1=.c (.sl g 1 (Qb ns))/\lk 5 e1=Uv i) ns.length ?_ ?_))
 ·exact⟨0,ZB,ZB,rfl,rfl,rfl,rfl⟩
 ·rintro m e1 H1 ⟨i,hm,hi,rfl,l0,l1,l5⟩;refine Q1 (Qa ?_);simp only[go_sem,l0,l1,l5,Qc];try intro _
  refine Wu ?_ ?_
  ·intro hc;have af:i<ns.length:=ZE
   refine Zc ?_
   refine Qh (Qe ?_);refine BM ?_;simp only[go_sem,af,Qc,Qk _ _ af,decide_true];refine Wv ?_ ?_
   ·intro h;simp at h
   intro _;refine Zc ?_
   refine Zh ?_;refine⟨Qs,?_⟩;show ∃m,_;exact⟨ns.length-(i+1),ZB,i+1,rfl,ZB,rfl,rfl,rfl,rfl⟩
  ·intro hc;refine Wb ?_;refine Zk ?_;exact hK
theorem Qavm {p:BlkD}(hK:∀H',Upd H H' []->K (.c (.bool true)) H'):Qr prog Qw9 [.ag p.cells,.ag p.cells] H K:=by
 refine Qy ?_;refine Qd BF Qav1 ?_;refine Qa ?_;simp only[go_sem,BlkD.cells];refine Q1 (Qa ?_);simp only[go_sem,Q0,Cv,decide_true];intro AN yz;simp only[LIM]at AN yz;refine HB ?_;simp only[go_sem,Qom];refine Wu ?_ ?_
 ·intro h;simp at h
 intro _;refine Zc ?_
 refine Wa ?_;refine Qh (Qe (Qw (λm e1 H1=>∃(i:Nat),m=p.ab.length-i/\i<=p.ab.length/\H1=H/\lk 2 e1=.c (.pp p.cells)/\lk 3 e1=.c (.pp p.cells)/\lk 5 e1=Uv i) p.ab.length ?_ ?_))
 ·exact⟨0,ZB,ZB,rfl,rfl,rfl,rfl⟩
 ·rintro m e1 H1 ⟨i,hm,hi,rfl,l2,l3,l5⟩;simp only[BlkD.cells]at l2 l3;refine Q1 (Qa ?_);simp only[go_sem,l2,l3,l5,Q0];try intro _
  refine Wu ?_ ?_
  ·intro hc;have af:i<p.ab.length:=ZE
   obtain⟨x,hx⟩:∃x,p.ab[i]=x:=⟨_,rfl⟩;refine Zc ?_
   refine Qh (Qe ?_);refine BM ?_;simp only[go_sem,af,Q0,Dh _ _ af,hx,PhiD.cells,decide_true];refine HB ?_;simp only[go_sem,Qon];refine Wv ?_ ?_
   ·intro h;simp at h
   intro _;refine Zc ?_
   refine Zh ?_;refine⟨Qs,?_⟩;show ∃m,_;exact⟨p.ab.length-(i+1),ZB,i+1,rfl,ZB,rfl,rfl,rfl,rfl⟩
  ·intro hc;refine Zb ?_;refine Wa ?_;refine Qh (Qe (Qw (λm e1 H2=>∃(i:Nat),m=p.ins.length-i/\i<=p.ins.length/\Kn H1 H2 [] []/\lk 2 e1=.c (.pp p.cells)/\lk 3 e1=.c (.pp p.cells)/\lk 6 e1=Uv i) p.ins.length ?_ ?_))
   ·exact⟨0,ZB,ZB,.an H1,rfl,rfl,rfl⟩
   ·clear l2 l3 l5;rintro m e1 H2 ⟨i,hm,hi,kn,l2,l3,l6⟩;simp only[BlkD.cells]at l2 l3;refine Q1 (Qa ?_);simp only[go_sem,l2,l3,l6,Cv];try intro _
    refine Wu ?_ ?_
    ·intro hc;have af:i<p.ins.length:=ZE;obtain⟨x,hx⟩:∃x,p.ins[i]=x:=⟨_,rfl⟩;refine Zc ?_
     refine Qh (Qe ?_);refine Zv af hx ?_;intro x7 cd H3 h3;have kn:=kn.al cd h3;have cd:=kn.l 0 rfl;simp only[go_sem,Qoo,cd];intro H4 h4;have kn:Kn H1 H4 [] [(x7,.st x.cells)]:=kn.aB 0 rfl h4;refine Zv af hx ?_;intro x8 aV H5 h5;have kn:=kn.al aV h5;have aV:=kn.l 1 rfl;simp only[go_sem,Qop,aV];intro H6 h6;have kn:Kn H1 H6 [] [(x7,.st x.cells),(x8,.st x.cells)]:=kn.aB 1 rfl h6;have cd:H6 x7=.st x.cells:=kn.l 0 rfl;have aV:H6 x8=.st x.cells:=kn.l 1 rfl;refine Qa ?_;simp only[go_sem,cd,aV,InsD.cells,decide_true];refine HB ?_;simp only[go_sem,Qoq];refine Wv ?_ ?_
     ·intro h;simp at h
     intro _;refine Zc ?_
     refine Zh ?_;refine⟨Qs,?_⟩;show ∃m,_;exact⟨p.ins.length-(i+1),ZB,i+1,rfl,ZB,Kn.drop (A:=[]) (B:=[(x7,_),(x8,_)]) kn,rfl,rfl,rfl⟩
    ·intro hc;refine Wb ?_;refine Zk ?_;exact⟨_,.c _ _ (Qg rfl),hK _ kn.fin⟩
theorem Qa1r {p:CodeD}(hK:∀H',Upd H H' []->K (.c (.bool true)) H'):Qr prog Q1w [.ag p.cells,.ag p.cells] H K:=by
 refine Qy ?_;refine Qd BF Qa2b ?_;refine Qa ?_;simp only[go_sem,CodeD.cells];refine Q1 (Qa ?_);simp only[go_sem,Qn,decide_true];intro hl;try intro _
 simp only[LIM]at hl;refine Wu ?_ ?_
 ·intro h;simp at h
 intro _;refine Zc ?_
 refine Wa ?_;refine Qh (Qe (Qw (λm e1 H1=>∃(i:Nat),m=p.blocks.length-i/\i<=p.blocks.length/\Kn H H1 [] []/\lk 2 e1=.c (.pp [Ui p.params,Ui p.ae,.sl false 5 (Qo p.blocks)])/\lk 3 e1=.c (.pp [Ui p.params,Ui p.ae,.sl false 5 (Qo p.blocks)])/\lk 5 e1=Uv i) p.blocks.length ?_ ?_))
 ·exact⟨0,ZB,ZB,.an H,rfl,rfl,rfl⟩
 ·rintro m e1 H1 ⟨i,hm,hi,kn,l2,l3,l5⟩;refine Q1 (Qa ?_);simp only[go_sem,l2,l3,l5,Qn];try intro _
  refine Wu ?_ ?_
  ·intro hc;have af:i<p.blocks.length:=ZE
   obtain⟨x,hx⟩:∃x,p.blocks[i]=x:=⟨_,rfl⟩;refine Zc ?_
   refine Qh (Qe ?_);refine BM ?_;simp only[go_sem,af,Qn,Cy _ _ af,hx,BlkD.cells];refine Qavm (p:=x) λH2 hu=>?_;have kn:=kn.aw hu;simp only[go_sem,Qup];refine Wv ?_ ?_
   ·intro h;simp at h
   intro _;refine Zc ?_
   refine Zh ?_;refine⟨Qs,?_⟩;show ∃m,_;exact⟨p.blocks.length-(i+1),ZB,i+1,rfl,ZB,kn,rfl,rfl,rfl⟩
  ·intro hc;refine Wb ?_;refine Zk ?_;exact⟨_,.c _ _ (Qg rfl),hK _ kn.fin⟩
theorem TQ {f g:Bool}{cs:List CodeD}(hK:∀H',Upd H H' []->K (.c (.bool true)) H'):Qr prog SN [.ag [.sl f 3 (Qm cs)],.ag [.sl g 3 (Qm cs)]] H K:=by
 refine Qy ?_;refine Qd BF Qant ?_;refine Wh ?_;simp only[go_sem,Q8,decide_true];intro hl;try intro _
 simp only[LIM]at hl;refine Wu ?_ ?_
 ·intro h;simp at h
 intro _;refine Zc ?_
 refine Wa ?_;refine Qh (Qe (Qw (λm e1 H1=>∃(i:Nat),m=cs.length-i/\i<=cs.length/\Kn H H1 [] []/\lk 2 e1=.c (.pp [.sl f 3 (Qm cs)])/\lk 3 e1=.c (.pp [.sl g 3 (Qm cs)])/\lk 5 e1=Uv i) cs.length ?_ ?_))
 ·exact⟨0,ZB,ZB,.an H,rfl,rfl,rfl⟩
 ·rintro m e1 H1 ⟨i,hm,hi,kn,l2,l3,l5⟩;refine Q1 (Qa ?_);simp only[go_sem,l2,l3,l5,Q8];try intro _
  refine Wu ?_ ?_
  ·intro hc;have af:i<cs.length:=ZE
   obtain⟨x,hx⟩:∃x,cs[i]=x:=⟨_,rfl⟩;refine Zc ?_
   refine Qh (Qe ?_);refine BM ?_;simp only[go_sem,af,Q8,Do _ _ af,hx,CodeD.cells];refine Qa1r (p:=x) λH2 hu=>?_;have kn:=kn.aw hu;simp only[go_sem,Qlq];refine Wv ?_ ?_
   ·intro h;simp at h
   intro _;refine Zc ?_
   refine Zh ?_;refine⟨Qs,?_⟩;show ∃m,_;exact⟨cs.length-(i+1),ZB,i+1,rfl,ZB,kn,rfl,rfl,rfl⟩
  ·intro hc;refine Wb ?_;refine Zk ?_;exact⟨_,.c _ _ (Qg rfl),hK _ kn.fin⟩
end Go.AE.Y
namespace Go.AE.Y
attribute [local instance] Classical.propDecidable
variable {cs:List CodeD}{L:CodeD->List Nat}
structure PkL (cs:List CodeD)(L:CodeD->List Nat):Prop where
 p:∀k,k<cs.length->Pk (Qt cs k) (L (Qt cs k))
 n:∀k,k<cs.length->(L (Qt cs k)).Nodup
structure PkF (cs:List CodeD)(L:CodeD->List Nat)(f f':Fr):Prop where
 k:f.k<cs.length
 b:f.b∈L (Qt cs f.k)
 t:∃p,(Qx (Qt cs f.k) f.b).ins=p++f.todo
 e:f'=⟨f.k,(L (Qt cs f.k)).idxOf f.b,f.todo,f.ae⟩
theorem EP {k:Nat}(hk:k<cs.length):Qt (cs.map λq=>pkE q (L q)) k=pkE (Qt cs k) (L (Qt cs k)):=by
 rw[CS ZaZ,CS hk];simp
theorem Hc {q:CodeD}{l:List Nat}(hn:l.Nodup){b:Nat}(hb:b∈l):Qx (pkE q l) (l.idxOf b)=pkX q (plcs q.blocks.length l) l (l.idxOf b):=by
 have hi:=Jv hb;rw[Cd (by rw[Fa];exact hi),Ed]
theorem pkF0 (hr:RunOk cs)(hL:PkL cs L){k:Nat}(hk:k<cs.length)(l:List Int):PkF cs L (fr0 cs k l) (fr0 (cs.map λq=>pkE q (L q)) k l):=by
 obtain⟨z1,z2⟩:=Qb27 (hL.p k hk);refine⟨hk,z1,⟨[],rfl⟩,?_⟩;rw[fr0,fr0,EP hk];have:=Hc (q:=Qt cs k) (hL.n k hk) z1;rw[z2]at this;rw[this];simp only[z2,Fr.mk.injEq,true_and];refine⟨?_,rfl⟩;rw[pkX];have hz:=(hL.p k hk).z;rw[show (L (Qt cs k)).getD 0 0=0 by simp[Jb,hz]]
theorem Qb5h {q:CodeD}{l:List Nat}(ho:q.ok)(hp:Pk q l)(hn:l.Nodup){b n:Nat}(hb:b∈l)(hm:n∈l)(hv:(n:Int)∈gnx q b)(R:List Int)(p:PhiD) :
  C0 R (wayI (pkE q l) (l.idxOf n) (l.idxOf b)) (nwP q (plcs q.blocks.length l) l (l.idxOf n) p)=C0 R (wayI q n b) p:=by
 have hi:=Jv hb;have hj:=Jv hm;have dH:((l.idxOf b:Nat):Int)∈Qz (pkN q (plcs q.blocks.length l) l) ((l.idxOf n:Nat):Int) l.length:=by
  rw[Qz];refine Jo.2 ⟨l.idxOf b,?_,rfl⟩;simp only[Jav,Jad,Jap];refine⟨hi,?_⟩;rw[G1 hi,List.getElem_idxOf hi,G4 ho hp hn (G3 hp.lt) hb];refine Jo.2 ⟨(n:Int),by rw[<-D2 (hp.lt b hb)];exact hv,ZD⟩
 rw[C0,C0,nwP,nwA,wayI,wayI,K4 hp,Fa];congr 1;have hx:=Jv dH;rw[Jb,Jt,Jg hx,Jx,Js,List.getElem_idxOf hx];rw[(hp.get hj).1,List.getElem_idxOf hj,Ja4,(hp.get hi).1,List.getElem_idxOf hi]
theorem XG (hr:RunOk cs)(hL:PkL cs L):SimR cs (cs.map λq=>pkE q (L q)) (PkF cs L) 1:=by
 refine⟨Ji _,λk b x t R f' h=>?_,λk b R f' fs fs' s c h hf=>⟨1,Ji _,?_⟩⟩
 ·obtain⟨hk,hb,⟨p,hp⟩,rfl⟩:=h;have hx:x∈(Qx (Qt cs k) b).ins:=by rw[hp];simp
  refine⟨_,_,_,_,rfl,⟨rfl,rfl,rfl,λ_=>rfl,λiC l _=>?_⟩,λR' _=>⟨hk,hb,⟨p++[x],by rw[hp];simp⟩,rfl⟩⟩;have:=hr.call k b hk x hx iC;exact pkF0 hr hL (Nat.lt_trans this hk) l
 ·obtain⟨hk,hb,⟨p,hp⟩,rfl⟩:=h;have hP:=hL.p k hk;have hn:=hL.n k hk;have ho:=hr.ok k hk;have bu:=hP.lt b hb;have hi:=Jv hb;have cr:=Hc (q:=Qt cs k) hn hb;show RelC _ (stJ cs k b R fs s c) (stJ (cs.map λq=>pkE q (L q)) k ((L (Qt cs k)).idxOf b) R fs' s c);have hX:pkX (Qt cs k) (plcs (Qt cs k).blocks.length (L (Qt cs k))) (L (Qt cs k)) ((L (Qt cs k)).idxOf b)
    = ⟨(Qx (Qt cs k) b).ab.map (nwP (Qt cs k) (plcs (Qt cs k).blocks.length (L (Qt cs k))) (L (Qt cs k)) ((L (Qt cs k)).idxOf b)),(Qx (Qt cs k) b).ins,(Qx (Qt cs k) b).jump,(Qx (Qt cs k) b).on,(Qx (Qt cs k) b).next.map λv=>(((L (Qt cs k)).idxOf v.toNat:Nat):Int)⟩:=by
   rw[pkX,(hP.get hi).1,List.getElem_idxOf hi,G4 ho hP hn (G3 hP.lt) hb]
  have b6:(Qx (Qt (cs.map λq=>pkE q (L q)) k) ((L (Qt cs k)).idxOf b)).jump=(Qx (Qt cs k) b).jump:=by rw[EP hk,cr,hX]
  by_cases hj:(Qx (Qt cs k) b).jump=3
  ·rw[EH hj,EH (by rw[b6,hj]),EP hk,cr,hX];exact SimR.rtnF hf λk b x t R f' h=>by
    obtain⟨hk,hb,⟨p,hp⟩,rfl⟩:=h;exact⟨_,_,_,_,rfl,rfl,λR' _=>⟨hk,hb,⟨p++[x],by rw[hp];simp⟩,rfl⟩⟩
  ·rw[Ec hj,Ec (by rw[b6];exact hj)];obtain⟨v,hv,e,e2⟩:=FJ hr hk bu hj R;have iG:v∈gnx (Qt cs k) b:=by rw[D2 bu];exact hv
   have bN:=hP.cl b hb v iG;have nj:1<=v:=by
    have:=(ho.bs b bu).nx v (by rw[Cd bu]at hv;exact hv);omega
   have e':nxB (Qx (Qt (cs.map λq=>pkE q (L q)) k) ((L (Qt cs k)).idxOf b)) R=(L (Qt cs k)).idxOf (nxB (Qx (Qt cs k) b) R):=by
    rw[EP hk,cr,hX,e,nxB,ixB];rw[ixB]at e2;simp only[Jb,Jt,e2,Jx,Js,Ja4]
   rw[e',e];refine .go s c ⟨hk,bN,⟨[],rfl⟩,?_⟩ hf;rw[frJ,frJ,EP hk,Hc hn bN];simp only[Fr.mk.injEq,true_and];have AS:=Jv bN;have g0:(L (Qt cs k)).getD ((L (Qt cs k)).idxOf v.toNat) 0=v.toNat:=by rw[(hP.get AS).1,List.getElem_idxOf AS]
   rw[pkX,g0];refine⟨rfl,?_⟩;refine Yz λp hp=>⟨rfl,?_⟩;exact Qb5h ho hP hn hb bN (by rw[show ((v.toNat:Nat):Int)=v by omega];exact iG) R p
theorem Qbsj (hr:RunOk cs)(hL:PkL cs L)(l:List Int){S:Nat}(hS:S<=60000):Ek cs (cs.map λq=>pkE q (L q)) l S:=by
 refine (XG hr hL).same ZB ?_;rw[Je];exact pkF0 hr hL (by have:=hr.n;omega) l
end Go.AE.Y
namespace Go.AE.Y
attribute [local instance] Classical.propDecidable
variable {cs:List CodeD}{q:CodeD}
theorem EndsR.then {cs cs' cs'':List CodeD}{l:List Int}{S:Nat}(h:EndsR cs cs' l)(h2:Ek cs' cs'' l S):Ek cs cs'' l S:=by
 rw[Ek]
 cases hx:C5 cs S (cf0 cs l)with
 |go fs s c=>exact .inl (by rw[outR,hx])
 |dn e v s c=>
  have e1:outR cs l S=outR cs' l S:=by rw[outR,outR,hx,h S e v s c hx]
  rw[e1];exact h2
noncomputable def skD (q:CodeD):CodeD:=drpE (skE q)
theorem VP (hg:BP cs=true)(l:List Int){S:Nat}(hS:S<=60000):Ek cs (cs.map skD) l S:=by
 have cZ:=Mc hg;refine (Qbuy hg l).then ?_;have:=Qbsj (L:=λq=>rchL q.blocks.length (nxN (gnx q))) (G6 cZ) ⟨λk hk=>((G6 cZ).ok k hk).rchPk,λk hk=>FB _ _⟩ l hS;rw[Jat]at this;exact this
theorem KS (hg:BP cs=true):BP (cs.map skD)=true:=by
 have:=Qbvu (Mc hg);rw[Jat]at this;exact this
end Go.AE.Y
namespace Go.AE.Y
attribute [local go_sem] cond_true cond_false Bool.not_true Bool.not_false
attribute [local instance] Classical.propDecidable
open Go.Proofs.Tryz
variable {H H0:Heap}{K:Uk}{q p:CodeD}{ks:List NX}
def skO (x3 x2 z:Nat)(q:CodeD):List (Nat×Obj):=[(x3,.st [.int .i64 q.params,.int .i64 q.ae,.ah z 5 0 q.blocks.length])]++[(x2,.st [.int .i64 0,.int .i64 0,.sl true 5 []])]
theorem SkI.at {i k j:Nat}(h:SkI q i k ks)(hj:j<q.blocks.length):∃w,∃(hl:j<ks.length),ks[j]=w/\w∈ks/\(ks.map NX.row).getD j []=[.sl false 2 (Q6 w.y.ab),.sl false 4 (BJ w.y.ins),Ui w.y.jump,Ui w.y.on,w.c]/\w.y.next=nxS q i k j/\w.ok:=by
 have hl:j<ks.length:=by rw[h.n];exact hj
 exact⟨ks[j],hl,rfl,Jd hl,by simp[Jb,hl,NX.row],by rw[h.y j hl],h.ok _ (Jd hl)⟩
theorem Qb7e {b N:Nat}(hJ:SkJ q)(h:skF q=some b)(c:Nat):skW (skS q) * (N+1)+(N-1)<skW q * (N+1)+(N-c):=by
 have h1:=FS hJ h;have h2:(skW (skS q)+1) * (N+1)<=skW q * (N+1):=Ja0 _ h1;rw[Nat.add_mul]at h2;omega
theorem NX.arr {w:NX}(h:w.ok)(hn:0<w.y.next.length):∃y,w.c=.ah y 1 0 w.y.next.length/\w.nl=[(y,.vec 1 (Qb w.y.next))]:=by
 rcases h with ⟨_,h,_⟩|⟨y,h1,h2⟩
 ·have:=congrArg List.length h;rw[Qc,Jl]at this;omega
 ·exact⟨y,by rw[h1,Qc],h2⟩
theorem Qbq4 (hs:SkOk q)(hK:∀H',Upd H H' []->K (.ag (skD q).cells) H') :
  Qr prog Nb [.ag [Ui q.params,Ui q.ae,.sl false 5 (Qo q.blocks)]] H K:=by
 have ho:q.ok:=hs.ok 0;have eV:=ho.b0;have ba:=ho.b1;refine Qy ?_;refine Qd BF Qbrv ?_;refine Za ?_;intro x2 aI H1 h1;have kn:=(Kn.an H).al aI h1;refine Za ?_;refine Qbw2 (q:=q) ho.sg ho.b0 λz ks H2 cW dq k2=>?_;have kn:=kn.comp0 k2;simp only[go_sem,Sc];intro x3 aL H3 h3;have kn:Kn H H3 [] ([(x3,.st [Ui 0,Ui 0,.sl true 5 []])]++([(x2,.st [Ui 0,Ui 0,.sl true 5 []])]++([(z,.vec 5 (ks.map NX.row))]++ks.flatMap NX.nl))):=(kn.al aL h3).perm Jr;have aL:=kn.l 0 rfl;simp only[go_sem,EK,aL];intro H4 h4;have kn:=kn.aB 0 rfl h4;have kn:Kn H H4 [] (skO x3 x2 z q++([(z,.vec 5 (ks.map NX.row))]++ks.flatMap NX.nl)):=by
  rw[skO,Jal];exact kn
 refine Wa ?_;refine Qh (Qe (Qw (λmm e1 H1=>∃(i b:Nat) (ks:List NX),mm=skW (Nat.repeat skS i q) * (q.blocks.length+1)+(q.blocks.length-b)/\1<=b/\b<=q.blocks.length/\(∀c,c<b->¬SkP (Nat.repeat skS i q) c)/\ks.map NX.y=(Nat.repeat skS i q).blocks/\(∀k∈ks,k.ok)/\
  Kn H H1 [] (skO x3 x2 z q++([(z,.vec 5 (ks.map NX.row))]++ks.flatMap NX.nl))/\e1=[(2,Up x2),(3,Up x3),(4,Uv b)]) (skW (Nat.repeat skS 0 q) * (q.blocks.length+1)+(q.blocks.length-1)) ?_ ?_))
 ·exact⟨0,1,ks,rfl,ZB,ZB,λc hc hp=>absurd hp.b0 ZB,cW,dq,kn,rfl⟩
 clear kn aL cW dq k2;rintro mm e1 H5 ⟨i,b,ks,ez,hb1',bu,bD,cW,dq,kn,rfl⟩;obtain⟨p,hp⟩:∃p,Nat.repeat skS i q=p:=⟨_,rfl⟩;have nP:p.ok:=by rw[<-hp];exact hs.ok i
 have tI:∀b,b<p.blocks.length->((Qx p b).next.length:Int)=Cq (Qx p b).jump:=by rw[<-hp];exact hs.jn i
 have xK:SkJ p:=by rw[<-hp];exact hs.J i
 have da:p.blocks.length=q.blocks.length:=by rw[<-hp];exact Ha i
 have dV:p.params=q.params/\p.ae=q.ae:=by rw[<-hp];exact FR i
 have hO:skO x3 x2 z q=skO x3 x2 z p:=by rw[skO,skO,dV.1,dV.2,da]
 rw[hp]at ez bD cW;rw[hO]at kn;have cg:(ks.map NX.row).length=p.blocks.length:=by rw[Je,<-cW,Je]
 have jf:(ks.map NX.row).take p.blocks.length=ks.map NX.row:=Jf ZB;have aL:H5 x3=.st [Ui p.params,Ui p.ae,.ah z 5 0 p.blocks.length]:=kn.l 0 rfl;have aI:H5 x2=.st [Ui 0,Ui 0,.sl true 5 []]:=kn.l 1 rfl;have hz:H5 z=.vec 5 (ks.map NX.row):=kn.l 2 rfl;refine Q1 (Qa ?_);simp only[go_sem,aL,hz,cg];refine⟨ZB,λ_=>?_⟩;refine Wu ?_ ?_
 ·intro hc;have af:b<p.blocks.length:=by have:(b:Int)<p.blocks.length:=of_decide_eq_true hc;omega
  refine Zc ?_
  refine Qh (Qe ?_);refine Q1 (Qa ?_);simp only[go_sem,aL];have hR:NxR H5 p (.ah z 5 0 p.blocks.length) ks:=.of kn cW dq hz λx hx=>Ja _ (Ja _ hx);refine Qbly hR af nP (tI b af) λH6 hu=>?_;have kn:=kn.aw hu;simp only[go_sem,FM];refine Wu ?_ ?_
  ·intro aD;have jG:¬SkP p b:=ZH
   refine Qu ?_;simp only[go_sem];refine Zg ?_;refine⟨Qs,skW p * (q.blocks.length+1)+(q.blocks.length-(b+1)),ZB,i,b+1,ks,by rw[hp],ZB,ZB,λc hc=>?_,by rw[hp];exact cW,dq,by rw[hO];exact kn,rfl⟩;rw[hp];by_cases fK:c=b
   ·rw[fK];exact jG
   ·exact bD c ZB
  ·intro aD;have lU:SkP p b:=ZH
   have hF:=N7 lU bD;have fE:=Qb7e (N:=q.blocks.length) xK hF b;have cO:(Qx p b).next.length=1:=by
    have:=tI b af;rw[lU.j]at this;simp[Cq]at this;omega
   have hI:=SkI.zero cW dq;clear cW dq hc aD hR;refine Zc ?_
   obtain⟨w,gk,hw,fD,aC,eQ,kW⟩:=hI.at (j:=b) af;have eQ:w.y.next=(Qx p b).next:=by rw[eQ,<-D2 af];simp only[nxS];split;omega;split <;> simp
   obtain⟨y,iF,kV⟩:=NX.arr kW (by rw[eQ];omega);rw[eQ,cO]at iF;rw[eQ]at kV;have hy:H6 y=.vec 1 (Qb (Qx p b).next):=(kn.get (y,.vec 1 (Qb (Qx p b).next)) (Ja _ (Ja _ (Ja _ (Jm.2 ⟨w,fD,by rw[kV];simp⟩))))).1;have aL:H6 x3=.st [Ui p.params,Ui p.ae,.ah z 5 0 p.blocks.length]:=kn.l 0 rfl;have hz:H6 z=.vec 5 (ks.map NX.row):=kn.l 2 rfl;rw[iF]at aC;have oG:0<(Qx p b).next.length:=ZB
   have bm:=Qk (Qx p b).next 0 oG;have rY:(Qb (Qx p b).next).take 1=Qb (Qx p b).next:=Jf ZS;refine Qa ?_;simp only[go_sem,aL,hz,cg,jf,af,aC,hy,cO,rY,bm,Qc];refine⟨ZB,ZB,ZB,?_⟩;have qs:(Qx p b).next.getD 0 0=skT p b:=rfl;rw[qs];refine Wa ?_;clear aC hy iF kV eQ kW hw fD aL hz jf cg bm;refine Qh (Qe (Qw (λmm e1 H1=>∃(j:Nat) (ks:List NX),mm=p.blocks.length-j/\j<=p.blocks.length/\SkI p j 0 ks/\Kn H H1 [] (skO x3 x2 z p++([(z,.vec 5 (ks.map NX.row))]++ks.flatMap NX.nl))/\
    e1=[(2,Up x2),(3,Up x3),(4,Uv b),(5,Uv (skT p b)),(6,Uv j)]) p.blocks.length ?_ ?_))
   ·exact⟨0,ks,ZB,ZB,hI,kn,rfl⟩
   clear kn hI;rintro mm2 e2 H7 ⟨j,ks,fw,hj,hI,kn,rfl⟩;have cg:(ks.map NX.row).length=p.blocks.length:=ZaU
   have jf:(ks.map NX.row).take p.blocks.length=ks.map NX.row:=Jf ZB;have aL:H7 x3=.st [Ui p.params,Ui p.ae,.ah z 5 0 p.blocks.length]:=kn.l 0 rfl;have hz:H7 z=.vec 5 (ks.map NX.row):=kn.l 2 rfl;refine Q1 (Qa ?_);simp only[go_sem,aL,hz,cg];refine⟨ZB,λ_=>?_⟩;refine Wu ?_ ?_
   ·intro rB;have cN:j<p.blocks.length:=(by have:(j:Int)<p.blocks.length:=of_decide_eq_true rB;omega);refine Zc ?_
    refine Wg ?_;clear aL hz jf cg;refine Qe (Qw (λmm e1 H1=>∃(k:Nat) (ks:List NX),mm=(gnx p j).length-k/\k<=(gnx p j).length/\SkI p j k ks/\Kn H H1 [] (skO x3 x2 z p++([(z,.vec 5 (ks.map NX.row))]++ks.flatMap NX.nl))/\
     e1=[(2,Up x2),(3,Up x3),(4,Uv b),(5,Uv (skT p b)),(6,Uv j),(7,Uv k)]) (gnx p j).length ?_ ?_)
    ·exact⟨0,ks,ZB,ZB,hI,kn,rfl⟩
    clear kn hI;rintro mm3 e3 H8 ⟨k,ks,qS,hk,hI,kn,rfl⟩;have cg:(ks.map NX.row).length=p.blocks.length:=ZaU;have jf:(ks.map NX.row).take p.blocks.length=ks.map NX.row:=Jf ZB;have aL:H8 x3=.st [Ui p.params,Ui p.ae,.ah z 5 0 p.blocks.length]:=kn.l 0 rfl;have hz:H8 z=.vec 5 (ks.map NX.row):=kn.l 2 rfl;obtain⟨w,gk,hw,fD,aC,eQ,kW⟩:=hI.at cN;have fQ:w.y.next.length=(gnx p j).length:=(by rw[eQ,EN]);have ck:=(nP.bs j cN).nxl;rw[<-Cd cN,<-D2 cN]at ck;have o5:=Gr.ai kW;have d9:Slc H8 1 (Qb w.y.next) w.c:=Gr.slcM kW kn λx hx=>Ja _ (Ja _ (Jm.2 ⟨w,fD,hx⟩));have dg:=eq_true d9.ok;have cU:=d9.len;have gD:=d9.sz;have gG:=d9.rows;refine Q1 (Qa ?_);simp only[go_sem,aL,hz,cg,jf,cN,aC,o5,dg,cU,Qc,fQ];refine⟨ZB,ZB,λ_=>?_⟩;refine Wu ?_ ?_
    ·intro jM;have fk:k<(gnx p j).length:=(by have:(k:Int)<(gnx p j).length:=of_decide_eq_true jM;omega);refine Zc ?_
     have bm:=Qk w.y.next k ZB;rw[eQ,Hg fk]at bm;rw[<-eQ]at bm;refine Ck (λe2 H2=>∃ks:List NX,SkI p j (k+1) ks/\Kn H H2 [] (skO x3 x2 z p++([(z,.vec 5 (ks.map NX.row))]++ks.flatMap NX.nl))/\
      lk 2 e2=Up x2/\lk 3 e2=Up x3/\lk 4 e2=Uv b/\lk 5 e2=Uv (skT p b)/\lk 6 e2=Uv j/\lk 7 e2=Uv k) ?_ ?_
     ·intro Q bB _ _;refine Qe (Qa ?_);simp only[go_sem,aL,hz,cg,jf,cN,aC,o5,dg,cU,gD,gG,bm,Qc,fQ,fk];refine⟨ZB,ZB,?_⟩;refine Wv ?_ ?_
      ·intro hv;have hv:(gnx p j)[k]=(b:Int):=Za0;have qr:skG p (gnx p j)[k]=skT p b:=ZaE;obtain⟨y,iF,kV⟩:=NX.arr kW ZB;rw[fQ]at iF;have hy:H8 y=.vec 1 (Qb w.y.next):=(kn.get (y,.vec 1 (Qb w.y.next)) (Ja _ (Ja _ (Ja _ (Jm.2 ⟨w,fD,by rw[kV];simp⟩))))).1;rw[iF]at aC;refine Qp ?_;simp only[go_sem,aL,hz,cg,jf,cN,aC,hy,Qc,fQ,fk];refine⟨ZB,ZB,ZB,ZB,?_⟩;rw[Jj,bm];intro H9 h9;have e:(Qb w.y.next).set k [Ui (skT p b)]=Qb (nxS p j (k+1) j):=(by rw[Fg,eQ,Hz fk,qr]);have h9:H9=H8.set y (.vec 1 ((Qb w.y.next).set k [Ui (skT p b)])):=h9;rw[e]at h9;exact bB _ _ ⟨_,hI.step gk hw iF rfl,Mo kn gk hw kV KQ rfl h9,rfl,rfl,rfl,rfl,rfl,rfl⟩
      ·intro hv;have hv:¬(gnx p j)[k]=(b:Int):=Za0;have qr:skG p (gnx p j)[k]=(gnx p j)[k]:=ZaE;refine Zc ?_
       exact bB _ _ ⟨ks,hI.same fk qr,kn,rfl,rfl,rfl,rfl,rfl,rfl⟩
     ·rintro e2 H9 ⟨ks2,rN,kn2,l2,l3,l4,l5,l6,l7⟩;refine Qp ?_;simp only[go_sem,X.next,l2,l3,l4,l5,l6,l7];exact⟨Qs,(gnx p j).length-(k+1),ZB,k+1,ks2,rfl,ZB,rN,kn2,rfl⟩
    ·intro jM;have iL:k=(gnx p j).length:=(by have:¬(k:Int)<(gnx p j).length:=of_decide_eq_false jM;omega);rw[iL]at hI;refine Zb ?_;refine Zg ?_;exact⟨Qs,p.blocks.length-(j+1),ZB,j+1,ks,rfl,ZB,hI.row,kn,rfl⟩
   ·intro rB;have jX:j=p.blocks.length:=(by have:¬(j:Int)<p.blocks.length:=of_decide_eq_false rB;omega);rw[jX]at hI;refine Zb ?_;refine Zh ?_;refine Zg ?_;refine⟨Qs,skW (skS p) * (q.blocks.length+1)+(q.blocks.length-1),ZB,i+1,1,ks,?_,ZB,ZB,λc hc hp=>absurd hp.b0 ZB,?_,hI.ok,by rw[hO];exact kn,rfl⟩
    ·show _=skW (skS (Nat.repeat skS i q)) * _+_;rw[hp]
    ·show _=(skS (Nat.repeat skS i q)).blocks;rw[hp];exact hI.end
 ·intro hc;have jx:b=p.blocks.length:=by have:¬(b:Int)<p.blocks.length:=of_decide_eq_false hc;omega
  have sG:skF p=none:=N8 λc hc=>bD c ZB;have xL:p=skE q:=ZaS
  have Al:skD q=drpE p:=by rw[skD,<-xL]
  refine Zb ?_;obtain⟨S,H6,eE,kn⟩:=Mv kn cW dq;refine Q1 (c_gh (E7 S (Fi ?_) eE) (e':=[(2,Up x2),(3,Up x3),(4,Uv b)]) ?_)
  ·simp only[Jn];exact⟨.c _ _ (.same _ rfl),.c _ _ (.same _ rfl),.c _ _ (.same _ rfl),ZD⟩
  have aL:=kn.l 0 rfl;refine Zj aL ?_;refine Qblq nP λz2 H7 k2=>?_;have kn:=kn.comp0 k2;have aI:H7 x2=.st [Ui 0,Ui 0,.sl true 5 []]:=kn.l 1 rfl;simp only[go_sem,Q4e,aI];intro H8 h8;have kn:=kn.aB 1 rfl h8;have aI:H8 x2=.st [Ui p.params,Ui p.ae,.ah z2 5 0 (drpE p).blocks.length]:=kn.l 1 rfl;have hz2:H8 z2=.vec 5 (Qo (drpE p).blocks):=kn.l 2 rfl;refine Zl aI ?_;rw[Al]at hK;exact⟨_,FrzL.ag (.cons (Qg rfl) (.cons (Qg rfl) (.cons (FrzR.ah (kn.un 2 rfl) hz2 (by rw[Qn]) (FrzR.same (T2 _))) .nil))),hK _ kn.fin⟩
end Go.AE.Y
namespace Go.AE.Y
attribute [local go_sem] cond_true cond_false Bool.not_true Bool.not_false
open Go.Proofs.Tryz
variable {H H0:Heap}{K:Uk}{E B Lg:Ul}{q:CodeD}
abbrev Plc:=Int×Int
def pRow (p:Plc):List C:=[.sl true 1 [[.int .i64 p.1],[.int .i64 p.2]]]
def CN (ps:List Plc):List (List C):=ps.map pRow
theorem Tm (ps:List Plc):(CN ps).length=ps.length:=by simp[CN]
theorem Qbml (ps:List Plc)(i:Nat)(h:i<ps.length):(CN ps).getD i []=pRow ps[i]:=by simp[CN,Jb,h]
theorem Q5o (ps:List Plc):∀r∈CN ps,ak r=true:=by intro r hr;obtain⟨x,_,rfl⟩:=Jo.1 hr;rfl
def phS (q:CodeD)(b k r:Nat):List Plc:=(((Qx q b).ab.take k).filter λp=>decide (p.to=(r:Int))).map λ_=>((b:Int),(-1:Int))
def Eg (q:CodeD)(b i:Nat):Int:=(((Qx q b).ins[i]?).map De).getD (-1)
def inS (q:CodeD)(b j r:Nat):List Plc:=((List.range j).filter λi=>decide (Eg q b i=(r:Int))).map λ(i:Nat)=>((b:Int),(i:Int))
def blS (q:CodeD)(b r:Nat):List Plc:=phS q b (Qx q b).ab.length r++inS q b (Qx q b).ins.length r
def Dl (q:CodeD)(b r:Nat):List Plc:=(List.range b).flatMap λb=>blS q b r
def D5 (q:CodeD)(r:Nat):List Plc:=Dl q q.blocks.length r
def DD (q:CodeD):List (List C):=(List.range q.ae.toNat).map λr=>[.sl false 1 (CN (D5 q r))]
theorem Y0 {b k r:Nat}(h:k<(Qx q b).ab.length):phS q b (k+1) r=phS q b k r++if (Qx q b).ab[k].to=(r:Int)then [((b:Int),(-1:Int))]else []:=by
 rw[phS,phS,Jz h,Jaj,Jp];congr 1;by_cases hc:(Qx q b).ab[k].to=(r:Int)
 ·rw[if_pos hc];simp[hc]
 ·rw[if_neg hc];simp[hc]
theorem Qbr8 {b i:Nat}(h:i<(Qx q b).ins.length):Eg q b i=De (Qx q b).ins[i]:=by simp[Eg,h]
theorem Lt {b j r:Nat}:inS q b (j+1) r=inS q b j r++if Eg q b j=(r:Int)then [((b:Int),(j:Int))]else []:=by
 rw[inS,inS,Jax,Jaj,Jp];congr 1;by_cases hc:Eg q b j=(r:Int)
 ·rw[if_pos hc];simp[hc]
 ·rw[if_neg hc];simp[hc]
theorem Qbio {b r:Nat}:Dl q (b+1) r=Dl q b r++blS q b r:=by simp[Dl,Jax]
theorem Qbb3 (x:InsD):(CQ x.op=true/\De x=x.to)\/(CQ x.op=false/\De x=-1):=by
 cases h:CQ x.op with
 |true=>exact .inl ⟨rfl,by simp[De,h]⟩
 |false=>exact .inr ⟨rfl,by simp[De,h]⟩
structure SReg where
 ps:List Plc
 c:C
 lg:Ul
def SReg.row (s:SReg):List C:=[s.c]
def SReg.ok (s:SReg):Prop:=Gr s.lg 1 (CN s.ps) s.c
structure SInv (R N:Nat)(F:Nat->List Plc)(ss:List SReg):Prop where
 n:ss.length=R
 f:∀r (h:r<ss.length),ss[r].ps=F r
 ok:∀s∈ss,s.ok
 l:∀s∈ss,s.ps.length<=N
variable {R N:Nat}{F F':Nat->List Plc}{ss:List SReg}
theorem SInv.get (h:SInv R N F ss){x:Nat}(hx:x<R):∃s∈ss,∃gB:x<ss.length,ss[x]=s/\s.ps=F x/\s.ok/\s.ps.length<=N/\(ss.map SReg.row).getD x []=[s.c]:=
 have gB:x<ss.length:=by rw[h.n];exact hx
 ⟨ss[x],Jd gB,gB,rfl,h.f x gB,h.ok _ (Jd gB),h.l _ (Jd gB),by simp[Jb,gB,SReg.row]⟩
theorem SInv.put (h:SInv R N F ss){x:Nat}(hx:x<R){p:Plc}{t:C}{Lg:Ul}(hg:Gr Lg 1 (CN (F x++[p])) t)(hF:∀r,F' r=if r=x then F x++[p]else F r) :
  SInv R (N+1) F' (ss.set x ⟨F x++[p],t,Lg⟩):=by
 obtain⟨s,hs,gB,e1,e2,e3,e4,_⟩:=h.get hx;refine⟨by rw[J1];exact h.n,λr hr=>?_,λw hw=>?_,λw hw=>?_⟩
 ·rw[Jag,hF];split
  ·rename_i e;rw[if_pos e.symm]
  ·rename_i e;rw[if_neg (λhh=>e hh.symm)];exact h.f r Zah
 ·rcases J3 hw with hw|rfl
  ·exact h.ok w hw
  ·exact hg
 ·rcases J3 hw with hw|rfl
  ·have:=h.l w hw;omega
  ·rw[e2]at e4;simp only[J6,Jk,Jl];omega
theorem SInv.same (h:SInv R N F ss)(hF:∀r,r<R->F' r=F r):SInv R N F' ss:=⟨h.n,λr hr=>by rw[h.f r hr,hF r Za6],h.ok,h.l⟩
theorem SInv.up (h:SInv R N F ss){M:Nat}(hM:N<=M):SInv R M F ss:=⟨h.n,h.f,h.ok,λs hs=>by have:=h.l s hs;omega⟩
def ssL (o:Nat)(ss:List SReg):List (Nat×Obj):=[(o,.vec 1 (ss.map SReg.row))]++ss.flatMap SReg.lg
theorem HK {o x:Nat}{s:SReg}(hx:x<ss.length)(hs:ss[x]=s):(ssL o ss).Perm (([(o,.vec 1 (ss.map SReg.row))]++(ss.eraseIdx x).flatMap SReg.lg)++s.lg):=by
 subst hs;have:=DK (f:=SReg.lg) hx;rw[ssL];refine Qj λf hf h0 hc hp=>?_;have:=hp _ _ this;simp only[Ui,hf]at this⊢;omega
theorem KL {o x:Nat}{s:SReg}(hx:x<ss.length):(([(o,Obj.vec 1 ((ss.set x s).map SReg.row))]++(ss.eraseIdx x).flatMap SReg.lg)++s.lg).Perm (ssL o (ss.set x s)):=by
 have h1:=HK (o:=o) (ss:=ss.set x s) (x:=x) (s:=s) (by rw[J1];exact hx) ZD;rw[Jay]at h1;exact h1.symm
theorem Qbq2 {fl:Bool}(ho:q.ok)(hK:∀H',Upd H H' []->K (.c (.sl false 1 (DD q))) H') :
  Qr prog Nd [.ag [Ui q.params,Ui q.ae,.sl fl 5 (Qo q.blocks)]] H K:=by
 have bE:=ho.r0;have cI:=ho.r1;have ba:=ho.b1;obtain⟨R,hR⟩:∃R:Nat,q.ae.toNat=R:=⟨_,rfl⟩;have uX:q.ae=(R:Int):=ZB
 refine Qy ?_;refine Qd BF Qbrt ?_;refine Za ?_;refine Zj uX ?_;refine⟨by simp only[LIM];omega,λo kZ H1 h1=>?_⟩;have kn:Kn H H1 [] (ssL o (List.replicate R ⟨[],.sl true 1 [],[]⟩)):=by
  have e:(List.replicate R (SReg.mk [] (.sl true 1 []) [])).flatMap SReg.lg=[]:=List.flatMap_eq_nil_iff.2 λs hs=>by rw[J0 hs]
  have:=(Kn.an H).al kZ h1;rw[ssL,e];simpa[SReg.row]using this
 simp only[go_sem,Q9v];have mW:SInv R 0 (Dl q 0) (List.replicate R ⟨[],.sl true 1 [],[]⟩):=⟨ZD,λr h=>by simp[Dl],λs hs=>by rw[J0 hs];exact .nil 1,λs hs=>by rw[J0 hs];simp⟩;generalize List.replicate R (SReg.mk [] (.sl true 1 []) [])=ss0 at *;refine Wa ?_;refine Qh (Qe (Qw (λm e1 H1=>∃(b N:Nat) (ss:List SReg),m=q.blocks.length-b/\b<=q.blocks.length/\N<=b * 2400/\SInv R N (Dl q b) ss/\Kn H H1 [] (ssL o ss)/\
  lk 1 e1=.c (.pp [Ui q.params,Ui (R:Int),.sl fl 5 (Qo q.blocks)])/\lk 3 e1=.c (.ah o 1 0 R)/\lk 4 e1=Uv b) q.blocks.length ?_ ?_))
 ·exact⟨0,0,ss0,ZB,ZB,ZB,mW,kn,rfl,rfl,rfl⟩
 ·clear kn mW h1 kZ;clear ss0;rintro m e1 H1 ⟨b,N,ss,hm,hb,pH,hS,kn,l1,l3,l4⟩;refine Q1 (Qa ?_);simp only[go_sem,l1,l3,l4,Qn];try intro _
  refine Wu ?_ ?_
  ·intro hc;have af:b<q.blocks.length:=ZE
   obtain⟨y,hy⟩:∃y,q.blocks[b]=y:=⟨_,rfl⟩;have gV:Qx q b=y:=by rw[Cd af,hy]
   have cz:=ho.bs b af;have cM:=ho.il b af;rw[hy]at cz cM;refine Zc ?_
   refine Qh (Qe ?_);refine Wa ?_;refine Qh (Qe (Qw (λm e1 H1=>∃(k N:Nat) (ss:List SReg),m=y.ab.length-k/\k<=y.ab.length/\N<=b * 2400+k/\SInv R N (λr=>Dl q b r++phS q b k r) ss/\Kn H H1 [] (ssL o ss)/\
    lk 1 e1=.c (.pp [Ui q.params,Ui (R:Int),.sl fl 5 (Qo q.blocks)])/\lk 3 e1=.c (.ah o 1 0 R)/\lk 4 e1=Uv b/\lk 5 e1=Uv k) y.ab.length ?_ ?_))
   ·exact⟨0,N,ss,ZB,ZB,Jbc pH (Ja8 _ _),hS.same λr _=>by simp[phS],kn,rfl,rfl,rfl,rfl⟩
   ·clear kn hS l1 l3 l4;clear ss pH;clear N;rintro m2 e2 H2 ⟨k,N,ss,fw,hk,pH,hS,kn,l1,l3,l4,l5⟩;refine Q1 (Qa ?_);simp only[go_sem,l1,l3,l4,l5,af,Qn,Cy _ _ af,BlkD.cells,hy,Q0];try intro _
    refine Wu ?_ ?_
    ·intro aD;have aT:k<y.ab.length:=ZH;obtain⟨p,hp⟩:∃p,y.ab[k]=p:=⟨_,rfl⟩;have eR:p∈y.ab:=(by rw[<-hp];exact Jd aT);obtain⟨hv,bN⟩:=(cz.pto p eR).nat;have tn:∀r,phS q b (k+1) r=phS q b k r++if p.to=(r:Int)then [((b:Int),(-1:Int))]else []:=λr=>by
      have:=Y0 (q:=q) (b:=b) (k:=k) (r:=r) (by rw[gV];exact aT);simp only[gV,hp]at this;exact this
     refine Zc ?_
     refine Qh (Qe ?_);rw[hR]at bN;generalize hx:p.to.toNat=x at *;obtain⟨s,js,eP,qp,tz,aK,eK,jt⟩:=hS.get bN;have iq:=aK.ai;refine Qa ?_;simp only[go_sem,af,Qn,Cy _ _ af,BlkD.cells,hy,Q0,aT,Dh _ _ aT,PhiD.cells,hp];have kn:=kn.perm (HK eP qp);have bg:H2 o=.vec 1 (ss.map SReg.row):=(kn.get (o,.vec 1 (ss.map SReg.row)) ZD).1;have cA:(ss.map SReg.row).length=R:=(by rw[Je,hS.n]);have lW:(ss.map SReg.row).take R=ss.map SReg.row:=Jf ZB;refine Qp ?_;simp only[go_sem,bg,cA,lW,hv,bN,jt,iq,Jj,Ji];refine kn.bk (new:=CN [((b:Int),(-1:Int))]) aK (.mk' _ _ _ _) (Q5o _) (by simp only[Tm,LIM,Jk,Jl];omega) λt2 Lg2 H3 cZ dy kn=>?_;have bg:H3 o=.vec 1 (ss.map SReg.row):=(kn.get (o,.vec 1 (ss.map SReg.row)) ZD).1;simp only[go_sem,Q9w,bg,cA,bN,jt,Jj,Ji];intro H4 h4;obtain⟨s',fi⟩:∃s':SReg,s'=⟨(Dl q b x++phS q b k x)++[((b:Int),(-1:Int))],t2,Lg2⟩:=⟨_,rfl⟩;have bW:(ss.map SReg.row).set x [t2]=(ss.set x s').map SReg.row:=(by rw[Jau,fi];rfl);rw[bW]at h4;have kn:Kn H H4 [] (([(o,.vec 1 ((ss.set x s').map SReg.row))]++(ss.eraseIdx x).flatMap SReg.lg)++s'.lg):=by
      have e:s'.lg=Lg2:=(by rw[fi]);rw[e];exact kn.aB 0 rfl h4
     have kn:=kn.perm (KL eP);refine Zh ?_;refine⟨Qs,?_⟩;show ∃m,_;refine⟨y.ab.length-(k+1),ZB,k+1,N+1,ss.set x s',rfl,ZB,ZB,?_,kn,rfl,rfl,rfl,rfl⟩;rw[fi];refine (hS.put bN (p:=((b:Int),(-1:Int))) (t:=t2) (Lg:=Lg2) ?_ λr=>?_)
     ·have:CN ((Dl q b x++phS q b k x)++[((b:Int),(-1:Int))])=CN s.ps++CN [((b:Int),(-1:Int))]:=(by rw[tz];simp[CN]);rw[this];exact cZ
     ·show Dl q b r++phS q b (k+1) r=_;rw[tn];by_cases gY:r=x
      ·subst gY;rw[if_pos rfl,if_pos hv];simp
      ·rw[if_neg gY,if_neg ZB];simp
    ·intro aD;have iL:k=y.ab.length:=(by have:y.ab.length<=k:=(by simpa using aD);omega);subst iL;refine Wb ?_;refine Qe (Qw (λm e1 H1=>∃(j N:Nat) (ss:List SReg),m=y.ins.length-j/\j<=y.ins.length/\N<=b * 2400+y.ab.length+j/\SInv R N (λr=>Dl q b r++phS q b y.ab.length r++inS q b j r) ss/\Kn H H1 [] (ssL o ss)/\
      lk 1 e1=.c (.pp [Ui q.params,Ui (R:Int),.sl fl 5 (Qo q.blocks)])/\lk 3 e1=.c (.ah o 1 0 R)/\lk 4 e1=Uv b/\lk 7 e1=Uv j) y.ins.length ?_ ?_)
     ·exact⟨0,N,ss,ZB,ZB,Jbc pH (Ja8 _ _),hS.same λr _=>by simp[inS],kn,rfl,rfl,rfl,rfl⟩
     ·clear kn hS l1 l3 l4 l5;clear ss pH;clear N;rintro m3 e3 H3 ⟨j,N,ss,qS,hj,pH,hS,kn,l1,l3,l4,l7⟩;refine Q1 (Qa ?_);simp only[go_sem,l1,l3,l4,l7,af,Qn,Cy _ _ af,BlkD.cells,hy,Cv];try intro _
      refine Wu ?_ ?_
      ·intro bA;have cf:j<y.ins.length:=ZT;obtain⟨x,hx⟩:∃x,y.ins[j]=x:=⟨_,rfl⟩;have jQ:x∈y.ins:=(by rw[<-hx];exact Jd cf);have AK:Eg q b j=De x:=by
        have:=Qbr8 (q:=q) (b:=b) (i:=j) (by rw[gV];exact cf);simp only[gV,hx]at this;exact this
       refine Zc ?_
       refine Ck (λe2 H2=>∃(N:Nat) (ss:List SReg),N<=b * 2400+y.ab.length+(j+1)/\SInv R N (λr=>Dl q b r++phS q b y.ab.length r++inS q b (j+1) r) ss/\Kn H H2 [] (ssL o ss)/\
        lk 1 e2=.c (.pp [Ui q.params,Ui (R:Int),.sl fl 5 (Qo q.blocks)])/\lk 3 e2=.c (.ah o 1 0 R)/\lk 4 e2=Uv b/\lk 7 e2=Uv j) ?_ ?_
       ·intro Q bB _ _;refine Qe (Qa ?_);simp only[go_sem,af,Qn,Cy _ _ af,BlkD.cells,hy,cf,Cv,E6 _ _ cf,InsD.cD,InsD.bv,InsD.len4,hx];refine M5 ?_;simp only[go_sem,Gc];refine Za ?_;refine Wv ?_ ?_
        ·intro ef;have bh:0<=De x:=(by simpa using ef);have di:CQ x.op=true/\De x=x.to:=by
          rcases Qbb3 x with h|⟨_,h⟩
          ·exact h
          ·omega
         obtain⟨hv,bN⟩:=(cz.to x jQ di.1).nat;rw[<-di.2,hR]at bN;rw[<-di.2]at hv;clear di;generalize hx:(De x).toNat=z at *;obtain⟨s,js,eP,qp,tz,aK,eK,jt⟩:=hS.get bN;have iq:=aK.ai;have kn:=kn.perm (HK eP qp);have bg:H3 o=.vec 1 (ss.map SReg.row):=(kn.get (o,.vec 1 (ss.map SReg.row)) ZD).1;have cA:(ss.map SReg.row).length=R:=(by rw[Je,hS.n]);have lW:(ss.map SReg.row).take R=ss.map SReg.row:=Jf ZB;refine Qp ?_;simp only[go_sem,bg,cA,lW,hv,bN,jt,iq,Jj,Ji];refine kn.bk (new:=CN [((b:Int),(j:Int))]) aK (.mk' _ _ _ _) (Q5o _) (by simp only[Tm,LIM,Jk,Jl];omega) λt2 Lg2 H4 cZ dy kn=>?_;have bg:H4 o=.vec 1 (ss.map SReg.row):=(kn.get (o,.vec 1 (ss.map SReg.row)) ZD).1;simp only[go_sem,Q9y,bg,cA,bN,jt,Jj,Ji];intro H5 h5;obtain⟨s',fi⟩:∃s':SReg,s'=⟨(Dl q b z++phS q b y.ab.length z++inS q b j z)++[((b:Int),(j:Int))],t2,Lg2⟩:=⟨_,rfl⟩;have bW:(ss.map SReg.row).set z [t2]=(ss.set z s').map SReg.row:=(by rw[Jau,fi];rfl);rw[bW]at h5;have kn:Kn H H5 [] (([(o,.vec 1 ((ss.set z s').map SReg.row))]++(ss.eraseIdx z).flatMap SReg.lg)++s'.lg):=by
          have e:s'.lg=Lg2:=(by rw[fi]);rw[e];exact kn.aB 0 rfl h5
         have kn:=kn.perm (KL eP);refine bB _ _ ⟨N+1,ss.set z s',ZB,?_,kn,rfl,rfl,rfl,rfl⟩;rw[fi];refine (hS.put bN (p:=((b:Int),(j:Int))) (t:=t2) (Lg:=Lg2) ?_ λr=>?_)
         ·have:CN ((Dl q b z++phS q b y.ab.length z++inS q b j z)++[((b:Int),(j:Int))])=CN s.ps++CN [((b:Int),(j:Int))]:=(by rw[tz];simp[CN]);rw[this];exact cZ
         ·show Dl q b r++phS q b y.ab.length r++inS q b (j+1) r=_;rw[Lt,AK];by_cases gY:r=z
          ·subst gY;rw[if_pos rfl,if_pos hv];simp
          ·rw[if_neg gY,if_neg ZB];simp
        ·intro ef;have od:¬0<=De x:=(by simpa using ef);refine Zc ?_
         refine bB _ _ ⟨N,ss,ZB,hS.same λr _=>?_,kn,rfl,rfl,rfl,rfl⟩;rw[Lt,AK,if_neg ZB];simp
       ·rintro e4 H4 ⟨N,ss,pH,hS,kn,l1,l3,l4,l7⟩;refine Qp ?_;simp only[go_sem,l1,l3,l4,l7];refine⟨Qs,?_⟩;show ∃m,_;exact⟨y.ins.length-(j+1),ZB,j+1,N,ss,rfl,ZB,pH,hS,kn,rfl,rfl,rfl,rfl⟩
      ·intro bA;have jX:j=y.ins.length:=(by have:y.ins.length<=j:=(by simpa using bA);omega);subst jX;refine Zb ?_;refine Zh ?_;refine⟨Qs,?_⟩;show ∃m,_;refine⟨q.blocks.length-(b+1),ZB,b+1,N,ss,rfl,ZB,ZB,hS.same λr _=>?_,kn,rfl,rfl,rfl⟩;rw[Qbio,blS,gV];simp
  ·intro hc;have jz:b=q.blocks.length:=by have:q.blocks.length<=b:=ZE;omega
   subst jz;refine Wb ?_;refine Zk ?_;have bg:=kn.l 0 rfl;have ce:∀p∈ssL o ss,H1 p.1=p.2/\un H p.1=true:=λp hp=>⟨(kn.get p (Ja _ hp)).1,DG (kn.loc p hp)⟩;have bI:FrzR H1 (un H) (ss.map SReg.row) (DD q):=by
    have e:DD q=ss.map λs=>[C.sl false 1 (CN s.ps)]:=by
     rw[DD,hR];refine Jaf (by simp[hS.n]) λi h1 h2=>?_;have h3:i<ss.length:=Zae;simp only[Jan,List.getElem_range,hS.f i h3];rfl
    rw[e];exact Er ss λs hs=>.cons (Gr.frzM (hS.ok s hs) (λp hp=>ce p (Ja _ (Jm.2 ⟨s,hs,hp⟩))) (FrzR.same (Q5o _))) .nil
   exact⟨_,.c _ _ (bI.ah (kn.un 0 rfl) bg (by rw[Je,hS.n])),hK _ kn.fin⟩
end Go.AE.Y
namespace Go.AE.Y
open Go.Proofs.Tryz
variable {H H0:Heap}{K:Uk}{E B Lg:Ul}
def Gq (Lg:List (Nat×Obj))(W:List Nat)(c:C):Prop:=
 (c=.sl true 1 []/\W=[]/\Lg=[])\/∃z st R,c=.ah z 1 st W.length/\Lg=[(z,.vec 1 R)]/\(R.drop st).take W.length=BK W/\st+W.length<=R.length
theorem Gq.ai {W:List Nat}{c:C}(h:Gq Lg W c):c.ai=false:=by rcases h with ⟨rfl,_⟩|⟨z,st,R,rfl,_⟩ <;> rfl
theorem Gq.aP {W:List Nat}{c:C}(h:Gq Lg W c):c.aP=1:=by rcases h with ⟨rfl,_⟩|⟨z,st,R,rfl,_⟩ <;> rfl
theorem Gq.ay {W:List Nat}{c:C}(h:Gq Lg W c):ay c=W.length:=by rcases h with ⟨rfl,rfl,_⟩|⟨z,st,R,rfl,_⟩ <;> rfl
theorem Gq.get {W:List Nat}{c:C}(h:Gq Lg W c)(kn:Kn H0 H E (B++Lg)):aZ H c/\rowsOf H c=BK W:=by
 rcases h with ⟨rfl,rfl,_⟩|⟨z,st,R,rfl,rfl,h1,h2⟩
 ·exact⟨trivial,rfl⟩
 ·have hz:H z=.vec 1 R:=(kn.get (z,.vec 1 R) ZD).1;exact⟨by simp[aZ,hz,h2],by simp[rowsOf,hz,h1]⟩
theorem Gr.gq {W:List Nat}{c:C}(h:Gr Lg 1 (BK W) c):Gq Lg W c:=by
 rcases h with ⟨h1,h2,h3⟩|⟨y,h1,h2⟩
 ·refine .inl ⟨h1,?_,h3⟩;have:=congrArg List.length h2;rw[Q5]at this;exact List.length_eq_zero_iff.1 this
 ·exact .inr ⟨y,0,BK W,by rw[h1,Q5],h2,by rw[Ja1,Jf (by rw[Q5];exact Ji _)],by rw[Q5];omega⟩
theorem Kn.growQ {K:Uk}{W new:List Nat}{b c:C}(kn:Kn H0 H E (B++Lg))(hc:Gq Lg W c)(hb:Slc H 1 (BK new) b)(h2:W.length+new.length<=LIM)
  (h:∀t Lg' H',Gq Lg' (W++new) t->t.ai=false->Kn H0 H' E (B++Lg')->K (.c t) H'):appQ H 1 c b K:=by
 rcases hc with ⟨rfl,rfl,rfl⟩|⟨z,st,R,rfl,rfl,h3,h4⟩
 ·refine Kn.bk (new:=BK new) kn (.nil 1) hb (ED _) (by simp only[Q5,Jl]at *;omega) λt Lg' H' hg ht k=>h t Lg' H' (Gr.gq ?_) ht k;simpa using hg
 ·have hz:H z=.vec 1 R:=(kn.get (z,.vec 1 R) ZD).1;refine⟨hb.ok,hb.sz,?_⟩;simp only[hz,hb.rows,hb.len,h3,Q5];refine⟨trivial,trivial,h4,ED _,h2,λl' dm H' dT=>?_⟩;have hg:Gr [(l',.vec 1 (BK (W++new)))] 1 (BK (W++new)) (.ah l' 1 0 (W.length+new.length)):=.mk _ _ _ (by simp[Q5]);refine h _ _ H' (Gr.gq hg) rfl ?_;have:=kn.ap B.length (y:=z) (o:=.vec 1 R) ZD dm dT;rw[Q5m];simpa using this
end Go.AE.Y
namespace Go.AE.Y
attribute [local go_sem] cond_true cond_false Bool.not_true Bool.not_false
open Go.Proofs.Tryz
variable {H H0:Heap}{K:Uk}{E B Lg:Ul}{q:CodeD}
theorem Qbcb {nx:Nat->List Int}{f:Int}{n i:Nat}(h:i<(Qz nx f n).length):∃p:Nat,(Qz nx f n).getD i 0=(p:Int)/\p<n:=by
 have h1:(Qz nx f n)[i]∈Qz nx f n:=Jd h;have e:(Qz nx f n).getD i 0=(Qz nx f n)[i]:=by simp[Jb,h]
 rw[e];generalize (Qz nx f n)[i]=v at h1;simp only[Qz,Jo,Jav,Jad]at h1;obtain⟨p,⟨h2,_⟩,rfl⟩:=h1;exact⟨p,rfl,h2⟩
theorem HW {ns:List Int}(h:∀x∈ns,0<=x):Qb ns=BK (ns.map Int.toNat):=by
 have hk:ns=(ns.map Int.toNat).map Int.ofNat:=by
  rw[Jat]
  conv=>lhs;rw[<-List.map_id ns]
  refine List.map_congr_left λx hx=>?_;have:=h x hx;simp;omega
 conv=>lhs;rw[hk]
 rfl
theorem IJ {ns:List Int}(h:∀x∈ns,0<=x)(ha:ns.Pairwise (· < ·)):(ns.map Int.toNat).Pairwise (· < ·):=by
 rw[List.pairwise_map];refine ha.imp_of_mem λ{a b} h1 h2 h3=>?_;have:=h a h1;have:=h b h2;omega
theorem EO {l:List Nat}{n:Nat}(ha:l.Pairwise (· < ·))(hn:∀x∈l,x<n):l.length<=n:=by
 have h1:l.Nodup:=ha.imp λh=>ZB
 have h2:l ⊆ List.range n:=λx hx=>Jad.2 (hn x hx);have:=(List.nodup_iff_count.1 h1);have h3:=Jae h1 h2;simpa using h3
theorem Qavi {fl flo:Bool}{b:Nat}(ho:q.ok)(hb:b<q.blocks.length)
  (hK:∀(fl':Bool) (fs:List Nat) H',Upd H H' []->fs.Pairwise (· < ·)->(∀x∈fs,x<q.blocks.length)->K (.c (.sl fl' 1 (BK fs))) H') :
  Qr prog Qw6 [.ag [Ui q.params,Ui q.ae,.sl fl 5 (Qo q.blocks)],.c (.sl flo 1 (ovOf q.blocks.length (nxN (gnx q)) q.blocks.length)),Uv b] H K:=by
 have ba:=ho.b1;obtain⟨n,hn⟩:∃n,q.blocks.length=n:=⟨_,rfl⟩;obtain⟨g,hg⟩:∃g,nxN (gnx q)=g:=⟨_,rfl⟩;rw[hn]at hb ba hK;rw[hn,hg];refine Qy ?_;refine Qd BF Qavx ?_;refine Wd ?_;refine Wa ?_;refine Qh (Qe (Qw (λm e1 H1=>∃(f:Nat) (fo:Bool) (ns:List Int),m=n-f/\f<=n/\ns.Pairwise (· < ·)/\(∀x∈ns,0<=x/\x<n)/\ns.length<=f * 200/\Kn H H1 [] []/\
  lk 1 e1=.c (.sl flo 1 (ovOf n g n))/\lk 2 e1=Uv b/\lk 3 e1=.c (.pp [Ui q.params,Ui q.ae,.sl fl 5 (Qo q.blocks)])/\lk 7 e1=.c (.sl fo 1 (Qb ns))/\lk 8 e1=Uv f) n ?_ ?_))
 ·exact⟨0,true,[],ZB,ZB,ZD,ZD,ZD,Kn.an H,rfl,rfl,rfl,rfl,rfl⟩
 ·rintro m e1 H1 ⟨f,fo,ns,hm,hf,ha,dA,ck,kn,l1,l2,l3,l7,l8⟩;refine Q1 (Qa ?_);simp only[go_sem,l1,l2,l3,l7,l8,Ih];try intro _
  refine Wu ?_ ?_
  ·intro hc;have af:f<n:=ZE
   refine Zc ?_
   refine Wg ?_;refine Gu (nx:=gnx q) (.mk' _ _ _ _) rfl (E5 H1 q fl).x λH2 hu=>?_;have kn:=kn.aw hu;rw[Qn,hn];have da:=Es (gnx q) (f:Int) n;have md:=λ(i:Nat)=>Qbcb (nx:=gnx q) (f:=(f:Int)) (n:=n) (i:=i);generalize Qz (gnx q) (f:Int) n=pr at *;simp only[go_sem,Dp];refine Za ?_;refine Qe (Qw (λm e1 H1=>∃(i:Nat) (fo:Bool) (ns:List Int),m=pr.length-i/\i<=pr.length/\ns.Pairwise (· < ·)/\(∀x∈ns,0<=x/\x<n)/\ns.length<=f * 200+i/\Kn H H1 [] []/\
    lk 1 e1=.c (.sl flo 1 (ovOf n g n))/\lk 2 e1=Uv b/\lk 3 e1=.c (.pp [Ui q.params,Ui q.ae,.sl fl 5 (Qo q.blocks)])/\lk 7 e1=.c (.sl fo 1 (Qb ns))/\lk 8 e1=Uv f/\lk 9 e1=.c (.sl false 1 (Qb pr))/\lk 10 e1=Uv i) pr.length ?_ ?_)
   ·exact⟨0,fo,ns,ZB,ZB,ha,dA,ZB,kn,rfl,rfl,rfl,rfl,rfl,rfl,rfl⟩
   ·clear kn ha dA ck l1 l2 l3 l7 l8;clear ns fo;rintro m2 e2 H3 ⟨i,fo,ns,fw,hi,ha,dA,ck,kn,l1,l2,l3,l7,l8,l9,l10⟩;refine Q1 (Qa ?_);simp only[go_sem,l1,l2,l3,l7,l8,l9,l10,Qc];try intro _
    refine Wu ?_ ?_
    ·intro aD;have aT:i<pr.length:=ZH;obtain⟨p,sf,fe⟩:=md i aT;have hpd:p<(D3 n g b).length:=(by rw[GE];exact fe);have vN:f<(D3 n g b).length:=(by rw[GE];exact af);refine Zc ?_
     refine Ck (λe2 H2=>∃(fo:Bool) (ns:List Int),ns.Pairwise (· < ·)/\(∀x∈ns,0<=x/\x<n)/\ns.length<=f * 200+(i+1)/\Kn H H2 [] []/\
      lk 1 e2=.c (.sl flo 1 (ovOf n g n))/\lk 2 e2=Uv b/\lk 3 e2=.c (.pp [Ui q.params,Ui q.ae,.sl fl 5 (Qo q.blocks)])/\lk 7 e2=.c (.sl fo 1 (Qb ns))/\lk 8 e2=Uv f/\lk 9 e2=.c (.sl false 1 (Qb pr))/\lk 10 e2=Uv i) ?_ ?_
     ·intro Q bB _ _;refine Qe (BM ?_);simp only[go_sem,hb,Ih,HV hb,aT,Qc,Qk _ _ aT,sf,fe,af,GE,Q3,Q7 _ _ hpd,Q7 _ _ vN];refine Wv ?_ ?_
      ·intro _;refine Zh ?_;refine Si ha ZB λfl2 ns2 H4 hu mV fX kB=>?_;have kn:=kn.aw hu;simp only[go_sem,Qn0];refine bB _ _ ⟨fl2,ns2,mV,λx hx=>?_,ZB,kn,rfl,rfl,rfl,rfl,rfl,rfl,rfl⟩;rcases (fX x).1 hx with rfl|hx
       ·omega
       ·exact dA x hx
      ·intro _;refine Zc ?_
       exact bB _ _ ⟨fo,ns,ha,dA,ZB,kn,rfl,rfl,rfl,rfl,rfl,rfl,rfl⟩
     ·rintro e3 H4 ⟨fo,ns,ha,dA,ck,kn,l1,l2,l3,l7,l8,l9,l10⟩;refine Qp ?_;simp only[go_sem,l1,l2,l3,l7,l8,l9,l10];refine⟨Qs,?_⟩;show ∃m,_;exact⟨pr.length-(i+1),ZB,i+1,fo,ns,rfl,ZB,ha,dA,ck,kn,rfl,rfl,rfl,rfl,rfl,rfl,rfl⟩
    ·intro aD;refine Zb ?_;refine Zh ?_;refine⟨Qs,?_⟩;show ∃m,_;exact⟨n-(f+1),ZB,f+1,fo,ns,rfl,ZB,ha,dA,ZB,kn,rfl,rfl,rfl,rfl,rfl⟩
  ·intro hc;refine Wb ?_;refine Zk ?_;have h0:∀x∈ns,0<=x:=λx hx=>(dA x hx).1;rw[HW h0];refine⟨_,.c _ _ (FrzR.same (ED _)).sl,hK false _ _ kn.fin (IJ h0 ha) λx hx=>?_⟩;obtain⟨v,hv,rfl⟩:=Jo.1 hx;have:=dA v hv;omega
theorem Qanb {fl flo fll:Bool}{ls:List Nat}(ho:q.ok)(hls:ls.length<=1000000)
  (hK:∀(fs:List Nat) H',Upd H H' []->fs.Pairwise (· < ·)->(∀x∈fs,x<q.blocks.length)->K (.c (.sl false 1 (BK fs))) H') :
  Qr prog Qql [.ag [Ui q.params,Ui q.ae,.sl fl 5 (Qo q.blocks)],.c (.sl flo 1 (ovOf q.blocks.length (nxN (gnx q)) q.blocks.length)),.c (.sl fll 1 (BK ls))] H K:=by
 have ba:=ho.b1;obtain⟨n,hn⟩:∃n,q.blocks.length=n:=⟨_,rfl⟩;obtain⟨OV,vY⟩:∃OV,ovOf q.blocks.length (nxN (gnx q)) q.blocks.length=OV:=⟨_,rfl⟩;have zZ:OV.length=n:=by rw[<-vY,Ih,hn]
 rw[hn]at ba hK;rw[vY];refine Qy ?_;refine Qd BF Qanp ?_;refine Wd ?_;refine Za ?_;refine⟨.inl trivial,ED _,by rw[Q5];simp only[LIM];omega,λy0 rS H1 h1=>?_⟩;have kn:Kn H H1 [] ([]++[(y0,.vec 1 (BK ls))]):=(Kn.an H).al rS h1;obtain⟨wc0,iF⟩:∃wc0,C.ah y0 1 0 (0+(BK ls).length)=wc0:=⟨_,rfl⟩;have xw:Gq [(y0,.vec 1 (BK ls))] ls wc0:=by rw[<-iF];exact Gr.gq (.mk _ _ _ ZB)
 have rV:=xw.ai;rw[iF];simp only[go_sem,Qlg];refine Qh (Qe (Qw (λm e1 H1=>∃(O:List Int) (W:List Nat) (fo:Bool) (wc:C) (Lg:Ul),m=W.length+2 * (n-O.length)/\W.length+2 * (n-O.length)<=ls.length+2 * n/\O.Pairwise (· < ·)/\(∀x∈O,0<=x/\x<n)/\Gq Lg W wc/\Kn H H1 [] ([]++Lg)/\
  lk 1 e1=.c (.sl flo 1 OV)/\lk 3 e1=.c (.pp [Ui q.params,Ui q.ae,.sl fl 5 (Qo q.blocks)])/\lk 7 e1=.c (.sl fo 1 (Qb O))/\lk 8 e1=.c wc) (ls.length+2 * n) ?_ ?_))
 ·exact⟨[],ls,true,wc0,[(y0,.vec 1 (BK ls))],ZD,ZD,ZD,ZD,xw,kn,rfl,rfl,rfl,rfl⟩
 ·clear kn xw rV iF h1 rS;rintro m e1 H2 ⟨O,W,fo,wc,Lg,hm,rL,ha,hO,hq,kn,l1,l3,l7,l8⟩;have xp:=hq.ai;obtain⟨kr,A7⟩:=hq.get kn;have kr:=eq_true kr;have qz:=hq.ay;have tC:=hq.aP;refine Q1 (Qa ?_);simp only[go_sem,l1,l3,l7,l8,kr,qz];try intro _
  refine Wu ?_ ?_
  ·intro aD;obtain⟨b,W,rfl⟩:∃b W',W=b::W':=by
    cases W with
    |nil=>simp at aD
    |cons b W=>exact⟨b,W,rfl⟩
   have bE:(BK (b::W)).getD 0 []=[Ui (b:Int)]:=rfl;obtain⟨wc2,tv,lZ⟩:∃wc2,sliC (some 1) none wc=wc2/\Gq Lg W wc2:=by
    refine⟨_,rfl,?_⟩;rcases hq with ⟨_,h,_⟩|⟨z,st,R,rfl,rfl,h3,h4⟩
    ·simp at h
    ·refine .inr ⟨z,st+1,R,?_,rfl,?_,by simp at h4;omega⟩
     ·simp[sliC]
     ·have:=congrArg (List.drop 1) h3;rw[<-List.drop_drop,List.drop_take]at *;simp only[Jk,Nat.add_sub_cancel]at this;rw[this];rfl
   refine Zc ?_
   refine Qe (Qa ?_);simp only[go_sem,kr,A7,tC,qz,bE,Nat.succ_pos,Jk]
   first|refine⟨ZB,?_⟩|skip
   refine Qa ?_;simp only[go_sem,kr,tC,qz,tv,Jk];refine⟨⟨ZB,ZB,ZB⟩,?_⟩;have xo:=lZ.ai;simp only[Jk]at rL hm;refine Q1 (Qa ?_);simp only[go_sem,zZ];try intro _
   refine⟨Qs,?_⟩;refine CG ?_;simp only[go_sem,Qlh];refine Wu ?_ ?_
   ·intro _;refine Qu ?_;show ∃m,_;exact⟨W.length+2 * (n-O.length),ZB,O,W,fo,wc2,Lg,rfl,ZB,ha,hO,lZ,kn,rfl,rfl,rfl,rfl⟩
   ·intro bA;have cR:b<n:=by
     have:=Ct bA;have:=of_decide_eq_true this;omega
    refine Zc ?_
    refine Za ?_;rw[<-vY];refine Qavi ho (by rw[hn];exact cR) λflf fs H3 hu lq gM=>?_;rw[vY];rw[hn]at gM;have kn:=kn.aw hu;have iO:=EO lq gM;simp only[go_sem,Qli];refine Za ?_;refine Qe (Qw (λm2 e1 H1=>∃(i:Nat) (O2:List Int) (W:List Nat) (fo:Bool) (wc:C) (Lg:Ul),m2=fs.length-i/\i<=fs.length/\W.length+2 * (n-O2.length)<m/\O2.Pairwise (· < ·)/\(∀x∈O2,0<=x/\x<n)/\Gq Lg W wc/\Kn H H1 [] ([]++Lg)/\
     lk 1 e1=.c (.sl flo 1 OV)/\lk 3 e1=.c (.pp [Ui q.params,Ui q.ae,.sl fl 5 (Qo q.blocks)])/\lk 7 e1=.c (.sl fo 1 (Qb O2))/\lk 8 e1=.c wc/\lk 10 e1=.c (.sl flf 1 (BK fs))/\lk 11 e1=Uv i) fs.length ?_ ?_)
    ·exact⟨0,O,W,fo,wc2,Lg,ZB,ZB,ZB,ha,hO,lZ,kn,rfl,rfl,rfl,rfl,rfl,rfl⟩
    ·clear kn lZ xo kr A7 qz tC xp hq tv ha hO l1 l3 l7 l8;have iI:m<=ls.length+2 * n:=ZB;clear hm rL;rintro m2 e2 H4 ⟨i,O,W,fo,wc,Lg,fw,hi,rL,ha,hO,hq,kn,l1,l3,l7,l8,l10,l11⟩;have xp:=hq.ai;refine Q1 (Qa ?_);simp only[go_sem,l1,l3,l7,l8,l10,l11,Q5];try intro _
     refine Wu ?_ ?_
     ·intro ef;have af:i<fs.length:=(by simpa using ef);obtain⟨f,hf⟩:∃f,fs[i]=f:=⟨_,rfl⟩;have oy:fs.getD i 0=f:=(by simp[Jb,af,hf]);have hfn2:f<n:=(by rw[<-hf];exact gM _ (Jd af));have hO0:∀x∈O,0<=x:=λx hx=>(hO x hx).1;have hOl:O.length<=n:=by
       have:=EO (n:=n) (IJ hO0 ha) λx hx=>by
        obtain⟨v,hv,rfl⟩:=Jo.1 hx;have:=hO v hv;omega
       simpa using this
      refine Zc ?_
      refine Ck (λe1 H1=>∃(O:List Int) (W:List Nat) (fo:Bool) (wc:C) (Lg:Ul),W.length+2 * (n-O.length)<m/\O.Pairwise (· < ·)/\(∀x∈O,0<=x/\x<n)/\Gq Lg W wc/\Kn H H1 [] ([]++Lg)/\
       lk 1 e1=.c (.sl flo 1 OV)/\lk 3 e1=.c (.pp [Ui q.params,Ui q.ae,.sl fl 5 (Qo q.blocks)])/\lk 7 e1=.c (.sl fo 1 (Qb O))/\lk 8 e1=.c wc/\lk 10 e1=.c (.sl flf 1 (BK fs))/\lk 11 e1=Uv i) ?_ ?_
      ·intro Q bB _ _;refine Qe (Qa ?_);simp only[go_sem,af,Q5,CZ _ _ af,oy];refine FF (ns:=O) (.mk' _ _ _ _) rfl λr hr=>?_;simp only[go_sem,Qlj];refine Wv ?_ ?_
       ·intro jh;have od:r<0:=(by simpa using jh);have xZ:(f:Int)∉O:=by
         rcases hr with ⟨_,h⟩|⟨i,rfl,_⟩
         ·exact h
         ·omega
        refine Qa ?_;simp only[go_sem,af,Q5,CZ _ _ af,oy];refine Si ha ZB λfl2 O2 H5 hu mV fX kB=>?_;have kn:=kn.aw hu;have hO2l:O2.length=O.length+1:=by
         have h1:((f:Int)::O).Nodup:=Jaw.2 ⟨xZ,ha.imp λh=>ZB⟩;have h2:((f:Int)::O) ⊆ O2:=λx hx=>by
          rw[fX];rcases Jw.1 hx with h|h
          ·exact .inl h
          ·exact .inr h
         have:=Jae h1 h2;simp only[Jk]at this;omega
        have Aa:∀x∈O2,0<=x/\x<n:=λx hx=>by
         rcases (fX x).1 hx with rfl|hx
         ·omega
         ·exact hO x hx
        have hO2n:O2.length<=n:=by
         have:=EO (n:=n) (IJ (λx hx=>(Aa x hx).1) mV) λx hx=>by
          obtain⟨v,hv,rfl⟩:=Jo.1 hx;have:=Aa v hv;omega
         simpa using this
        simp only[go_sem,Qlk];refine Qp ?_;simp only[go_sem,af,Q5,CZ _ _ af,oy];refine Kn.growQ kn (new:=[f]) hq (.mk' _ _ _ _) (by simp only[LIM,Jk,Jl];omega) λwc2 Lg2 H6 lZ lN kn=>?_;simp only[go_sem,Qll];refine bB _ _ ⟨O2,W++[f],fl2,wc2,Lg2,by simp only[J6,Jk,Jl];omega,mV,Aa,lZ,kn,rfl,rfl,rfl,rfl,rfl,rfl⟩
       ·intro _;refine Zc ?_
        exact bB _ _ ⟨O,W,fo,wc,Lg,rL,ha,hO,hq,kn,rfl,rfl,rfl,rfl,rfl,rfl⟩
      ·rintro e3 H5 ⟨O,W,fo,wc,Lg,rL,ha,hO,hq,kn,l1,l3,l7,l8,l10,l11⟩;have xp:=hq.ai;refine Qp ?_;simp only[go_sem,l1,l3,l7,l8,l10,l11];refine⟨Qs,?_⟩;show ∃m,_;exact⟨fs.length-(i+1),ZB,i+1,O,W,fo,wc,Lg,rfl,ZB,rL,ha,hO,hq,kn,rfl,rfl,rfl,rfl,rfl,rfl⟩
     ·intro _;refine Qu ?_;show ∃m,_;exact⟨_,rL,O,W,fo,wc,Lg,rfl,ZB,ha,hO,hq,kn,rfl,rfl,rfl,rfl⟩
  ·intro _;refine Wb ?_;refine Zk ?_;have h0:∀x∈O,0<=x:=λx hx=>(hO x hx).1;rw[HW h0];refine⟨_,.c _ _ (FrzR.same (ED _)).sl,hK _ _ kn.fin (IJ h0 ha) λx hx=>?_⟩;obtain⟨v,hv,rfl⟩:=Jo.1 hx;have:=hO v hv;omega
end Go.AE.Y
namespace Go.AE.Y
attribute [local go_sem] cond_true cond_false Bool.not_true Bool.not_false
open Go.Proofs.Tryz
variable {H H0:Heap}{K:Uk}{E B Lg:Ul}{q:CodeD}{S:Nat->Bool}
theorem OBlks.frzD {os:List OBlk}(ax:∀b∈os,b.ok)(h:Held H S (os.flatMap OBlk.lg)):FrzR H S (os.map OBlk.row) (Qo (os.map OBlk.d)):=by
 rw[Qo,Jat];exact Er os λx hx=>x.frzD (ax x hx) (h.m hx)
theorem Qbut {r:Nat}{p:Plc}(h:p∈D5 q r):∃b:Nat,p.1=(b:Int)/\b<q.blocks.length:=by
 simp only[D5,Dl,Jm,Jad]at h;obtain⟨b,hb,h⟩:=h;refine⟨b,?_,hb⟩;simp only[blS,phS,inS,Jq,Jo]at h;rcases h with ⟨_,_,rfl⟩|⟨_,_,rfl⟩ <;> rfl
theorem M6:(DD q).length=q.ae.toNat:=by simp[DD]
theorem Qbin {r:Nat}(h:r<q.ae.toNat):(DD q).getD r []=[.sl false 1 (CN (D5 q r))]:=by simp[DD,Jb,h]
structure PhS (q:CodeD)(k:Nat->Nat)(os:List OBlk):Prop where
 n:os.length=q.blocks.length
 ok:∀b∈os,b.ok
 d:∀j (h:j<os.length) (h':j<q.blocks.length),os[j].d.ins=q.blocks[j].ins/\os[j].jump=q.blocks[j].jump/\os[j].on=q.blocks[j].on/\os[j].nx.ns=q.blocks[j].next
 p:∀j (h:j<os.length),∀p∈os[j].ab,rIn q p.to/\(∀v∈p.ns,rIn q v)/\p.ns.length=(Qz (gnx q) (j:Int) q.blocks.length).length
 l:∀j (h:j<os.length) (h':j<q.blocks.length),os[j].ab.length<=q.blocks[j].ab.length+k j
variable {k k':Nat->Nat}{os:List OBlk}
theorem PhS.up (h:PhS q k os)(hk:∀j,k j<=k' j):PhS q k' os:=⟨h.n,h.ok,h.d,h.p,λj h1 h2=>by have:=h.l j h1 h2;have:=hk j;omega⟩
theorem Y1 (ho:q.ok){o:OCode}(ax:o.ok)(hd:o.d=q):PhS q (λ_=>0) o.blocks:=by
 have hb:o.blocks.map OBlk.d=q.blocks:=Zbi
 have hl:o.blocks.length=q.blocks.length:=by rw[<-hb,Je]
 have hg:∀j (h:j<o.blocks.length) (h':j<q.blocks.length),o.blocks[j].d=q.blocks[j]:=λj h h'=>by
  have h1:(o.blocks.map OBlk.d)[j]? = some o.blocks[j].d:=Zbr
  rw[hb,Jg h']at h1;exact (Jab h1).symm
 refine⟨hl,ax.bs,λj h h'=>by rw[<-hg j h h'];exact⟨rfl,rfl,rfl,rfl⟩,λj h p hp=>?_,λj h h'=>?_⟩
 ·have h':j<q.blocks.length:=ZB
  have o1:=ho.bs j h';rw[<-hg j h h']at o1;have hm:p.d∈o.blocks[j].d.ab:=Jo.2 ⟨p,hp,rfl⟩;exact⟨o1.pto _ hm,o1.pargs _ hm,o1.pal _ hm⟩
 ·rw[<-hg j h h'];simp[OBlk.d]
theorem PhS.step {b:Nat}(h:PhS q k os)(hb:b<os.length){o:OBlk}(bg:os[b]=o){p:OPhi}{pc:C}{pl:Ul}(hp:p.ok)(hg:Gr pl 2 ((p::o.ab).map OPhi.row) pc)
  (h1:rIn q p.to) (h2:∀v∈p.ns,rIn q v) (h3:p.ns.length=(Qz (gnx q) (b:Int) q.blocks.length).length) (hk:∀j,k' j=if j=b then k j+1 else k j) :
  PhS q k' (os.set b ⟨p::o.ab,pc,pl,o.ins,o.ic,o.il,o.jump,o.on,o.nx⟩):=by
 subst bg;have ax:=h.ok _ (Jd hb);refine⟨by rw[J1];exact h.n,λw hw=>?_,λj hj b6=>?_,λj hj x hx=>?_,λj hj b6=>?_⟩
 ·rcases J3 hw with hw|rfl
  ·exact h.ok w hw
  ·refine⟨hg,ax.i,λx hx=>?_⟩;rcases Jw.1 hx with rfl|hx
   ·exact hp
   ·exact ax.a x hx
 ·have cN:j<os.length:=ZV
  have hd:=h.d j cN b6;rw[Jag];split
  ·rename_i e;subst e;exact hd
  ·exact hd
 ·have cN:j<os.length:=ZV
  rw[Jag]at hx;split at hx
  ·rename_i e;subst e
   rcases Jw.1 hx with rfl|hx
   ·exact⟨h1,h2,h3⟩
   ·exact h.p _ cN x hx
  ·exact h.p j cN x hx
 ·have cN:j<os.length:=ZV
  have hl:=h.l j cN b6;rw[Jag,hk];split
  ·rename_i e;subst e;rw[if_pos rfl];show (p::os[b].ab).length<=_;simp only[Jk];omega
  ·rename_i e;rw[if_neg (λh=>e h.symm)];exact hl
theorem PhS.fin (ho:q.ok)(h:PhS q k os)(hk:∀j (hj:j<q.blocks.length),q.blocks[j].ab.length+k j<=1200):(CodeD.mk q.params q.ae (os.map OBlk.d)).ok:=by
 obtain⟨d,hd⟩:∃d:CodeD,d=⟨q.params,q.ae,os.map OBlk.d⟩:=⟨_,rfl⟩;rw[<-hd];have hl:d.blocks.length=q.blocks.length:=by rw[hd];simpa using h.n
 have b7:∀j (h1:j<d.blocks.length) (h2:j<os.length),d.blocks[j]=os[j].d:=λj h1 h2=>by subst hd;simp
 have fW:d.blocks.map BlkD.next=q.blocks.map BlkD.next:=Jaf Za3 λj h1 h2=>by
  simp only[Je]at h1 h2;have h3:j<os.length:=Zbd
  simp only[Jan,b7 j h1 h3];exact (h.d j h3 h2).2.2.2
 have hg:gnx d=gnx q:=by funext i;rw[gnx,gnx,fW]
 have hr:∀v,rIn q v->rIn d v:=λv hv=>by simp only[rIn,hd]at hv⊢;exact hv
 have iU:d.ae=q.ae:=by rw[hd]
 refine⟨by rw[iU];exact ho.r0,by rw[iU];exact ho.r1,by rw[hl];exact ho.b0,by rw[hl];exact ho.b1,λb hb=>?_,λb hb=>?_⟩
 ·have h2:b<q.blocks.length:=ZB
  have h3:b<os.length:=Zbd
  have o:=ho.bs b h2;obtain⟨e1,e2,e3,e4⟩:=h.d b h3 h2;have hp:=h.p b h3;rw[b7 b hb h3];have dV:∀p∈os[b].d.ab,rIn q p.to/\(∀v∈p.args,rIn q v)/\p.args.length=(Qz (gnx q) (b:Int) q.blocks.length).length:=λp cB=>by
   obtain⟨x,hx,rfl⟩:=Jo.1 cB;exact hp x hx
  refine⟨by show os[b].nx.ns.length<=2;rw[e4];exact o.nxl,λv hv=>by rw[hl];exact o.nx v (by rw[<-e4];exact hv),by show os[b].jump=1\/os[b].jump=2\/os[b].jump=3;rw[e2];exact o.jmp,λhj=>?_,
   λx hx v hv=>hr _ (o.args x Zbe v hv),λx hx hm=>hr _ (o.to x Zbe hm),λp hp=>hr _ (dV p hp).1,λp hp v hv=>hr _ ((dV p hp).2.1 v hv),λp hp=>by rw[hg,hl];exact (dV p hp).2.2,
   λx hx=>o.al x Zbe⟩
  show rIn d os[b].on;rw[e3];exact hr _ (o.on (by rw[<-e2];exact hj))
 ·have h2:b<q.blocks.length:=ZB
  have h3:b<os.length:=Zbd
  have o:=ho.il b h2;have e1:=(h.d b h3 h2).1;have:=h.l b h3 h2;have:=hk b h2;rw[b7 b hb h3,e1];refine⟨o.1,?_⟩;simp only[OBlk.d,Je];omega
theorem Lf {l:List Nat}(h:l.Nodup){i:Nat}(hi:i<l.length):l[i]∉l.take i:=λhh=>by
 obtain⟨j,hj,he⟩:=J8.1 hh;rw[List.length_take]at hj;rw[List.getElem_take]at he;have cL:j<l.length:=ZB
 have:=(List.getElem?_inj cL h (j:=i)).1 (by rw[Jg cL,Jg hi,he]);omega
def OBlk.rst (o:OBlk):List (Nat×Obj):=o.nx.lg++(o.ab.flatMap OPhi.lg++(o.ins.flatMap OIns.lg++o.il))
theorem OBlk.lg_perm (o:OBlk):o.lg.Perm (o.rst++o.pl):=Qj λf hf h0 hc hp=>by simp only[Ui,hf,OBlk.lg,OBlk.rst];omega
theorem Qbq1 (ho:q.ok)(dV:∀y∈q.blocks,y.ab.length<=900)(hK:∀(d:CodeD) H',d.ok->d.params=q.params->d.ae=q.ae->Upd H H' []->K (.ag d.cells) H') :
  Qr prog Nf [.ag [Ui q.params,Ui q.ae,.sl false 5 (Qo q.blocks)]] H K:=by
 have bE:=ho.r0;have cI:=ho.r1;have eV:=ho.b0;have ba:=ho.b1;obtain⟨n,hn⟩:∃n,q.blocks.length=n:=⟨_,rfl⟩;obtain⟨R,hR⟩:∃R:Nat,q.ae.toNat=R:=⟨_,rfl⟩;have uX:q.ae=(R:Int):=ZB
 have hgf:=Hd ho.gd;refine Qy ?_;refine Qd BF Qbrs ?_;refine Za ?_;intro x2 aI H1 h1;have kn:=(Kn.an H).al aI h1;refine Za ?_;refine FU ho.sg λo H2 k2 ax gI _=>?_;have kn:=kn.comp0 k2;have fU:o.params=q.params:=Zbh
 have qy:o.ae=q.ae:=Zbh
 have eS:o.blocks.length=n:=by rw[<-hn,<-gI];simp[OCode.d]
 obtain⟨zb,dB,bu⟩:∃z,o.bc=.ah z 5 0 n/\o.bl=[(z,.vec 5 (o.blocks.map OBlk.row))]:=by
  rcases ax.b with ⟨_,h,_⟩|⟨y,h1,h2⟩
  ·have:=congrArg List.length h;simp only[Je,Jl]at this;omega
  ·exact⟨y,by rw[h1,Je,eS],h2⟩
 have aC:o.row=[Ui q.params,Ui q.ae,.ah zb 5 0 n]:=by rw[OCode.row,fU,qy,dB]
 have hP:=Y1 ho ax gI;have vG:o.lg=o.blocks.flatMap OBlk.lg++[(zb,.vec 5 (o.blocks.map OBlk.row))]:=by rw[OCode.lg,bu]
 rw[vG]at kn;rw[aC];generalize o.blocks=os0 at *;clear ax gI fU qy aC vG dB bu k2;simp only[go_sem,Q9p];intro x3 aL H3 h3;have kn:=(kn.al aL h3).perm Jr;have aL:=kn.l 0 rfl;simp only[go_sem,Q9o,aL];intro H4 h4;have kn:Kn H H4 [] ([(x3,.st [Ui q.params,Ui q.ae,.ah zb 5 0 n])]++([(x2,.st [Ui 0,Ui 0,.sl true 5 []])]++(os0.flatMap OBlk.lg++[(zb,.vec 5 (os0.map OBlk.row))]))):=kn.aB 0 rfl h4;refine Za ?_;refine Rw (rows:=Qo q.blocks) (nx:=gnx q) hgf (by rw[Qn];exact ho.fitB) λH5 hu=>?_;have kn:=kn.aw hu;rw[Qn];simp only[go_sem,FN];refine Za ?_;refine Rv ho (.sl _ _ _ _) λzi zo H6 hu cS=>?_;have kn:=kn.aw hu;simp only[go_sem,Q9s];intro x5 bq H7 h7;have kn:=(kn.al bq h7).perm Jr;have bq:=kn.l 0 rfl;simp only[go_sem,Q9r,bq];intro H8 h8;have kn:Kn H H8 [] (([(x3,.st [Ui q.params,Ui q.ae,.ah zb 5 0 n]),(x2,.st [Ui 0,Ui 0,.sl true 5 []]),(x5,.st [.sl false 1 (Ei zi),.sl false 1 (Ei zo)])]++[(zb,.vec 5 (os0.map OBlk.row))])++os0.flatMap OBlk.lg):=
  (kn.aB 0 rfl h8).perm (Qj λf hf h0 hc hp=>by
   have e3:∀(a b c:Nat×Obj),f [a,b,c]=f [a]+f [b]+f [c]:=λa b c=>ZX
   show f ([(x5,_)]++_)=_;simp only[Ui,hf,e3];omega)
 obtain⟨XL,hX⟩:∃XL,[(x3,Obj.st [Ui q.params,Ui q.ae,.ah zb 5 0 n]),(x2,.st [Ui 0,Ui 0,.sl true 5 []]),(x5,.st [.sl false 1 (Ei zi),.sl false 1 (Ei zo)])]=XL:=⟨_,rfl⟩;rw[hX]at kn;have gX:∀{H1:Heap} {A:Ul},Kn H H1 [] (XL++A)->H1 x3=.st [Ui q.params,Ui q.ae,.ah zb 5 0 n]/\H1 x5=.st [.sl false 1 (Ei zi),.sl false 1 (Ei zo)]:=λ{H1 A} k=>by
  rw[<-hX]at k;exact⟨k.l 0 rfl,k.l 2 rfl⟩
 clear aL bq h8 h4 h1 aI;refine Za ?_;refine Qbq2 ho λH9 hu=>?_;have kn:=kn.aw hu;simp only[go_sem,Q9t];refine Wa ?_;refine⟨Qs,?_⟩;have mW:PhS q (λ_=>0) os0:=hP;refine Qh (Qe (Qw (λm e1 H1=>∃(r:Nat) (os:List OBlk),m=r/\r<=R/\PhS q (λ_=>R-r) os/\Kn H H1 [] ((XL++[(zb,.vec 5 (os.map OBlk.row))])++os.flatMap OBlk.lg)/\
  lk 1 e1=.c (.pp [Ui q.params,Ui q.ae,.sl false 5 (Qo q.blocks)])/\lk 2 e1=Up x2/\lk 3 e1=Up x3/\lk 4 e1=.c (.sl false 1 (ovOf q.blocks.length (nxN (gnx q)) q.blocks.length))/\lk 5 e1=Up x5/\lk 6 e1=.c (.sl false 1 (DD q))/\lk 7 e1=Uv ((r:Int)-1)) R ?_ ?_))
 ·exact⟨R,os0,rfl,ZB,mW.up λj=>ZD,kn,rfl,rfl,rfl,rfl,rfl,rfl,by simp only[lk,uX];rfl⟩
 ·clear kn mW hP;rintro m e1 H10 ⟨r,os,rfl,A6,hS,kn,l1,l2,l3,l4,l5,l6,l7⟩;refine Q1 (Qa ?_);simp only[go_sem,l1,l2,l3,l4,l5,l6,l7];refine Wu ?_ ?_
  ·intro hc;have bh:(0:Int)<=(m:Int)-1:=ZE
   obtain⟨r,rfl⟩:∃r,m=r+1:=⟨m-1,ZB⟩;have er:((r+1:Nat):Int)-1=(r:Int):=ZB
   rw[er];have hrlt:r<R:=ZB
   have nN:r<q.ae.toNat:=ZB
   refine Zc ?_
   refine Wg ?_;refine Wa ?_;refine Ck (λe2 H2=>∃(fo:Bool) (ns:List Int),H2=H10/\ns.Pairwise (· < ·)/\(∀x∈ns,0<=x/\x<n)/\
    lk 1 e2=.c (.pp [Ui q.params,Ui q.ae,.sl false 5 (Qo q.blocks)])/\lk 2 e2=Up x2/\lk 3 e2=Up x3/\lk 4 e2=.c (.sl false 1 (ovOf q.blocks.length (nxN (gnx q)) q.blocks.length))/\lk 5 e2=Up x5/\lk 6 e2=.c (.sl false 1 (DD q))/\lk 7 e2=Uv r/\lk 8 e2=.c (.sl fo 1 (Qb ns))) ?_ ?_
   ·intro Q bB _ _;refine Wv ?_ ?_
    ·intro _;refine Zh ?_;refine bB _ _ ⟨true,[0],rfl,ZD,?_,rfl,rfl,rfl,rfl,rfl,rfl,rfl,rfl⟩;intro x hx;simp only[Jc]at hx;subst hx;omega
    ·intro _;refine Zc ?_
     exact bB _ _ ⟨true,[],rfl,ZD,ZD,rfl,rfl,rfl,rfl,rfl,rfl,rfl,rfl⟩
   rintro e2 H2 ⟨fo,ns,rfl,ha,dA,l1,l2,l3,l4,l5,l6,l7,l8⟩;refine Q1 (Qa ?_);simp only[go_sem,l1,l2,l3,l4,l5,l6,l7,l8];have js:∀i (h:i<(D5 q r).length),∃b:Nat,(D5 q r)[i].1=(b:Int)/\b<n:=λi h=>by rw[<-hn];exact Qbut (Jd h)
   obtain⟨sl,eK⟩:∃sl,D5 q r=sl:=⟨_,rfl⟩;have jt:=Qbin nN;rw[eK]at jt js;refine Qh (Qe (Qw (λm2 e1 H1=>∃(i:Nat) (fo:Bool) (ns:List Int),m2=sl.length-i/\i<=sl.length/\ns.Pairwise (· < ·)/\(∀x∈ns,0<=x/\x<n)/\Kn H H1 [] ((XL++[(zb,.vec 5 (os.map OBlk.row))])++os.flatMap OBlk.lg)/\
    lk 1 e1=.c (.pp [Ui q.params,Ui q.ae,.sl false 5 (Qo q.blocks)])/\lk 2 e1=Up x2/\lk 3 e1=Up x3/\lk 4 e1=.c (.sl false 1 (ovOf q.blocks.length (nxN (gnx q)) q.blocks.length))/\lk 5 e1=Up x5/\lk 6 e1=.c (.sl false 1 (DD q))/\lk 7 e1=Uv r/\lk 8 e1=.c (.sl fo 1 (Qb ns))/\lk 9 e1=Uv i) sl.length ?_ ?_))
   ·exact⟨0,fo,ns,ZB,ZB,ha,dA,kn,rfl,rfl,rfl,rfl,rfl,rfl,rfl,rfl,rfl⟩
   ·clear kn ha dA l1 l2 l3 l4 l5 l6 l7 l8;rintro m2 e3 H11 ⟨i,fo,ns,fw,hi,ha,dA,kn,l1,l2,l3,l4,l5,l6,l7,l8,l9⟩;have qJ:∀x∈ns,0<=x:=λx hx=>(dA x hx).1;have nY:ns.length<=n:=by
     have:=EO (n:=n) (IJ qJ ha) λx hx=>by
      obtain⟨v,hv,rfl⟩:=Jo.1 hx;have:=dA v hv;omega
     simpa using this
    refine Q1 (Qa ?_);simp only[go_sem,l1,l2,l3,l4,l5,l6,l7,l8,l9,nN,M6,jt,Tm];intro fF;simp only[LIM]at fF;refine Wu ?_ ?_
    ·intro aD;have af:i<sl.length:=ZH;obtain⟨b,hb,cR⟩:=js i af;refine Zc ?_
     refine Wt ?_;simp only[go_sem,nN,M6,jt,Tm,af,Qbml _ _ af,pRow,hb,J9,Ja9];try simp only[go_sem,J9,Ja9,Jk,Jl]
     refine⟨Jbf 0,?_⟩;refine Si ha ZB λfl2 ns2 H12 hu mV fX kB=>?_;have kn:=kn.aw hu;simp only[go_sem,Th];refine Zh ?_;refine⟨Qs,?_⟩;show ∃m,_;refine⟨sl.length-(i+1),ZB,i+1,fl2,ns2,rfl,ZB,mV,λx hx=>?_,kn,rfl,rfl,rfl,rfl,rfl,rfl,rfl,rfl,ZC⟩;rcases (fX x).1 hx with rfl|hx
     ·omega
     ·exact dA x hx
    ·intro _;refine Wb ?_;rw[HW qJ];refine Qanb ho (by rw[Je];omega) λfs H12 hu lq gM=>?_;have kn:=kn.aw hu;have iO:=EO lq gM;rw[hn]at iO gM;simp only[go_sem,Q37];refine Za ?_;refine Qe (Qw (λm2 e1 H1=>∃(i:Nat) (os:List OBlk),m2=fs.length-i/\i<=fs.length/\PhS q (λj=>R-(r+1)+if j∈fs.take i then 1 else 0) os/\Kn H H1 [] ((XL++[(zb,.vec 5 (os.map OBlk.row))])++os.flatMap OBlk.lg)/\
      lk 1 e1=.c (.pp [Ui q.params,Ui q.ae,.sl false 5 (Qo q.blocks)])/\lk 2 e1=Up x2/\lk 3 e1=Up x3/\lk 4 e1=.c (.sl false 1 (ovOf q.blocks.length (nxN (gnx q)) q.blocks.length))/\lk 5 e1=Up x5/\lk 6 e1=.c (.sl false 1 (DD q))/\lk 7 e1=Uv r/\
      lk 10 e1=.c (.sl false 1 (BK fs))/\lk 11 e1=Uv i) fs.length ?_ ?_)
     ·exact⟨0,os,ZB,ZB,hS.up λj=>ZD,kn,rfl,rfl,rfl,rfl,rfl,rfl,rfl,rfl,rfl⟩
     ·have ze:fs.Nodup:=lq.imp λh=>ZB;clear kn hS lq ha dA qJ nY l1 l2 l3 l4 l5 l6 l7 l8 l9;rintro m3 e4 H13 ⟨i,os,qS,hi,hS,kn,l1,l2,l3,l4,l5,l6,l7,l10,l11⟩;refine Q1 (Qa ?_);simp only[go_sem,l1,l2,l3,l4,l5,l6,l7,l10,l11,Q5];try intro _
      refine Wu ?_ ?_
      ·intro aD;have af:i<fs.length:=ZH;obtain⟨b,hb⟩:∃b,fs[i]=b:=⟨_,rfl⟩;have oy:fs.getD i 0=b:=(by simp[Jb,af,hb]);have cR:b<n:=(by rw[<-hb];exact gM _ (Jd af));have qL:b∉fs.take i:=(by rw[<-hb];exact Lf ze af);have bF:∀j,j∈fs.take (i+1)↔j∈fs.take i\/j=b:=λj=>by
        rw[Jz af,hb];simp
       have o0:b<zi.length:=(by rw[cS.1.i,hn];exact cR);obtain⟨nd,dh⟩:∃nd,zi[b].2=nd:=⟨_,rfl⟩;have qN:r<nd.length:=(by rw[<-dh,cS.1.li _ (Jd o0)];exact nN);have bq:=(gX (by rw[Jal]at kn;exact kn)).2;refine Zc ?_
       refine Ck (λe2 H2=>∃(os:List OBlk),PhS q (λj=>R-(r+1)+if j∈fs.take (i+1)then 1 else 0) os/\Kn H H2 [] ((XL++[(zb,.vec 5 (os.map OBlk.row))])++os.flatMap OBlk.lg)/\
        lk 1 e2=.c (.pp [Ui q.params,Ui q.ae,.sl false 5 (Qo q.blocks)])/\lk 2 e2=Up x2/\lk 3 e2=Up x3/\lk 4 e2=.c (.sl false 1 (ovOf q.blocks.length (nxN (gnx q)) q.blocks.length))/\lk 5 e2=Up x5/\lk 6 e2=.c (.sl false 1 (DD q))/\lk 7 e2=Uv r/\
        lk 10 e2=.c (.sl false 1 (BK fs))/\lk 11 e2=Uv i) ?_ ?_
       ·intro Q bB _ _;refine Qe (Q1 ?_);refine BM ?_;simp only[go_sem,bq,af,Q5,CZ _ _ af,oy,o0,Rq,MK _ _ o0,dh,qN,Q3,Q7 _ _ qN];refine Wu ?_ ?_
        ·intro _;refine Qu ?_;simp only[go_sem];refine bB _ _ ⟨os,hS.up λj=>?_,kn,rfl,rfl,rfl,rfl,rfl,rfl,rfl,rfl,rfl⟩;show _+_<=_+_;by_cases hj:j∈fs.take i
         ·rw[if_pos hj,if_pos ((bF j).2 (.inl hj))];exact Ji _
         ·rw[if_neg hj];omega
        ·intro _;refine Zc ?_
         refine Za ?_;intro x12 fP H14 iC;have kn:=kn.al fP iC;have fP:H14 x12=.st [Ui 0,.sl true 1 []]:=(kn.get (x12,.st [Ui 0,.sl true 1 []]) ZD).1;simp only[go_sem,Q38,fP];intro H15 vk;have kn:Kn H H15 [] (([(x12,.st [Ui r,.sl true 1 []])]++((XL++[(zb,.vec 5 (os.map OBlk.row))])++os.flatMap OBlk.lg))++[]):=by
          rw[Jba];exact (kn.perm Jr).aB 0 rfl vk
         refine Q1 (BM ?_);simp only[go_sem,af,Q5,CZ _ _ af,oy];refine Gu (nx:=gnx q) (.mk' _ _ _ _) rfl (E5 H15 q false).x λH16 hu=>?_;have kn:=kn.aw hu;rw[Qn];have da:=Es (gnx q) (b:Int) q.blocks.length;obtain⟨np,jG⟩:∃np,(Qz (gnx q) (b:Int) q.blocks.length).length=np:=⟨_,rfl⟩;rw[jG]at da;simp only[go_sem,Q39,Qc,jG];try intro _
         refine Qh (Qe (Qw (λm4 e1 H1=>∃(j:Nat) (t:C) (Lg:Ul),m4=np-j/\j<=np/\Gr Lg 1 (Qb (List.replicate j (r:Int))) t/\Kn H H1 [] (([(x12,.st [Ui r,t])]++((XL++[(zb,.vec 5 (os.map OBlk.row))])++os.flatMap OBlk.lg))++Lg)/\
          lk 1 e1=.c (.pp [Ui q.params,Ui q.ae,.sl false 5 (Qo q.blocks)])/\lk 2 e1=Up x2/\lk 3 e1=Up x3/\lk 4 e1=.c (.sl false 1 (ovOf q.blocks.length (nxN (gnx q)) q.blocks.length))/\lk 5 e1=Up x5/\lk 6 e1=.c (.sl false 1 (DD q))/\lk 7 e1=Uv r/\
          lk 10 e1=.c (.sl false 1 (BK fs))/\lk 11 e1=Uv i/\lk 12 e1=Up x12/\lk 85 e1=Uv np/\lk 86 e1=Uv j) np ?_ ?_))
         ·exact⟨0,_,[],ZB,ZB,.nil 1,kn,rfl,rfl,rfl,rfl,rfl,rfl,rfl,rfl,rfl,rfl,rfl,rfl⟩
         ·clear kn fP bq l1 l2 l3 l4 l5 l6 l7 l10 l11;rintro m4 e5 H17 ⟨j,t,Lg,AL,hj,px,kn,l1,l2,l3,l4,l5,l6,l7,l10,l11,l12,l85,l86⟩;have fM:=px.ai;have fP:=kn.l 0 rfl;refine Qa ?_;simp only[go_sem,l1,l2,l3,l4,l5,l6,l7,l10,l11,l12,l85,l86];refine Wu ?_ ?_
          ·intro bA;have cf:j<np:=ZT;refine Zc ?_
           refine Wt ?_;simp only[go_sem,fP,fM];refine kn.bk (new:=Qb [(r:Int)]) px (.mk' _ _ _ _) (Qq _) (by simp only[Qc,LIM,Jk,Jl,List.length_replicate];omega) λt2 Lg2 H18 rj dy kn=>?_;have fP:=kn.l 0 rfl;simp only[go_sem,Q4a,fP];intro H19 h19;have kn:=kn.aB 0 rfl h19;refine Zh ?_;refine⟨Qs,?_⟩;show ∃m,_;refine⟨np-(j+1),ZB,j+1,t2,Lg2,rfl,ZB,?_,kn,rfl,rfl,rfl,rfl,rfl,rfl,rfl,rfl,rfl,rfl,rfl,ZC⟩;rw[List.replicate_succ',D8];exact rj
          ·intro bA;have jX:j=np:=(by have:np<=j:=(by simpa using bA);omega);subst jX;refine Zb ?_;have cQ:b<os.length:=(by rw[hS.n,hn];exact cR);obtain⟨o,bg⟩:∃o,os[b]=o:=⟨_,rfl⟩;have iX:o.ok:=(by rw[<-bg];exact hS.ok _ (Jd cQ));obtain⟨Z,hZ⟩:∃Z,(os.eraseIdx b).flatMap OBlk.lg=Z:=⟨_,rfl⟩;have fZ:(os.flatMap OBlk.lg).Perm (o.lg++Z):=(by rw[<-hZ,<-bg];exact DK cQ);obtain⟨RW,jm⟩:∃RW,os.map OBlk.row=RW:=⟨_,rfl⟩;have bn:RW.length=n:=(by rw[<-jm,Je,hS.n,hn]);have bj:RW.getD b []=[o.pc,o.ic,Ui o.jump,Ui o.on,.ah o.nx.y 1 0 o.nx.ns.length]:=by
            rw[<-jm,Jb];simp only[Jt,Jg cQ,bg,Jx,Js];exact o.row_eq
           have bz:RW.take n=RW:=Jf ZB;have fq:=iX.p.ai;have ot:=iX.i.ai;rw[jm]at kn;obtain⟨p,hp⟩:∃p:OPhi,p=⟨r,List.replicate j (r:Int),t,Lg⟩:=⟨_,rfl⟩;have iV:p.ok:=by
            rw[hp];rcases px with ⟨h1,h2,h3⟩|⟨y,h1,h2⟩
            ·right;refine⟨true,?_,h3⟩;show t=_;rw[h1,h2]
            ·left;refine⟨y,?_,h2⟩;show t=_;rw[h1,Qc]
           have kY:p.row=[Ui r,t]:=(by rw[hp];rfl);have kn:Kn H H17 [] (([(zb,.vec 5 RW)]++([(x12,.st p.row)]++(XL++(Z++(o.rst++Lg)))))++o.pl):=kn.perm (Qj λf hf h0 hc cB=>by
            have h1:=cB _ _ fZ;have h2:=cB _ _ o.lg_perm;rw[kY];simp only[Ui,hf]at h1 h2⊢;omega)
           have aL:H17 x3=.st [Ui q.params,Ui q.ae,.ah zb 5 0 n]:=(kn.get (x3,.st [Ui q.params,Ui q.ae,.ah zb 5 0 n]) Za9).1;have fP:=kn.l 1 rfl;rw[kY]at fP;have ca:=kn.l 0 rfl;refine BY ?_;simp only[go_sem,aL,fP,ca,bn,bz,bj,af,Q5,CZ _ _ af,oy,cR,fq,fM,Jj,Ji];intro y hy H18 vj;have kn:=kn.al hy vj;have kp:=kn.perm (L':=(([(zb,.vec 5 RW)]++([(x12,.st p.row)]++(XL++(Z++(o.rst++Lg)))))++[(y,.vec 2 [[Ui r,t]])])++o.pl) Ee;have b7:=iX.p.get kp;have eK:Slc H18 2 (o.ab.map OPhi.row) o.pc:=⟨b7.1,iX.p.aP,b7.2,iX.p.ay⟩;have xA:∀w∈o.ab.map OPhi.row,Go.AE.ak w=true:=λw hw=>by
            obtain⟨x,hx,rfl⟩:=Jo.1 hw;exact x.ak (iX.a x hx)
           have md:Gr [(y,.vec 2 [[Ui r,t]])] 2 [[Ui r,t]] (.ah y 2 0 1):=.mk _ _ _ rfl;generalize bS:C.ah y 2 0 1=yc at md⊢;have hycw:=md.ai;have gR:b<q.blocks.length:=(by rw[hn];exact cR);have fv:o.ab.length<=3000:=by
            have h1:=hS.l b cQ gR;have h2:=ho.il b gR;rw[bg]at h1;have h3:(R-(r+1)+if b∈fs.take i then 1 else 0)<=R+1:=(by split <;> omega);have h1:o.ab.length<=q.blocks[b].ab.length+(R-(r+1)+if b∈fs.take i then 1 else 0):=h1;omega
           have aL:H18 x3=.st [Ui q.params,Ui q.ae,.ah zb 5 0 n]:=(kn.get (x3,.st [Ui q.params,Ui q.ae,.ah zb 5 0 n]) Za9).1;have ca:H18 zb=.vec 5 RW:=(kn.get (zb,.vec 5 RW) ZD).1;simp only[go_sem,Q4c,aL,ca,bn,bz,bj,af,Q5,CZ _ _ af,oy,cR,fq,Jj,Ji];refine kn.bk (new:=o.ab.map OPhi.row) md eK xA (by simp only[Je,Jk,Jl,LIM];omega) λt2 Lg2 H19 cZ dy kn=>?_;have aL:H19 x3=.st [Ui q.params,Ui q.ae,.ah zb 5 0 n]:=(kn.get (x3,.st [Ui q.params,Ui q.ae,.ah zb 5 0 n]) Za9).1;have ca:H19 zb=.vec 5 RW:=(kn.get (zb,.vec 5 RW) ZD).1;simp only[go_sem,Q4b,aL,ca,bn,bj,af,Q5,CZ _ _ af,oy,cR,Jj,Ji];intro H20 sI;obtain⟨o',fN⟩:∃o':OBlk,o'=⟨p::o.ab,t2,Lg2,o.ins,o.ic,o.il,o.jump,o.on,o.nx⟩:=⟨_,rfl⟩;have bW:RW.set b [t2,o.ic,Ui o.jump,Ui o.on,.ah o.nx.y 1 0 o.nx.ns.length]=(os.set b o').map OBlk.row:=(by rw[<-jm,Jau,fN];rfl);rw[bW]at sI;have kn:=kn.aB 0 rfl sI;have aN:=hS.step cQ bg (k':=λj=>R-(r+1)+if j∈fs.take (i+1)then 1 else 0) iV (pc:=t2) (pl:=Lg2) (by rw[Jah,kY];exact cZ) (by rw[hp];exact (⟨ZB,ZB⟩:(0:Int)<=(r:Int)/\(r:Int)<q.ae)) (λv hv=>by
            rw[hp]at hv;rw[J0 hv];exact⟨ZB,ZB⟩) (by rw[hp,jG];simp) (λj'=>by
            by_cases b6:j'=b
            ·subst b6;rw[if_pos rfl,if_pos ((bF j').2 (.inr rfl)),if_neg qL]
            ·rw[if_neg b6];by_cases cL:j'∈fs.take i
             ·rw[if_pos cL,if_pos ((bF j').2 (.inl cL))]
             ·rw[if_neg cL,if_neg (λh=>by rcases (bF j').1 h with h|h;exact cL h;exact b6 h)])
           rw[<-fN]at aN;refine bB _ _ ⟨os.set b o',aN,?_,rfl,rfl,rfl,rfl,rfl,rfl,rfl,rfl,rfl⟩;have eZ:=DK (f:=OBlk.lg) (l:=os.set b o') (i:=b) (by rw[J1];exact cQ);rw[Jar,Jay,hZ]at eZ;have xf:∀f:Ul->Nat,(∀a b,f (a++b)=f a+f b)->f o'.rst=f o.rst+f Lg:=λf hf=>by
            rw[fN];simp only[OBlk.rst,Jam,hf];have:p.lg=Lg:=(by rw[hp]);rw[this];omega
           have xE:o'.pl=Lg2:=(by rw[fN]);refine Kn.drop (B:=[(x12,.st p.row)]++o.pl) (kn.perm (Qj λf hf h0 hc cB=>?_));have h1:=cB _ _ eZ;have h2:=cB _ _ o'.lg_perm;have h3:=xf f hf;rw[xE]at h2;show f (([(zb,_)]++([(x12,_)]++(XL++(Z++(o.rst++Lg)))))++o.pl++Lg2)=_;simp only[Ui,hf]at h1 h2 h3⊢;omega
       ·rintro e5 H14 ⟨os,hS,kn,l1,l2,l3,l4,l5,l6,l7,l10,l11⟩;refine Qp ?_;simp only[go_sem,l1,l2,l3,l4,l5,l6,l7,l10,l11];refine⟨Qs,?_⟩;show ∃m,_;exact⟨fs.length-(i+1),ZB,i+1,os,rfl,ZB,hS,kn,rfl,rfl,rfl,rfl,rfl,rfl,rfl,rfl,ZC⟩
      ·intro aD;refine Zb ?_;refine Zh ?_;refine⟨Qs,?_⟩;show ∃m,_;refine⟨r,ZB,r,os,rfl,ZB,hS.up λj=>?_,kn,rfl,rfl,rfl,rfl,rfl,rfl,rfl⟩;show _+_<=_;split <;> omega
  ·intro hc;have xk:m=0:=by have:¬(0:Int)<=(m:Int)-1:=ZE;omega
   subst xk;refine Zb ?_;have aL:H10 x3=.st [Ui q.params,Ui q.ae,.ah zb 5 0 n]:=(kn.get (x3,.st [Ui q.params,Ui q.ae,.ah zb 5 0 n]) Za9).1;rw[<-hX]at kn;have aI:=kn.l 1 rfl;refine Zm aL aI ?_;intro H11 ev;have kn:=kn.aB 1 rfl ev;have aI:=kn.l 1 rfl;refine Zl aI ?_;have jd:Held H11 (un H) (os.flatMap OBlk.lg):=λp hp=>⟨(kn.get p (by simp only[List.set,J5,J7,Jw];exact .inr (.inr (.inr (.inr hp))))).1,DG (kn.loc p (by simp only[List.set,J5,J7,Jw];exact .inr (.inr (.inr (.inr hp)))))⟩;have hz:=kn.l 3 rfl;have bI:=OBlks.frzD (H:=H11) (S:=un H) hS.ok jd;exact⟨_,FrzL.ag (.cons (Qg rfl) (.cons (Qg rfl) (.cons (bI.ah (kn.un 3 rfl) hz (by rw[Je,hS.n,hn])) .nil))),hK ⟨q.params,q.ae,os.map OBlk.d⟩ _ (hS.fin ho λj hj=>by
    have:=dV _ (Jd hj);have:=ho.il j hj;show _+(R-0)<=_;omega) rfl rfl kn.fin⟩
end Go.AE.Y
namespace Go.AE
def SimC (c c':C):Prop:=c'=c\/∃a b:Int,c=.int .i64 a/\c'=.int .i64 b
inductive SimR:List C->List C->Prop
 |nil:SimR [] []
 |cons {c c':C} {l l':List C} (h:SimC c c') (t:SimR l l'):SimR (c::l) (c'::l')
theorem SimR.same:∀l,SimR l l
 |[]=>.nil
 |c::l=>.cons (.inl rfl) (SimR.same l)
theorem SimC.trans {a b c:C}(h:SimC a b)(k:SimC b c):SimC a c:=by
 rcases h with rfl|⟨x,y,rfl,rfl⟩
 ·exact k
 ·rcases k with rfl|⟨u,v,hu,rfl⟩
  ·exact .inr ⟨x,y,rfl,rfl⟩
  ·exact .inr ⟨x,v,rfl,rfl⟩
theorem SimR.trans {a b c:List C}(h:SimR a b):SimR b c->SimR a c:=by
 induction h generalizing c with
 |nil=>exact id
 |cons h t ih=>
  intro k
  cases k with
  |cons h2 t2=>exact .cons (h.trans h2) (ih t2)
theorem SimC.int {a:Int}{c:C}(h:SimC (Ui a) c):∃b:Int,c=Ui b:=by
 rcases h with rfl|⟨x,y,_,rfl⟩
 ·exact⟨a,rfl⟩
 ·exact⟨y,rfl⟩
theorem SimC.sl {fl:Bool}{sz:Nat}{rows:List (List C)}{c:C}(h:SimC (.sl fl sz rows) c):c=.sl fl sz rows:=by
 rcases h with rfl|⟨x,y,h,_⟩
 ·rfl
 ·simp at h
theorem SimC.ah {l sz st n:Nat}{c:C}(h:SimC (.ah l sz st n) c):c=.ah l sz st n:=by
 rcases h with rfl|⟨x,y,h,_⟩
 ·rfl
 ·simp at h
def SimO (X:Nat->Prop)(o o':Obj):Prop:=∃sz rows rows',o=.vec sz rows/\o'=.vec sz rows'/\rows'.length=rows.length/\∀r,r<rows.length->SimR (rows.getD r []) (rows'.getD r [])/\(X r->rows'.getD r []=rows.getD r [])
variable {X X':Nat->Prop}{o o':Obj}
theorem SimO.same (sz:Nat)(rows:List (List C)):SimO X (.vec sz rows) (.vec sz rows):=⟨sz,rows,rows,rfl,rfl,rfl,λr _=>⟨.same _,λ_=>rfl⟩⟩
theorem SimO.mono (h:SimO X o o')(hX:∀r,X' r->X r):SimO X' o o':=by
 obtain⟨sz,rows,rows',h1,h2,h3,h4⟩:=h;exact⟨sz,rows,rows',h1,h2,h3,λr hr=>⟨(h4 r hr).1,λhx=>(h4 r hr).2 (hX r hx)⟩⟩
theorem SimO.get {sz:Nat}{rows:List (List C)}(h:SimO X (.vec sz rows) o'):∃rows',o'=.vec sz rows'/\rows'.length=rows.length/\∀r,r<rows.length->SimR (rows.getD r []) (rows'.getD r [])/\(X r->rows'.getD r []=rows.getD r []):=by
 obtain⟨sz,rows,rows',h1,h2,h3,h4⟩:=h;cases h1;exact⟨rows',h2,h3,h4⟩
theorem SimO.set {sz:Nat}{rows rows':List (List C)}(h:SimO X (.vec sz rows) (.vec sz rows')){r:Nat}{new:List C}(hr:r<rows.length)(hs:SimR (rows.getD r []) new)(hX:∀r',r'≠r->X' r'->X r')(hn:¬X' r) :
  SimO X' (.vec sz rows) (.vec sz (rows'.set r new)):=by
 obtain⟨rows2,h2,h3,h4⟩:=h.get;cases h2;refine⟨sz,rows,_,rfl,rfl,by rw[J1];exact h3,λr' bf=>?_⟩;by_cases e:r'=r
 ·subst e;have:(rows'.set r' new).getD r' []=new:=by rw[Jb,List.getElem?_set_self ZB];rfl
  rw[this];exact⟨hs,λhx=>absurd hx hn⟩
 ·have:(rows'.set r new).getD r' []=rows'.getD r' []:=by rw[Jb,List.getElem?_set_ne (λh=>e h.symm),<-Jb]
  rw[this];exact⟨(h4 r' bf).1,λhx=>(h4 r' bf).2 (hX r' e hx)⟩
def Ty (LG:List (Nat×Obj))(F:Heap)(E0:List (Nat×Obj))(X:Nat->Nat->Prop)(H:Heap)(L:List (Nat×Obj)):Prop:=
 ∃E1:List (Nat×Obj),E1.map Prod.fst=LG.map Prod.fst/\(∀p∈LG,∀ob,(p.1,ob)∈E1->SimO (X p.1) p.2 ob)/\Kn F H (E0++E1) L
namespace Ty
variable {LG E0 L A N:List (Nat×Obj)}{F H H':Heap}{X X':Nat->Nat->Prop}{m:Nat}{o ob:Obj}
theorem nodup (t:Ty LG F E0 X H L):(LG.map Prod.fst).Nodup:=by
 obtain⟨E1,h1,h2,kn⟩:=t;have:=kn.dE;rw[Jp]at this;rw[<-h1];exact (Ju.1 this).2.1
theorem get (t:Ty LG F E0 X H L)(hm:(m,o)∈LG):SimO (X m) o (H m):=by
 obtain⟨E1,h1,h2,kn⟩:=t;have h3:m∈E1.map Prod.fst:=by rw[h1];exact Cc hm
 obtain⟨p,hp,he⟩:=Jo.1 h3;have h4:=(kn.get p (Jh _ (Ja _ hp))).1;obtain⟨a,b⟩:=p;simp only at he h4;subst he;rw[h4];exact h2 _ hm _ hp
theorem e (t:Ty LG F E0 X H L)(i:Nat){x:Nat}{oo:Obj}(h:E0[i]? = some (x,oo)):H x=oo:=by
 obtain⟨E1,h1,h2,kn⟩:=t;exact (kn.get (x,oo) (Jh _ (Jh _ (Jaz h)))).1
theorem weak (t:Ty LG F E0 X H L)(hX:∀m r,X' m r->X m r):Ty LG F E0 X' H L:=by
 obtain⟨E1,h1,h2,kn⟩:=t;exact⟨E1,h1,λp hp ob bg=>(h2 p hp ob bg).mono (hX p.1),kn⟩
theorem st (t:Ty LG F E0 X H L)(hm:(m,o)∈LG)(h:H'=H.set m ob)(hs:SimO (X' m) o ob)(hX:∀m',m'≠m->∀r,X' m' r->X m' r):Ty LG F E0 X' H' L:=by
 have dh:=t.nodup;obtain⟨E1,h1,h2,kn⟩:=t;have h3:m∈E1.map Prod.fst:=by rw[h1];exact Cc hm
 obtain⟨p,hp,he⟩:=Jo.1 h3;obtain⟨i,hi⟩:=J4 hp;obtain⟨a,b⟩:=p;simp only at he;subst he;have bg:ob≠.none:=by
  obtain⟨_,_,_,_,h,_⟩:=hs;rw[h];simp
 have dv:(E1.map Prod.fst).Nodup:=by rw[h1];exact dh
 have bR:(E0++E1)[E0.length+i]? = some (a,b):=by rw[List.getElem?_append_right (by omega),Jaa];exact hi
 have k2:=kn.stE (E0.length+i) bR h bg;rw[List.set_append_right _ _ (by omega),Jaa]at k2;refine⟨E1.set i (a,ob),(Fe hi).trans h1,λp hp ob' nX=>?_,k2⟩;rcases DJ nX with e|⟨j,hj,cL⟩
 ·have e1:p.1=a:=congrArg Prod.fst e;have e2:ob'=ob:=congrArg Prod.snd e;have e3:p.2=o:=by
   obtain⟨i1,g1⟩:=J4 hp;obtain⟨i2,g2⟩:=J4 hm;have:=DH dh g1 g2 e1;subst this;rw[g1]at g2;rw[Jab g2]
  rw[e1,e2,e3];exact hs
 ·have bd:p.1≠a:=λhh=>hj (DH dv cL hi hh);exact (h2 p hp ob' (Jaz cL)).mono (hX p.1 bd)
theorem stE (t:Ty LG F E0 X H L)(i:Nat){x:Nat}{a b:Obj}(h:E0[i]? = some (x,a))(h1:H'=H.set x b)(hb:b≠.none:=by nofun):Ty LG F (E0.set i (x,b)) X H' L:=by
 obtain⟨E1,g1,g2,kn⟩:=t;have af:=(Jak.1 h).1;have k2:=kn.stE (o:=a) i (by rw[List.getElem?_append_left af];exact h) h1 hb;rw[List.set_append_left _ _ af]at k2;exact⟨E1,g1,g2,k2⟩
theorem aw (t:Ty LG F E0 X H L)(hu:Upd H H' []):Ty LG F E0 X H' L:=by
 obtain⟨E1,g1,g2,kn⟩:=t;exact⟨E1,g1,g2,kn.aw hu⟩
theorem al (t:Ty LG F E0 X H L){x:Nat}{b:Obj}(hx:H x=.none)(h1:H'=H.set x b)(hb:b≠.none:=by nofun):Ty LG F E0 X H' (L++[(x,b)]):=by
 obtain⟨E1,g1,g2,kn⟩:=t;exact⟨E1,g1,g2,kn.al hx h1 hb⟩
theorem drop (t:Ty LG F E0 X H (A++N)):Ty LG F E0 X H A:=by
 obtain⟨E1,g1,g2,kn⟩:=t;exact⟨E1,g1,g2,kn.drop⟩
theorem sub {wl cy c0:Nat}{a b c:Obj}(t:Ty LG F [(wl,a),(c0,b)] X H (L++[(cy,c)])):Ty LG H [(wl,a),(cy,c)] X H []:=by
 obtain⟨E1,g1,g2,kn⟩:=t;refine⟨E1,g1,g2,Kn.startE (λp hp=>kn.get p ?_) ?_⟩
 ·rcases Jq.1 hp with hp|hp
  ·rcases Jw.1 hp with rfl|hp
   ·simp
   ·rcases Jw.1 hp with rfl|hp
    ·simp
    ·simp at hp
  ·simp[hp]
 ·have hd:=kn.dE;simp only[J5,J7,Jah,Jaw,Jw,not_or]at hd⊢;have gO:∀p∈[(wl,a),(c0,b)]++E1,p.1≠cy:=λp hp hh=>kn.ext p hp (hh▸kn.loc (cy,c) (by simp));refine⟨⟨gO (wl,a) (by simp),hd.1.2⟩,λhh=>?_,hd.2.2⟩;obtain⟨p,hp,he⟩:=Jo.1 hh;exact gO p (Ja _ hp) he
theorem ret {wl cy c0:Nat}{a b c a' c':Obj}(t:Ty LG F [(wl,a),(c0,b)] X H (L++[(cy,c)]))(t2:Ty LG H [(wl,a'),(cy,c')] X' H' []):Ty LG F [(wl,a'),(c0,b)] X' H' L:=by
 obtain⟨E1,g1,g2,kn⟩:=t;obtain⟨E2,k1,k2,kn2⟩:=t2;have hu:=kn2.upd;have bd:∀p∈[(wl,a'),(cy,c')]++E2,p.2≠.none:=λp hp=>(kn2.get p (Jh _ hp)).2;have ox:E2.map Prod.fst=E1.map Prod.fst:=k1.trans g1.symm;have hd:=kn.dE;have Be:=kn.dL;rw[Jp]at Be;have gO:∀p∈[(wl,a),(c0,b)]++E1,p.1≠cy:=λp hp hh=>kn.ext p hp (hh▸kn.loc (cy,c) (by simp));have hk:Kn F H' ([(wl,a'),(c0,b)]++E2) (L++[(cy,c')]):=by
  refine kn.callg hu (by simp[ox]) (by simp) (λp hp=>?_) (λu iS=>?_)
  ·rcases Jq.1 hp with hp|hp
   ·rcases Jq.1 hp with hp|hp
    ·rcases Jw.1 hp with rfl|hp
     ·exact⟨bd _ (by simp),.inl (by simp)⟩
     ·simp only[Jc]at hp;subst hp;have h0:(c0,b)∈([(wl,a),(c0,b)]++E1)++(L++[(cy,c)]):=(by simp);refine⟨(kn.get _ h0).2,.inr ⟨h0,?_⟩⟩;simp only[J5,J7,Jah,Jaw,Jw,not_or]at hd⊢;refine⟨λh=>hd.1.1 h.symm,gO (c0,b) (by simp),?_⟩;rw[ox];exact hd.2.1
    ·exact⟨bd p (Ja _ hp),.inl (Ja _ hp)⟩
   ·rcases Jq.1 hp with hp|hp
    ·have h0:p∈([(wl,a),(c0,b)]++E1)++(L++[(cy,c)]):=(by simp[hp]);refine⟨(kn.get _ h0).2,.inr ⟨h0,λhh=>?_⟩⟩;have AA:F p.1=.none:=kn.loc p (Jh _ hp);simp only[J5,J7,Jah,Jw]at hh;rcases hh with hh|hh|hh
     ·exact kn.ext (wl,a) (by simp) (hh▸AA)
     ·exact (Ju.1 Be).2.2 _ (Cc hp) cy (by simp) hh
     ·rw[ox]at hh;obtain⟨p',cB,he⟩:=Jo.1 hh;exact kn.ext p' (Ja _ cB) (he▸AA)
    ·simp only[Jc]at hp;subst hp;exact⟨bd _ (by simp),.inl (by simp)⟩
  ·rcases Jq.1 iS with h|h
   ·rcases Jw.1 h with rfl|h
    ·left;simp
    ·simp only[Jc]at h;subst h;right;simp
   ·left;rw[Jp,Jq,<-ox];exact .inr (Cc h)
 exact⟨E2,k1,k2,hk.drop⟩
end Ty
end Go.AE
namespace Go.AE.Y
variable {H H' F:Heap}{q:CodeD}{os:List OBlk}{zb wl cy R n:Nat}{ids:List Int}{U:Nat->Prop}{X X':Nat->Nat->Prop}{nx:Int}{cs:List Int}{o:OBlk}{b x:Nat}
def LGo (os:List OBlk)(zb:Nat):List (Nat×Obj):=os.flatMap OBlk.lg++[(zb,.vec 5 (os.map OBlk.row))]
def OBlk.inN (o:OBlk):List (Nat×Obj):=o.ins.flatMap OIns.lg++o.il
def OBlk.phN (o:OBlk):List (Nat×Obj):=o.ab.flatMap OPhi.lg++o.pl
def XU (os:List OBlk)(zb:Nat)(U:Nat->Prop)(m r:Nat):Prop:=(∃x,∃h:x<os.length,m=os[x].nx.y)\/∃x,∃h:x<os.length,U x/\((m=zb/\r=x)\/∃p∈os[x].inN,m=p.1)
def XP (o:OBlk)(zb b:Nat)(j:Bool)(i k m r:Nat):Prop:=(j=true/\m=zb/\r=b)\/(∃p∈o.il,m=p.1/\i<=r)\/∃i',∃h:i'<o.ins.length,m=o.ins[i'].a.y/\(i<i'\/(i=i'/\k<=r))
theorem HY {α:Type}{f:α->Ul}:∀{l:List α},((l.flatMap f).map Prod.fst).Nodup->∀{i j:Nat} (hi:i<l.length) (hj:j<l.length),i≠j->∀p∈f l[i],∀p'∈f l[j],p.1≠p'.1
 |[],_,i,j,hi,_,_=>by simp at hi
 |x::l,hd,i,j,hi,hj,gL=>by
  rw[Jam,Jp]at hd;obtain⟨d1,d2,d3⟩:=Ju.1 hd;intro p hp p' cB
  cases i with
  |zero=>
   cases j with
   |zero=>exact absurd rfl gL
   |succ j=>
    simp only[Jao,Jac]at hp cB;exact d3 _ (Cc hp) _ (Cc (Jm.2 ⟨_,Jd _,cB⟩))
  |succ i=>
   cases j with
   |zero=>
    simp only[Jao,Jac]at hp cB;exact λh=>d3 _ (Cc cB) _ (Cc (Jm.2 ⟨_,Jd _,hp⟩)) h.symm
   |succ j=>
    simp only[Jac]at hp cB;exact HY d2 Zaf ZV ZB p hp p' cB
theorem L5 {α:Type}{f:α->Ul}:∀{l:List α},((l.flatMap f).map Prod.fst).Nodup->∀x∈l,((f x).map Prod.fst).Nodup
 |[],_,x,h=>ZI
 |y::l,hd,x,h=>by
  rw[Jam,Jp]at hd;obtain⟨d1,d2,d3⟩:=Ju.1 hd;rcases Jw.1 h with rfl|h
  ·exact d1
  ·exact L5 d2 x h
structure BlkN (o:OBlk):Prop where
 pn:∀p∈o.phN,p.1≠o.nx.y
 inn:∀p∈o.inN,p.1≠o.nx.y
 pi:∀p∈o.phN,∀p'∈o.inN,p.1≠p'.1
 ii:∀p∈o.ins.flatMap OIns.lg,∀p'∈o.il,p.1≠p'.1
 ij:∀i j (hi:i<o.ins.length) (hj:j<o.ins.length),i≠j->o.ins[i].a.y≠o.ins[j].a.y
theorem Qb06 (h:(o.lg.map Prod.fst).Nodup):BlkN o:=by
 have e:o.lg=o.nx.lg++(o.phN++o.inN):=by simp only[OBlk.lg,OBlk.phN,OBlk.inN,Jal]
 rw[e,Jp,Jp]at h;obtain⟨_,d2,d3⟩:=Ju.1 h;obtain⟨_,e2,e3⟩:=Ju.1 d2;rw[OBlk.inN,Jp]at e2;obtain⟨g1,_,g3⟩:=Ju.1 e2;have hy:o.nx.y∈o.nx.lg.map Prod.fst:=by simp[OInts.lg]
 refine⟨λp hp hh=>d3 _ hy _ (Jh _ (Cc hp)) hh.symm,λp hp hh=>d3 _ hy _ (Ja _ (Cc hp)) hh.symm,λp hp p' cB=>e3 _ (Cc hp) _ (Cc cB),
  λp hp p' cB=>g3 _ (Cc hp) _ (Cc cB),λi j hi hj gL=>?_⟩
 exact HY g1 hi hj gL (o.ins[i].a.y,.vec 1 (Qb o.ins[i].a.ns)) ZaN (o.ins[j].a.y,.vec 1 (Qb o.ins[j].a.ns)) ZaN
def Apart (os:List OBlk)(zb:Nat):Prop:=((LGo os zb).map Prod.fst).Nodup
theorem Apart.zbn (h:Apart os zb)(hx:x<os.length){p:Nat×Obj}(hp:p∈os[x].lg):p.1≠zb:=by
 rw[Apart,LGo,Jp]at h;exact (Ju.1 h).2.2 _ (Cc (Jm.2 ⟨_,Jd hx,hp⟩)) zb ZD
theorem Apart.same (h:Apart os zb){x y:Nat}(hx:x<os.length)(hy:y<os.length){p p':Nat×Obj}(hp:p∈os[x].lg)(cB:p'∈os[y].lg)(he:p.1=p'.1):x=y:=by
 rw[Apart,LGo,Jp]at h;by_cases pP:x=y
 ·exact pP
 ·exact absurd he (HY (Ju.1 h).1 hx hy pP p hp p' cB)
theorem Apart.blk (h:Apart os zb)(hx:x<os.length):BlkN os[x]:=by
 rw[Apart,LGo,Jp]at h;exact Qb06 (L5 (Ju.1 h).1 _ (Jd hx))
theorem OBlk.nxM (o:OBlk):(o.nx.y,Obj.vec 1 (Qb o.nx.ns))∈o.lg:=by simp[OBlk.lg,OInts.lg]
theorem OBlk.phM {p:Nat×Obj}(h:p∈o.phN):p∈o.lg:=by
 simp only[OBlk.phN,OBlk.lg,Jq]at h⊢;rcases h with h|h
 ·exact .inr (.inl h)
 ·exact .inr (.inr (.inl h))
theorem OBlk.inM {p:Nat×Obj}(h:p∈o.inN):p∈o.lg:=by
 simp only[OBlk.inN,OBlk.lg,Jq]at h⊢;exact .inr (.inr (.inr h))
theorem OBlk.aM (o:OBlk){i:Nat}(h:i<o.ins.length):(o.ins[i].a.y,Obj.vec 1 (Qb o.ins[i].a.ns))∈o.ins.flatMap OIns.lg:=Jm.2 ⟨_,Jd h,ZaN⟩
theorem LGo.of {p:Nat×Obj}(hx:x<os.length)(hp:p∈os[x].lg):p∈LGo os zb:=Jh _ (Jm.2 ⟨_,Jd hx,hp⟩)
theorem LGo.zbm:(zb,Obj.vec 5 (os.map OBlk.row))∈LGo os zb:=Ja _ ZD
theorem Apart.ph (h:Apart os zb)(hx:x<os.length){p:Nat×Obj}(hp:p∈os[x].phN)(r:Nat):¬XU os zb U p.1 r:=by
 rintro (⟨y,hy,he⟩|⟨y,hy,_,he⟩)
 ·have:=h.same hx hy (OBlk.phM hp) os[y].nxM he;subst this;exact (h.blk hx).pn p hp he
 ·rcases he with ⟨he,_⟩|⟨p',cB,he⟩
  ·exact h.zbn hx (OBlk.phM hp) he
  ·have:=h.same hx hy (OBlk.phM hp) (OBlk.inM cB) he;subst this;exact (h.blk hx).pi p hp p' cB he
theorem Apart.phP (h:Apart os zb)(hx:x<os.length)(hb:b<os.length){p:Nat×Obj}(hp:p∈os[x].phN)(j:Bool)(i k r:Nat):¬XP os[b] zb b j i k p.1 r:=by
 rintro (⟨_,he,_⟩|⟨p',cB,he,_⟩|⟨i',bR,he,_⟩)
 ·exact h.zbn hx (OBlk.phM hp) he
 ·have fe:p'∈os[b].inN:=Ja _ cB;have:=h.same hx hb (OBlk.phM hp) (OBlk.inM fe) he;subst this;exact (h.blk hx).pi p hp p' fe he
 ·have fe:(os[b].ins[i'].a.y,Obj.vec 1 (Qb os[b].ins[i'].a.ns))∈os[b].inN:=Jh _ (os[b].aM bR);have:=h.same hx hb (OBlk.phM hp) (OBlk.inM fe) he;subst this;exact (h.blk hx).pi p hp _ fe he
theorem Apart.inU (h:Apart os zb)(hb:b<os.length){p:Nat×Obj}(hp:p∈os[b].inN)(hU:¬U b)(r:Nat):¬XU os zb U p.1 r:=by
 rintro (⟨y,hy,he⟩|⟨y,hy,zR,he⟩)
 ·have:=h.same hb hy (OBlk.inM hp) os[y].nxM he;subst this;exact (h.blk hb).inn p hp he
 ·rcases he with ⟨he,_⟩|⟨p',cB,he⟩
  ·exact h.zbn hb (OBlk.inM hp) he
  ·have:=h.same hb hy (OBlk.inM hp) (OBlk.inM cB) he;subst this;exact hU zR
theorem Apart.zbU (h:Apart os zb)(hU:¬U b):¬XU os zb U zb b:=by
 rintro (⟨y,hy,he⟩|⟨y,hy,zR,he⟩)
 ·exact h.zbn hy os[y].nxM he.symm
 ·rcases he with ⟨_,he⟩|⟨p',cB,he⟩
  ·subst he;exact hU zR
  ·exact h.zbn hy (OBlk.inM cB) he.symm
theorem Apart.zbP (h:Apart os zb)(hb:b<os.length)(i k r:Nat):¬XP os[b] zb b false i k zb r:=by
 rintro (⟨h0,_⟩|⟨p',cB,he,_⟩|⟨i',bR,he,_⟩)
 ·simp at h0
 ·exact h.zbn hb (OBlk.inM (Ja _ cB)) he.symm
 ·exact h.zbn hb (OBlk.inM (Jh _ (os[b].aM bR))) he.symm
structure NC (q:CodeD)(os:List OBlk)(zb R n:Nat)(ids:List Int):Prop where
 ok:q.ok
 hn:q.blocks.length=n
 hR:q.ae.toNat=R
 l:os.length=n
 d:∀x (h:x<os.length) (h':x<q.blocks.length),os[x].d=q.blocks[x]
 bo:∀b∈os,b.ok
 ow:∀b∈os,∀p∈b.ab,p.own
 t:Tree n ids (depL n (nxN (gnx q)))
def wO (q:CodeD)(ids:List Int)(zb n:Nat)(nx:Int):Obj:=.st [.int .i64 q.params,.int .i64 q.ae,.sl false 5 (Qo q.blocks),.int .i64 q.params,.int .i64 q.ae,.ah zb 5 0 n,.sl false 1 (Qb ids),.int .i64 nx]
abbrev TT (q:CodeD)(os:List OBlk)(zb n wl cy:Nat)(ids:List Int)(F:Heap)(nx:Int)(cs:List Int)(X:Nat->Nat->Prop)(H:Heap):Prop:=Ty (LGo os zb) F [(wl,wO q ids zb n nx),(cy,.vec 1 (Qb cs))] X H []
theorem Kw (hs:SimO (X zb) (.vec 5 (os.map OBlk.row)) (H zb))(c:NC q os zb R n ids)(hx:x<n)(eP:x<os.length)(ho:os[x]=o) :
  ∃RW j on,H zb=.vec 5 RW/\RW.length=n/\RW.take n=RW/\RW.getD x []=[o.pc,o.ic,Ui j,Ui on,.ah o.nx.y 1 0 o.nx.ns.length]/\(X zb x->j=o.jump/\on=o.on)/\SimO (X zb) (.vec 5 (os.map OBlk.row)) (.vec 5 RW):=by
 subst ho;obtain⟨RW,h1,h2,h3⟩:=hs.get;rw[h1]at hs;rw[Je,c.l]at h2;have hg:(os.map OBlk.row).getD x []=os[x].row:=by simp[Jb,eP]
 obtain⟨h4,h5⟩:=h3 x (by rw[Je];exact eP);rw[hg]at h4 h5;have ax:=c.bo _ (Jd eP);have ju:∀c',SimC os[x].pc c'->c'=os[x].pc:=λc' h=>by
  rcases ax.p with ⟨e,_⟩|⟨y,e,_⟩
  ·rw[e]at h⊢;exact h.sl
  ·rw[e]at h⊢;exact h.ah
 have iN:∀c',SimC os[x].ic c'->c'=os[x].ic:=λc' h=>by
  rcases ax.i with ⟨e,_⟩|⟨y,e,_⟩
  ·rw[e]at h⊢;exact h.sl
  ·rw[e]at h⊢;exact h.ah
 generalize hR:RW.getD x []=row at h4 h5;rw[OBlk.row_eq]at h4 h5
 cases h4 with
 |cons a1 t1=>cases t1 with
  |cons a2 t2=>cases t2 with
   |cons a3 t3=>cases t3 with
    |cons a4 t4=>cases t4 with
     |cons a5 t5=>cases t5 with
      |nil=>
       have e1:=ju _ a1;have e2:=iN _ a2;obtain⟨j,e3⟩:=a3.int;obtain⟨on,e4⟩:=a4.int;have e5:=a5.ah;subst e1;subst e2;subst e3;subst e4;subst e5;refine⟨RW,j,on,h1,h2,Jf ZB,hR,λhX=>?_,hs⟩;have:=h5 hX;simp only[List.cons.injEq,C.int.injEq,true_and]at this;exact⟨this.1,this.2.1⟩
theorem CA (t:TT q os zb n wl cy ids F nx cs X H)(c:NC q os zb R n ids)(hx:x<n)(eP:x<os.length)(ho:os[x]=o) :
  ∃RW j on,H zb=.vec 5 RW/\RW.length=n/\RW.take n=RW/\RW.getD x []=[o.pc,o.ic,Ui j,Ui on,.ah o.nx.y 1 0 o.nx.ns.length]/\(X zb x->j=o.jump/\on=o.on)/\SimO (X zb) (.vec 5 (os.map OBlk.row)) (.vec 5 RW):=Kw (t.get LGo.zbm) c hx eP ho
theorem Fz {m:Nat}{ns:List Int}(hs:SimO (X m) (.vec 1 (Qb ns)) (H m)):∃ns':List Int,H m=.vec 1 (Qb ns')/\ns'.length=ns.length/\(∀r,r<ns.length->X m r->ns'.getD r 0=ns.getD r 0)/\SimO (X m) (.vec 1 (Qb ns)) (.vec 1 (Qb ns')):=by
 obtain⟨rows',h1,h2,h3⟩:=hs.get;rw[Qc]at h2 h3;have hg:∀r,r<ns.length->∃v:Int,rows'.getD r []=[Ui v]/\(X m r->v=ns.getD r 0):=λr hr=>by
  obtain⟨h4,h5⟩:=h3 r hr;rw[Qk _ _ hr]at h4 h5;generalize hR:rows'.getD r []=row at h4 h5
  cases h4 with
  |cons a1 t1=>cases t1 with
   |nil=>
    obtain⟨v,e⟩:=a1.int;subst e;refine⟨v,rfl,λhX=>?_⟩;have:=h5 hX;simpa using this
 obtain⟨f,hf⟩:∃f:Nat->Int,∀r,r<ns.length->rows'.getD r []=[Ui (f r)]/\(X m r->f r=ns.getD r 0):=by
  classical
  exact⟨λr=>if h:r<ns.length then (hg r h).choose else 0,λr hr=>by simp only[hr,dite_true];exact (hg r hr).choose_spec⟩
 have bI:rows'=Qb ((List.range ns.length).map f):=by
  refine Jaf (by simp[Qb,h2]) λi h4 h5=>?_;have hi:i<ns.length:=ZB
  have:=(hf i hi).1;rw[Jb,Jg h4]at this;simp only[Js]at this;rw[this];simp[Qb]
 subst bI;rw[h1]at hs;refine⟨_,h1,ZD,λr hr hX=>?_,hs⟩;rw[Jb];simp only[Jt,List.getElem?_range hr,Jx,Js];exact (hf r hr).2 hX
theorem Ms (t:TT q os zb n wl cy ids F nx cs X H){m:Nat}{ns ns':List Int}(hm:(m,Obj.vec 1 (Qb ns))∈LGo os zb)(hs:SimO (X m) (.vec 1 (Qb ns)) (.vec 1 (Qb ns'))){r:Nat}(hr:r<ns.length)(v:Int)
  (h:H'=H.set m (.vec 1 (Qb (ns'.set r v)))) (hX:∀m' r',¬(m'=m/\r'=r)->X' m' r'->X m' r') (hn:¬X' m r):TT q os zb n wl cy ids F nx cs X' H':=by
 refine Ty.st t hm h ?_ λm' eT r'=>hX m' r' λe=>eT e.1;rw[<-Fh];refine hs.set (by rw[Qc];exact hr) ?_ (λr' bf=>hX m r' λe=>bf e.2) hn;rw[Qk _ _ hr];exact .cons (.inr ⟨_,_,rfl,rfl⟩) .nil
theorem DV (t:TT q os zb n wl cy ids F nx cs X H)(c:NC q os zb R n ids)(eP:x<os.length)(ho:os[x]=o):aZ H o.pc=True/\ay o.pc=o.ab.length/\o.pc.ai=false/\o.ic.ai=false:=by
 subst ho;have ax:=c.bo _ (Jd eP);refine⟨?_,by rw[ax.p.ay,Je],ax.p.ai,ax.i.ai⟩;rcases ax.p with ⟨e,_⟩|⟨z,e,e2⟩
 ·rw[e];rfl
 ·have hm:(z,Obj.vec 2 (os[x].ab.map OPhi.row))∈LGo os zb:=LGo.of eP (OBlk.phM (Ja _ (by rw[e2];simp)));obtain⟨rows',h1,h2,_⟩:=(t.get hm).get;rw[e];simp only[aZ,h1,h2,Jj,Ji,and_self]
theorem OBlk.phZ (ax:o.ok){k:Nat}(hk:k<o.ab.length):∃z,o.pc=.ah z 2 0 o.ab.length/\o.pl=[(z,.vec 2 (o.ab.map OPhi.row))]:=by
 rcases ax.p with ⟨_,h,_⟩|⟨y,h1,h2⟩
 ·have:=congrArg List.length h;simp only[Je,Jl]at this;omega
 ·exact⟨y,by rw[h1,Je],h2⟩
theorem OBlk.inZ (ax:o.ok){k:Nat}(hk:k<o.ins.length):∃z,o.ic=.ah z 4 0 o.ins.length/\o.il=[(z,.vec 4 (o.ins.map OIns.row))]:=by
 rcases ax.i with ⟨_,h,_⟩|⟨y,h1,h2⟩
 ·have:=congrArg List.length h;simp only[Je,Jl]at this;omega
 ·exact⟨y,by rw[h1,Je],h2⟩
theorem rdPh (t:TT q os zb n wl cy ids F nx cs X H)(c:NC q os zb R n ids)(eP:x<os.length)(ho:os[x]=o){z k:Nat}(hz:o.pl=[(z,.vec 2 (o.ab.map OPhi.row))])(hk:k<o.ab.length) :
  ∃PR to ya,H z=.vec 2 PR/\PR.length=o.ab.length/\PR.take o.ab.length=PR/\PR.getD k []=[Ui to,.ah ya 1 0 o.ab[k].ns.length]/\(ya,Obj.vec 1 (Qb o.ab[k].ns))∈o.phN/\o.ab[k].ac=.ah ya 1 0 o.ab[k].ns.length/\SimO (X z) (.vec 2 (o.ab.map OPhi.row)) (.vec 2 PR):=by
 subst ho;have hm:(z,Obj.vec 2 (os[x].ab.map OPhi.row))∈LGo os zb:=LGo.of eP (OBlk.phM (Ja _ Zbg));have hs:=t.get hm;obtain⟨PR,h1,h2,h3⟩:=hs.get;rw[h1]at hs;rw[Je]at h2 h3;obtain⟨h4,_⟩:=h3 k hk;obtain⟨ya,e1,e2⟩:=c.ow _ (Jd eP) _ (Jd hk);have hg:(os[x].ab.map OPhi.row).getD k []=[Ui os[x].ab[k].to,.ah ya 1 0 os[x].ab[k].ns.length]:=by
  simp only[Jb,Jt,Jg hk,Jx,Js,OPhi.row,e1]
 rw[hg]at h4;generalize hR:PR.getD k []=row at h4
 cases h4 with
 |cons a1 t1=>cases t1 with
  |cons a2 t2=>cases t2 with
   |nil=>
    obtain⟨v,e⟩:=a1.int;have e3:=a2.ah;subst e;subst e3;refine⟨PR,v,ya,h1,h2,Jf ZB,hR,?_,e1,hs⟩;exact Jh _ (Jm.2 ⟨_,Jd hk,by rw[e2];simp⟩)
theorem rdIn (t:TT q os zb n wl cy ids F nx cs X H)(eP:x<os.length)(ho:os[x]=o){z k:Nat}(hz:o.il=[(z,.vec 4 (o.ins.map OIns.row))])(hk:k<o.ins.length)(hX:X z k) :
  ∃IR,H z=.vec 4 IR/\IR.length=o.ins.length/\IR.take o.ins.length=IR/\IR.getD k []=[Ui o.ins[k].op,Ui o.ins[k].to,.ah o.ins[k].a.y 1 0 o.ins[k].a.ns.length,Ui o.ins[k].n]/\SimO (X z) (.vec 4 (o.ins.map OIns.row)) (.vec 4 IR):=by
 subst ho;have hm:(z,Obj.vec 4 (os[x].ins.map OIns.row))∈LGo os zb:=LGo.of eP (OBlk.inM (Ja _ Zbg));have hs:=t.get hm;obtain⟨IR,h1,h2,h3⟩:=hs.get;rw[h1]at hs;rw[Je]at h2 h3;have h4:=(h3 k hk).2 hX;refine⟨IR,h1,h2,Jf ZB,?_,hs⟩;rw[h4];simp only[Jb,Jt,Jg hk,Jx,Js];rfl
theorem Qb6t (t:TT q os zb n wl cy ids F nx cs X H)(c:NC q os zb R n ids)(eP:x<os.length)(ho:os[x]=o):aZ H o.ic=True/\ay o.ic=o.ins.length:=by
 subst ho;have ax:=c.bo _ (Jd eP);refine⟨?_,by rw[ax.i.ay,Je]⟩;rcases ax.i with ⟨e,_⟩|⟨z,e,e2⟩
 ·rw[e];rfl
 ·have hm:(z,Obj.vec 4 (os[x].ins.map OIns.row))∈LGo os zb:=LGo.of eP (OBlk.inM (Ja _ (by rw[e2];simp)));obtain⟨rows',h1,h2,_⟩:=(t.get hm).get;rw[e];simp only[aZ,h1,h2,Jj,Ji,and_self]
theorem NC.get (c:NC q os zb R n ids)(hb:b<n):∃hl:b<os.length,∃hq:b<q.blocks.length,os[b].d=q.blocks[b]/\os[b].ok/\q.blocks[b].ok q b/\os[b].ab.length<=1200/\os[b].ins.length<=1200:=by
 have hl:b<os.length:=by rw[c.l];exact hb
 have hq:b<q.blocks.length:=by rw[c.hn];exact hb
 have hd:=c.d b hl hq;have cM:=c.ok.il b hq;rw[<-hd]at cM;simp only[OBlk.d,Je]at cM;exact⟨hl,hq,hd,c.bo _ (Jd hl),c.ok.bs b hq,cM.2,cM.1⟩
end Go.AE.Y
namespace Go.AE.Y
attribute [local go_sem] cond_true cond_false Bool.not_true Bool.not_false
open Go.Proofs.Tryz
variable {H H' F:Heap}{K:Uk}{q:CodeD}{os:List OBlk}{zb wl cy R n b:Nat}{ids:List Int}{U:Nat->Prop}{Z Z':Nat->Nat->Prop}{nx:Int}{cs:List Int}{o:OBlk}{y:BlkD}{e:Env}{Q:X->Env->Heap->Prop}
theorem Lj (hw:H wl=wO q ids zb n nx)(h1:0<=nx)(h2:nx<=2 ^ 40)(hK:∀H',H'=H.set wl (wO q ids zb n (nx+1))->K (Uv nx) H'):Qr prog Qkb [Up wl] H K:=by
 refine Qd BF Qabn ?_;rw[wO]at hw;refine Za ?_;refine Zj hw ?_;refine⟨Qs,λH' h'=>?_⟩;have lN:H' wl=wO q ids zb n (nx+1):=by rw[h',Heap.aF];rfl
 have hK:=hK H' h';rw[wO]at lN;refine Zj lN ?_;try refine⟨Qs,?_⟩
 refine Zk ?_
 first|exact hK|(have e:nx+1-1=nx:=ZB;rw[e];exact hK)
def LK (wl b cy R n zb:Nat)(e:Env):Prop:=lk 0 e=.c (.ptr wl 0)/\lk 1 e=.c (.int .i64 b)/\lk 2 e=.c (.ah cy 1 0 R)/\lk 6 e=.c (.ep (.ah zb 5 0 n) 5 b 0)
structure NSt (q:CodeD)(os:List OBlk)(zb n R wl cy:Nat)(ids:List Int)(F:Heap)(nx:Int)(cs:List Int)(Z:Nat->Nat->Prop)(H:Heap):Prop where
 t:TT q os zb n wl cy ids F nx cs Z H
 c:cs.length=R
theorem NSt.w (s:NSt q os zb n R wl cy ids F nx cs Z H):H wl=wO q ids zb n nx:=s.t.e 0 rfl
theorem NSt.cu (s:NSt q os zb n R wl cy ids F nx cs Z H):H cy=.vec 1 (Qb cs):=s.t.e 1 rfl
theorem NSt.ct (s:NSt q os zb n R wl cy ids F nx cs Z H):(Qb cs).take R=Qb cs:=Jf (by rw[Qc];exact Nat.le_of_eq s.c)
theorem NSt.cl (s:NSt q os zb n R wl cy ids F nx cs Z H):(Qb cs).length=R:=by rw[Qc];exact s.c
theorem NSt.setW (s:NSt q os zb n R wl cy ids F nx cs Z H){nx':Int}(h:H'=H.set wl (wO q ids zb n nx')):NSt q os zb n R wl cy ids F nx' cs Z H':=⟨s.t.stE 0 rfl h (by simp[wO]),s.c⟩
theorem NSt.setC (s:NSt q os zb n R wl cy ids F nx cs Z H){i:Nat}{v:Int}(h:H'=H.set cy (.vec 1 (Qb (cs.set i v)))):NSt q os zb n R wl cy ids F nx (cs.set i v) Z H':=⟨s.t.stE 1 rfl h,by rw[J1];exact s.c⟩
theorem NSt.weak (s:NSt q os zb n R wl cy ids F nx cs Z H)(hX:∀m r,Z' m r->Z m r):NSt q os zb n R wl cy ids F nx cs Z' H:=⟨s.t.weak hX,s.c⟩
theorem phA (c:NC q os zb R n ids)(hb:b<n)(hl:b<os.length)(ho:os[b]=o)(hX:∀p∈o.phN,∀r,¬Z p.1 r)(s:NSt q os zb n R wl cy ids F nx cs Z H)(hk:LK wl b cy R n zb e)(h0:0<=nx)(h1:nx+o.ab.length<=2 ^ 40)(hN:o.ab.length<=100000)
  (h:∀e' H',NSt q os zb n R wl cy ids F (nx+o.ab.length) cs Z H'->LK wl b cy R n zb e'->BI prog V8 Q e' H'):BI prog Qh4 Q e H:=by
 obtain⟨l0,l1,l2,l6⟩:=hk;have ax:=c.bo _ (Jd hl);rw[ho]at ax;refine Q1 (Qa ?_);simp only[go_sem,l0,l1,l2,l6];refine Qh (Qe (Qw (λm e1 H1=>∃i:Nat,m=o.ab.length-i/\i<=o.ab.length/\NSt q os zb n R wl cy ids F (nx+i) cs Z H1/\lk 0 e1=Up wl/\lk 1 e1=Uv b/\lk 2 e1=.c (.ah cy 1 0 R)/\lk 6 e1=.c (.ep (.ah zb 5 0 n) 5 b 0)/\lk 7 e1=Uv i) o.ab.length ?_ ?_))
 ·exact⟨0,ZB,ZB,by simpa using s,rfl,rfl,rfl,rfl,rfl⟩
 ·clear s l0 l1 l2 l6;rintro m e1 H1 ⟨i,hm,hi,s,l0,l1,l2,l6,l7⟩;obtain⟨RW,j,on,ca,bn,bz,bj,_,_⟩:=CA s.t c hb hl ho;obtain⟨iV,fv,fq,ot⟩:=DV s.t c hl ho;refine Q1 (Qa ?_);simp only[go_sem,l0,l1,l2,l6,l7,ca,bn,bz,bj,hb,iV,fv,fq,Jj,Ji];try intro _
  refine Wu ?_ ?_
  ·intro hc;have af:i<o.ab.length:=ZE
   obtain⟨z,ju,da⟩:=OBlk.phZ ax af;rw[ju]at bj;refine Zc ?_
   refine Wp ?_;simp only[go_sem,ca,bn,bz,bj,hb,Jj,Ji];refine Lj s.w ZB ZB λH2 h2=>?_;have s:=s.setW h2;obtain⟨RW,j,on,ca,bn,bz,bj,_,_⟩:=CA s.t c hb hl ho;rw[ju]at bj;obtain⟨PR,to,ya,hz,ve,vW,sD,gV,zL,iu⟩:=rdPh s.t c hl ho da af;simp only[go_sem,Qh5,ca,bn,bz,bj,hb,hz,ve,sD,af,Jj,Ji];intro H3 h3;have oH:(z,Obj.vec 2 (o.ab.map OPhi.row))∈o.phN:=Ja _ (by rw[da];simp);have s:NSt q os zb n R wl cy ids F (nx+i+1) cs Z H3:=⟨Ty.st s.t (LGo.of hl (by rw[ho];exact OBlk.phM oH)) h3 (iu.set (by rw[Je];exact af) (by
    have hg:(o.ab.map OPhi.row).getD i []=[Ui o.ab[i].to,.ah ya 1 0 o.ab[i].ns.length]:=by
     simp only[Jb,Jt,Jg af,Jx,Js,OPhi.row,zL]
    rw[hg];exact .cons (.inr ⟨_,_,rfl,rfl⟩) (.cons (.inl rfl) .nil)) (λr' _ h=>h) (hX _ oH _)) (λm' _ r h=>h),s.c⟩
   refine Zh ?_;refine⟨Qs,?_⟩;show ∃m,_;exact⟨o.ab.length-(i+1),ZB,i+1,rfl,ZB,by have e:nx+((i+1:Nat):Int)=nx+i+1:=ZB;rw[e];exact s,rfl,rfl,rfl,rfl,rfl⟩
  ·intro hc;have jx:i=o.ab.length:=by have:o.ab.length<=i:=ZE;omega
   subst jx;refine Zb ?_;exact h _ _ s ⟨rfl,rfl,rfl,rfl⟩
theorem phB (c:NC q os zb R n ids)(hb:b<n)(hl:b<os.length)(ho:os[b]=o)(hy:o.d=y)(hq:b<q.blocks.length)(nz:q.blocks[b]=y)(s:NSt q os zb n R wl cy ids F nx cs Z H)(hk:LK wl b cy R n zb e)(hN:o.ab.length<=100000)
  (h:∀e' H' cs',NSt q os zb n R wl cy ids F nx cs' Z H'->LK wl b cy R n zb e'->BI prog V9 Q e' H'):BI prog V8 Q e H:=by
 obtain⟨l0,l1,l2,l6⟩:=hk;have ax:=c.bo _ (Jd hl);rw[ho]at ax;have cz:=c.ok.bs b hq;rw[nz]at cz;have kS:y.ab.length=o.ab.length:=by rw[<-hy];simp[OBlk.d]
 refine Q1 (Qa ?_);simp only[go_sem,l0,l1,l2,l6];refine Qh (Qe (Qw (λm e1 H1=>∃(i:Nat) (cs:List Int),m=o.ab.length-i/\i<=o.ab.length/\NSt q os zb n R wl cy ids F nx cs Z H1/\lk 0 e1=Up wl/\lk 1 e1=Uv b/\lk 2 e1=.c (.ah cy 1 0 R)/\lk 6 e1=.c (.ep (.ah zb 5 0 n) 5 b 0)/\lk 8 e1=Uv i) o.ab.length ?_ ?_))
 ·exact⟨0,cs,ZB,ZB,s,rfl,rfl,rfl,rfl,rfl⟩
 ·clear s l0 l1 l2 l6;rintro m e1 H1 ⟨i,cs,hm,hi,s,l0,l1,l2,l6,l8⟩;obtain⟨RW,j,on,ca,bn,bz,bj,_,_⟩:=CA s.t c hb hl ho;obtain⟨iV,fv,fq,ot⟩:=DV s.t c hl ho;refine Q1 (Qa ?_);simp only[go_sem,l0,l1,l2,l6,l8,ca,bn,bz,bj,hb,iV,fv,fq,Jj,Ji];try intro _
  refine Wu ?_ ?_
  ·intro hc;have af:i<o.ab.length:=ZE
   have aT:i<y.ab.length:=ZB
   obtain⟨z,ju,da⟩:=OBlk.phZ ax af;rw[ju]at bj;obtain⟨PR,to,ya,hz,ve,vW,sD,gV,zL,iu⟩:=rdPh s.t c hl ho da af;have hw:=s.w;rw[wO]at hw;have kK:=s.cu;have pB:=s.ct;have cG:=s.cl;obtain⟨hv,bN⟩:=(cz.pto _ (Jd aT)).nat;rw[c.hR]at bN;refine Zc ?_
   refine Wp ?_;generalize hr:y.ab[i].to.toNat=r at *;have du:r<cs.length:=ZaO
   simp only[go_sem,hw,ca,bn,bz,bj,hb,hz,ve,vW,sD,af,hq,Qn,Cy _ _ hq,BlkD.cells,nz,Q0,aT,Dh _ _ aT,PhiD.cells,hv,bN,kK,cG,Qk _ _ du,Fh,Jj,Ji];intro H2 h2;have s:=s.setC h2;refine Zh ?_;refine⟨Qs,?_⟩;show ∃m,_;exact⟨o.ab.length-(i+1),ZB,i+1,_,rfl,ZB,s,rfl,rfl,rfl,rfl,rfl⟩
  ·intro hc;refine Zb ?_;exact h _ _ _ s ⟨rfl,rfl,rfl,rfl⟩
def XC (os:List OBlk)(zb:Nat)(U:Nat->Prop)(o:OBlk)(b:Nat)(j:Bool)(i k m r:Nat):Prop:=XU os zb U m r\/XP o zb b j i k m r
theorem XC.stepA {i k m r:Nat}(h:XC os zb U o b true i (k+1) m r):XC os zb U o b true i k m r:=by
 rcases h with h|h|h|⟨i',bR,h1,h2⟩
 ·exact .inl h
 ·exact .inr (.inl h)
 ·exact .inr (.inr (.inl h))
 ·exact .inr (.inr (.inr ⟨i',bR,h1,ZB⟩))
theorem XC.stepI {i k m r:Nat}(h:XC os zb U o b true (i+1) 0 m r):XC os zb U o b true i k m r:=by
 rcases h with h|h|⟨p,hp,h1,h2⟩|⟨i',bR,h1,h2⟩
 ·exact .inl h
 ·exact .inr (.inl h)
 ·exact .inr (.inr (.inl ⟨p,hp,h1,ZB⟩))
 ·exact .inr (.inr (.inr ⟨i',bR,h1,ZB⟩))
theorem XC.notA (ap:Apart os zb)(hl:b<os.length)(ho:os[b]=o)(hU:¬U b){i k:Nat}(hi:i<o.ins.length):¬XC os zb U o b true i (k+1) o.ins[i].a.y k:=by
 subst ho;have hm:(os[b].ins[i].a.y,Obj.vec 1 (Qb os[b].ins[i].a.ns))∈os[b].inN:=Jh _ (os[b].aM hi);rintro (h|⟨_,h,_⟩|⟨p,hp,h1,h2⟩|⟨i',bR,h1,h2⟩)
 ·exact ap.inU hl hm hU _ h
 ·exact ap.zbn hl (OBlk.inM hm) h
 ·exact (ap.blk hl).ii _ (os[b].aM hi) p hp h1
 ·by_cases uu:i=i'
  ·subst uu;omega
  ·exact (ap.blk hl).ij i i' hi bR uu h1
theorem XC.notI (ap:Apart os zb)(hl:b<os.length)(ho:os[b]=o)(hU:¬U b){i z:Nat}{ob:Obj}(hz:(z,ob)∈o.il):¬XC os zb U o b true (i+1) 0 z i:=by
 subst ho;have hm:(z,ob)∈os[b].inN:=Ja _ hz;rintro (h|⟨_,h,_⟩|⟨p,hp,h1,h2⟩|⟨i',bR,h1,h2⟩)
 ·exact ap.inU hl hm hU _ h
 ·exact ap.zbn hl (OBlk.inM hm) h
 ·omega
 ·exact (ap.blk hl).ii _ (os[b].aM bR) (z,ob) hz h1.symm
theorem phC (c:NC q os zb R n ids)(hb:b<n)(hl:b<os.length)(ho:os[b]=o)(hy:o.d=y)(hq:b<q.blocks.length)(nz:q.blocks[b]=y)(hU:¬U b)(s:NSt q os zb n R wl cy ids F nx cs (XC os zb U o b true 0 0) H)(hk:LK wl b cy R n zb e)
  (h0:0<=nx) (h1:nx+o.ins.length<=2 ^ 40) (hN:o.ins.length<=100000)
  (h:∀e' H' nx' cs',nx<=nx'->nx'<=nx+o.ins.length->NSt q os zb n R wl cy ids F nx' cs' (XC os zb U o b true o.ins.length 0) H'->LK wl b cy R n zb e'->BI prog VA Q e' H'):BI prog V9 Q e H:=by
 obtain⟨l0,l1,l2,l6⟩:=hk;have ax:=c.bo _ (Jd hl);rw[ho]at ax;have cz:=c.ok.bs b hq;rw[nz]at cz;have ap:Apart os zb:=s.t.nodup;refine Q1 (Qa ?_);simp only[go_sem,l0,l1,l2,l6];refine Qh (Qe (Qw (λm e1 H1=>∃(i:Nat) (nx':Int) (cs:List Int),m=o.ins.length-i/\i<=o.ins.length/\nx<=nx'/\nx'<=nx+i/\NSt q os zb n R wl cy ids F nx' cs (XC os zb U o b true i 0) H1/\lk 0 e1=Up wl/\lk 1 e1=Uv b/\lk 2 e1=.c (.ah cy 1 0 R)/\lk 6 e1=.c (.ep (.ah zb 5 0 n) 5 b 0)/\lk 9 e1=Uv i) o.ins.length ?_ ?_))
 ·exact⟨0,nx,cs,ZB,ZB,ZB,ZB,s,rfl,rfl,rfl,rfl,rfl⟩
 ·clear s l0 l1 l2 l6;rintro m e1 H1 ⟨i,nx',cs,hm,hi,fj,xV,s,l0,l1,l2,l6,l9⟩;obtain⟨RW,j,on,ca,bn,bz,bj,_,_⟩:=CA s.t c hb hl ho;obtain⟨_,_,fq,ot⟩:=DV s.t c hl ho;obtain⟨kD,hD⟩:=Qb6t s.t c hl ho;refine Q1 (Qa ?_);simp only[go_sem,l0,l1,l2,l6,l9,ca,bn,bz,bj,hb,kD,hD,ot,Jj,Ji];try intro _
  refine Wu ?_ ?_
  ·intro hc;have af:i<o.ins.length:=ZE
   clear ca bn bz bj kD hD;obtain⟨z,iN,cM⟩:=OBlk.inZ ax af;have oH:(z,Obj.vec 4 (o.ins.map OIns.row))∈o.il:=by rw[cM];simp
   obtain⟨x,hx⟩:∃x,o.ins[i]=x:=⟨_,rfl⟩;have jQ:x.d∈y.ins:=by rw[<-hy,<-hx];exact Jo.2 ⟨_,Jd af,rfl⟩
   have hal3:x.a.ns.length<=3:=cz.al _ jQ;have zM:∀k,XC os zb U o b true i k z i:=λk=>.inr (.inr (.inl ⟨_,oH,rfl,Ji _⟩));refine Zc ?_
   refine Ck (λe2 H2=>∃(nx2:Int) (cs:List Int),nx'<=nx2/\nx2<=nx'+1/\NSt q os zb n R wl cy ids F nx2 cs (XC os zb U o b true (i+1) 0) H2/\lk 0 e2=Up wl/\lk 1 e2=Uv b/\lk 2 e2=.c (.ah cy 1 0 R)/\lk 6 e2=.c (.ep (.ah zb 5 0 n) 5 b 0)/\lk 9 e2=Uv i) ?_ ?_
   ·intro Q2 bB _ _;refine Qe (Q1 ?_);refine Za ?_;refine Qh (Qe (Qw (λm e1 H1=>∃(k:Nat),m=x.a.ns.length-k/\k<=x.a.ns.length/\NSt q os zb n R wl cy ids F nx' cs (XC os zb U o b true i k) H1/\lk 0 e1=Up wl/\lk 1 e1=Uv b/\lk 2 e1=.c (.ah cy 1 0 R)/\lk 6 e1=.c (.ep (.ah zb 5 0 n) 5 b 0)/\lk 9 e1=Uv i/\lk 10 e1=Uv k) x.a.ns.length ?_ ?_))
    ·exact⟨0,ZB,ZB,s,rfl,rfl,rfl,rfl,rfl,rfl⟩
    ·clear s l0 l1 l2 l6 l9;rintro m2 e3 H3 ⟨k,fw,fy,s,l0,l1,l2,l6,l9,l10⟩;obtain⟨RW,j,on,ca,bn,bz,bj,_,_⟩:=CA s.t c hb hl ho;rw[iN]at bj;obtain⟨IR,hz,rM,sF,nw,_⟩:=rdIn s.t hl ho cM af (zM k);have hsa:SimO (XC os zb U o b true i k o.ins[i].a.y) (.vec 1 (Qb o.ins[i].a.ns)) (H3 o.ins[i].a.y):=s.t.get (LGo.of hl ZaI);obtain⟨ns',oA,ck,jZ,iu⟩:=Fz hsa;have tS:=λk=>XC.notA (k:=k) ap hl ho hU af;have ce:(o.ins[i].a.y,Obj.vec 1 (Qb o.ins[i].a.ns))∈LGo os zb:=LGo.of hl ZaI;rw[hx]at nw oA ck jZ iu tS ce;refine Q1 (Qa ?_);simp only[go_sem,l0,l1,l2,l6,l9,l10,ca,bn,bz,bj,hb,hz,rM,sF,nw,af,oA,Qc,ck,Jj,Ji];try intro _
     refine Wu ?_ ?_
     ·intro aD;have aT:k<x.a.ns.length:=ZH;have cf:k<ns'.length:=ZB;have hXk:XC os zb U o b true i k x.a.y k:=.inr (.inr (.inr ⟨i,af,by rw[hx],.inr ⟨rfl,Ji _⟩⟩));have oM:=jZ k aT hXk;have oK:x.a.ns.getD k 0∈x.d.args:=Ir aT;obtain⟨hv,bN⟩:=(cz.args _ jQ _ oK).nat;rw[c.hR]at bN;rw[<-oM]at hv bN;have br:(Qb ns').take x.a.ns.length=Qb ns':=Jf ZS;have kK:=s.cu;have pB:=s.ct;have cG:=s.cl;refine Zc ?_
      refine Wp ?_;generalize hr:(ns'.getD k 0).toNat=r at *;have du:r<cs.length:=ZaO;simp only[go_sem,ca,bn,bz,bj,hb,hz,rM,sF,nw,af,oA,br,Qc,ck,aT,Qk _ _ cf,hv,bN,kK,pB,s.c,Qk _ _ du,Fh,Jj,Ji];intro H4 h4;have s:NSt q os zb n R wl cy ids F nx' cs (XC os zb U o b true i (k+1)) H4:=⟨Ms s.t ce iu aT _ h4 (λm' r' _ hh=>hh.stepA) (tS k),s.c⟩;refine Zh ?_;refine⟨Qs,?_⟩;show ∃m,_;exact⟨x.a.ns.length-(k+1),ZB,k+1,rfl,ZB,s,rfl,rfl,rfl,rfl,rfl,rfl⟩
     ·intro aD;refine Zb ?_;refine Qa ?_;simp only[go_sem,ca,bn,bz,bj,hb,hz,rM,sF,nw,af,Jj,Ji];refine IH ?_;try simp only[go_sem]
      refine Wv ?_ ?_
      ·intro bA;obtain⟨hv,bN⟩:=(cz.to _ jQ bA).nat;rw[c.hR]at bN;have wo:x.d.to=x.to:=rfl;rw[wo]at hv bN;refine Za ?_;refine Lj s.w ZB ZB λH4 h4=>?_;have s:=s.setW h4;obtain⟨RW,j,on,ca,bn,bz,bj,_,_⟩:=CA s.t c hb hl ho;rw[iN]at bj;obtain⟨IR,hz,rM,sF,nw,_⟩:=rdIn s.t hl ho cM af (zM k);rw[hx]at nw;have kK:=s.cu;have pB:=s.ct;have cG:=s.cl;simp only[go_sem,Qge];generalize hr:x.to.toNat=r at *;have du:r<cs.length:=ZaO;refine Qa ?_;simp only[go_sem,ca,bn,bz,bj,hb,hz,rM,sF,nw,af,hv,bN,kK,Qc,s.c,Qk _ _ du,Fh,Jj,Ji];intro H5 h5;have s:=s.setC h5;obtain⟨RW,j,on,ca,bn,bz,bj,_,_⟩:=CA s.t c hb hl ho;rw[iN]at bj;obtain⟨IR,hz,rM,sF,nw,tw⟩:=rdIn s.t hl ho cM af (zM k);rw[hx]at nw;refine Qp ?_;simp only[go_sem,ca,bn,bz,bj,hb,hz,rM,nw,af,Jj,Ji];intro H6 h6;have s:NSt q os zb n R wl cy ids F (nx'+1) (cs.set r nx') (XC os zb U o b true (i+1) 0) H6:=⟨Ty.st s.t (LGo.of hl (by rw[ho];exact OBlk.inM (Ja _ oH))) h6 (tw.set (by rw[Je];exact af) (by
        have hg:(o.ins.map OIns.row).getD i []=[Ui x.op,Ui x.to,.ah x.a.y 1 0 x.a.ns.length,Ui x.n]:=by
         simp only[Jb,Jt,Jg af,Jx,Js,hx];rfl
        rw[hg];exact .cons (.inl rfl) (.cons (.inr ⟨_,_,rfl,rfl⟩) (.cons (.inl rfl) (.cons (.inl rfl) .nil)))) (λr' _ hh=>hh.stepI) (XC.notI ap hl ho hU oH)) (λm' _ r' hh=>hh.stepI),s.c⟩
       exact bB _ _ ⟨nx'+1,_,ZB,ZB,s,rfl,rfl,rfl,rfl,rfl⟩
      ·intro bA;refine Zc ?_
       exact bB _ _ ⟨nx',cs,ZB,ZB,s.weak λm r hh=>hh.stepI,rfl,rfl,rfl,rfl,rfl⟩
   ·rintro e2 H2 ⟨nx2,cs,cO,jw,s,l0,l1,l2,l6,l9⟩;refine Qp ?_;simp only[go_sem,l0,l1,l2,l6,l9];refine⟨Qs,?_⟩;show ∃m,_;exact⟨o.ins.length-(i+1),ZB,i+1,nx2,cs,rfl,ZB,ZB,ZB,s,rfl,rfl,rfl,rfl,rfl⟩
  ·intro hc;have jx:i=o.ins.length:=by have:o.ins.length<=i:=ZE;omega
   subst jx;refine Zb ?_;exact h _ _ _ _ fj xV s ⟨rfl,rfl,rfl,rfl⟩
theorem phD (c:NC q os zb R n ids)(hb:b<n)(hl:b<os.length)(ho:os[b]=o)(hy:o.d=y)(hq:b<q.blocks.length)(nz:q.blocks[b]=y)(hU:¬U b){i0:Nat}(s:NSt q os zb n R wl cy ids F nx cs (XC os zb U o b true i0 0) H)(hk:LK wl b cy R n zb e)
  (h:∀e' H',NSt q os zb n R wl cy ids F nx cs (XU os zb U) H'->LK wl b cy R n zb e'->BI prog VD Q e' H'):BI prog VA Q e H:=by
 obtain⟨l0,l1,l2,l6⟩:=hk;have cz:=c.ok.bs b hq;rw[nz]at cz;have ap:Apart os zb:=s.t.nodup;obtain⟨RW,j,on,ca,bn,bz,bj,jZ,iu⟩:=CA s.t c hb hl ho;obtain⟨_,_,fq,ot⟩:=DV s.t c hl ho;obtain⟨rfl,rfl⟩:=jZ (.inr (.inl ⟨rfl,rfl,rfl⟩));have Ar:y.jump=o.jump/\y.on=o.on:=by rw[<-hy];exact⟨rfl,rfl⟩
 refine Q1 (Qa ?_);simp only[go_sem,l0,l1,l2,l6,ca,bn,bz,bj,hb,Jj,Ji];refine Ck (λe2 H2=>NSt q os zb n R wl cy ids F nx cs (XU os zb U) H2/\LK wl b cy R n zb e2) ?_ ?_
 ·intro Q2 bB _ _;refine Wv ?_ ?_
  ·intro hc;have hj:¬y.jump=1:=by rw[Ar.1];simpa using hc
   obtain⟨hv,bN⟩:=(cz.on hj).nat;rw[c.hR]at bN;rw[Ar.2]at hv bN;have kK:=s.cu;have pB:=s.ct;generalize hr:o.on.toNat=r at *;have du:r<cs.length:=ZaO
   refine Qp ?_;simp only[go_sem,ca,bn,bz,bj,hb,hv,bN,kK,pB,Qc,s.c,Qk _ _ du,Jj,Ji];intro H2 h2;have bd:=λr'=>ap.zbP hl i0 0 r';have hX:∀m' r',XU os zb U m' r'->XC os zb U o b true i0 0 m' r':=λm' r' hh=>.inl hh;refine bB _ _ ⟨⟨Ty.st s.t LGo.zbm h2 (iu.set (by rw[Je];exact hl) (by
    have hg:(os.map OBlk.row).getD b []=o.row:=by
     simp only[Jb,Jt,Jg hl,Jx,Js,ho]
    rw[hg,OBlk.row_eq];exact .cons (.inl rfl) (.cons (.inl rfl) (.cons (.inl rfl) (.cons (.inr ⟨_,_,rfl,rfl⟩) (.cons (.inl rfl) .nil))))) (λr' _ hh=>hX _ _ hh) (ap.zbU hU)) (λm' _ r' hh=>hX _ _ hh),s.c⟩,rfl,rfl,rfl,rfl⟩
  ·intro _;refine Zc ?_
   exact bB _ _ ⟨s.weak λm r hh=>.inl hh,rfl,rfl,rfl,rfl⟩
 ·rintro e2 H2 ⟨s,hk⟩;exact h _ _ s hk
theorem phE (c:NC q os zb R n ids)(hb:b<n)(hl:b<os.length)(ho:os[b]=o)(hy:o.d=y)(hq:b<q.blocks.length)(nz:q.blocks[b]=y)(s:NSt q os zb n R wl cy ids F nx cs (XU os zb U) H)(hk:LK wl b cy R n zb e)
  (h:∀e' H',NSt q os zb n R wl cy ids F nx cs (XU os zb U) H'->LK wl b cy R n zb e'->BI prog Qh3 Q e' H'):BI prog VD Q e H:=by
 obtain⟨l0,l1,l2,l6⟩:=hk;have cz:=c.ok.bs b hq;rw[nz]at cz;have ap:Apart os zb:=s.t.nodup;have nZ:o.nx.ns.length<=2:=by have:=cz.nxl;rw[<-hy]at this;exact this
 have sj:y.next=o.nx.ns:=by rw[<-hy];rfl
 refine Q1 (Qa ?_);simp only[go_sem,l0,l1,l2,l6];refine Qh (Qe (Qw (λm e1 H1=>∃(i:Nat),m=o.nx.ns.length-i/\i<=o.nx.ns.length/\NSt q os zb n R wl cy ids F nx cs (XU os zb U) H1/\lk 0 e1=Up wl/\lk 1 e1=Uv b/\lk 2 e1=.c (.ah cy 1 0 R)/\lk 6 e1=.c (.ep (.ah zb 5 0 n) 5 b 0)/\lk 12 e1=Uv i) o.nx.ns.length ?_ ?_))
 ·exact⟨0,ZB,ZB,s,rfl,rfl,rfl,rfl,rfl⟩
 ·clear s l0 l1 l2 l6;rintro m e1 H1 ⟨i,hm,hi,s,l0,l1,l2,l6,l12⟩;obtain⟨RW,j,on,ca,bn,bz,bj,_,_⟩:=CA s.t c hb hl ho;obtain⟨_,_,fq,ot⟩:=DV s.t c hl ho;have A5:SimO (XU os zb U o.nx.y) (.vec 1 (Qb o.nx.ns)) (H1 o.nx.y):=s.t.get (LGo.of hl (by rw[ho];exact o.nxM));obtain⟨ns',oA,ck,jZ,_⟩:=Fz A5;refine Q1 (Qa ?_);simp only[go_sem,l0,l1,l2,l6,l12,ca,bn,bz,bj,hb,oA,Qc,ck,Jj,Ji];try intro _
  refine Wu ?_ ?_
  ·intro hc;have af:i<o.nx.ns.length:=ZE
   have aT:i<ns'.length:=ZB
   have br:(Qb ns').take o.nx.ns.length=Qb ns':=Jf ZS;have oM:=jZ i af (.inl ⟨b,hl,by rw[ho]⟩);have oK:o.nx.ns.getD i 0∈y.next:=by rw[sj];exact Ir af
   have hvr:=cz.nx _ oK;obtain⟨v,hv⟩:∃v:Nat,o.nx.ns.getD i 0=(v:Int):=⟨(o.nx.ns.getD i 0).toNat,ZB⟩;rw[hv]at oM hvr;have td:v<q.blocks.length:=ZB
   have nF:v<n:=by rw[<-c.hn];exact td
   refine Zc ?_
   refine Wi ?_;simp only[go_sem,ca,bn,bz,bj,hb,oA,br,Qc,ck,af,Qk _ _ aT,oM,Jj,Ji];have hw:=s.w;rw[wO]at hw;refine Zj hw ?_;refine Gu (nx:=gnx q) (.mk' _ _ _ _) rfl (E5 H1 q false).x λH2 hu=>?_;have s:NSt q os zb n R wl cy ids F nx cs (XU os zb U) H2:=⟨s.t.aw hu,s.c⟩;rw[Qn];simp only[go_sem,Qgg];refine FF (ns:=Qz (gnx q) (v:Int) q.blocks.length) (.mk' _ _ _ _) rfl λr hr=>?_;have sA:(b:Int)∈Qz (gnx q) (v:Int) q.blocks.length:=by
    simp only[Qz,Jo,Jav,Jad];refine⟨b,⟨hq,Jap.2 ?_⟩,rfl⟩;rw[Ez hq,nz,<-hv];exact oK
   obtain⟨a,ra,em⟩:∃a:Nat,r=(a:Int)/\a<(Qz (gnx q) (v:Int) q.blocks.length).length:=by
    rcases hr with ⟨_,hn⟩|⟨a,h1,h2,_⟩
    ·exact absurd sA hn
    ·exact⟨a,h1,h2⟩
   subst ra;clear hr;simp only[go_sem,Qgf];obtain⟨bN,_,rW,te,qf,hvp,_⟩:=c.get nF;obtain⟨o',fN⟩:∃o',os[v]=o':=⟨_,rfl⟩;obtain⟨y',eX⟩:∃y',q.blocks[v]=y':=⟨_,rfl⟩;rw[fN,eX]at rW;rw[fN]at te hvp;rw[eX]at qf;have hyl':y'.ab.length=o'.ab.length:=by rw[<-rW];simp[OBlk.d]
   refine Za ?_;refine Qe (Qw (λm e1 H1=>∃(k:Nat),m=o'.ab.length-k/\k<=o'.ab.length/\NSt q os zb n R wl cy ids F nx cs (XU os zb U) H1/\lk 0 e1=Up wl/\lk 1 e1=Uv b/\lk 2 e1=.c (.ah cy 1 0 R)/\lk 6 e1=.c (.ep (.ah zb 5 0 n) 5 b 0)/\lk 12 e1=Uv i/\
    lk 13 e1=Uv v/\lk 14 e1=Uv a/\lk 15 e1=Uv k) o'.ab.length ?_ ?_)
   ·exact⟨0,ZB,ZB,s,rfl,rfl,rfl,rfl,rfl,rfl,rfl,rfl⟩
   ·clear s hw ca bn bz bj oA br ck jZ aT A5 l0 l1 l2 l6 l12;rintro m2 e2 H3 ⟨k,fw,fy,s,l0,l1,l2,l6,l12,l13,l14,l15⟩;have hw:=s.w;rw[wO]at hw;refine Q1 (Qa ?_);simp only[go_sem,l0,l1,l2,l6,l12,l13,l14,l15,hw,td,Qn,Cy _ _ td,BlkD.cells,eX,Q0];try intro _
    refine Wu ?_ ?_
    ·intro aD;have aT:k<y'.ab.length:=ZH;have cf:k<o'.ab.length:=ZB;obtain⟨z,ju,da⟩:=OBlk.phZ te cf;obtain⟨RW,j,on,ca,bn,bz,bj,_,_⟩:=CA s.t c nF bN fN;obtain⟨_,_,hpw',hiw'⟩:=DV s.t c bN fN;rw[ju]at bj;obtain⟨PR,to,ya,hz,ve,vW,sD,gV,zL,_⟩:=rdPh s.t c bN fN da cf;obtain⟨p,hp⟩:∃p,y'.ab[k]=p:=⟨_,rfl⟩;have eR:p∈y'.ab:=(by rw[<-hp];exact Jd aT);have xz:p.args=o'.ab[k].ns:=by
      have h1:(o'.ab.map OPhi.d)[k]? = some o'.ab[k].d:=(by simp[cf]);have h2:o'.ab.map OPhi.d=y'.ab:=(by rw[<-rW];rfl);rw[h2,Jg aT,hp]at h1;rw[Jab h1];rfl
     have nR:=qf.pal p eR;have kO:a<p.args.length:=ZB;have nY:o'.ab[k].ns.length=p.args.length:=(by rw[xz]);have sS:(ya,Obj.vec 1 (Qb o'.ab[k].ns))∈LGo os zb:=LGo.of bN (by rw[fN];exact OBlk.phM gV);obtain⟨ns',oA,ck,_,iu⟩:=Fz (s.t.get sS);rw[nY]at sD ck;have tR:∀r,¬XU os zb U ya r:=λr=>ap.ph bN (p:=(ya,Obj.vec 1 (Qb o'.ab[k].ns))) (by rw[fN];exact gV) r;have br:(Qb ns').take p.args.length=Qb ns':=Jf ZS;have han:a<ns'.length:=ZB;obtain⟨hu,oN⟩:=(qf.pargs p eR _ (Ir kO)).nat;rw[c.hR]at oN;have kK:=s.cu;have pB:=s.ct;generalize hr:(p.args.getD a 0).toNat=r at *;have du:r<cs.length:=(by rw[s.c];exact oN);refine Zc ?_
     refine Wp ?_;simp only[go_sem,hw,td,nF,Qn,Cy _ _ td,BlkD.cells,eX,Q0,aT,Dh _ _ aT,PhiD.cells,hp,ca,bn,bz,bj,hz,ve,vW,sD,cf,oA,Qc,ck,kO,Qk _ _ kO,Qk _ _ han,hu,oN,kK,pB,s.c,Qk _ _ du,Fh,Jj,Ji];intro H4 h4;have s:NSt q os zb n R wl cy ids F nx cs (XU os zb U) H4:=⟨Ms s.t sS iu (by rw[nY];exact kO) _ h4 (λm' r' _ hh=>hh) (tR a),s.c⟩;refine Zh ?_;refine⟨Qs,?_⟩;show ∃m,_;exact⟨o'.ab.length-(k+1),ZB,k+1,rfl,ZB,s,rfl,rfl,rfl,rfl,rfl,rfl,rfl,rfl⟩
    ·intro _;refine Zb ?_;refine Zh ?_;refine⟨Qs,?_⟩;show ∃m,_;exact⟨o.nx.ns.length-(i+1),ZB,i+1,rfl,ZB,s,rfl,rfl,rfl,rfl,rfl⟩
  ·intro _;refine Zb ?_;exact h _ _ s ⟨rfl,rfl,rfl,rfl⟩
end Go.AE.Y
namespace Go.AE.Y
attribute [local go_sem] cond_true cond_false Bool.not_true Bool.not_false
attribute [local instance] Classical.propDecidable
open Go.Proofs.Tryz
variable {H H' F:Heap}{K:Uk}{q:CodeD}{os:List OBlk}{zb wl cy R n b:Nat}{ids:List Int}{nx:Int}{cs:List Int}
def wgt (os:List OBlk)(x:Nat):Nat:=match os[x]? with
 |some o=>o.ab.length+o.ins.length
 |none=>0
theorem Qb6a {x:Nat}{o:OBlk}(h:x<os.length)(ho:os[x]=o):wgt os x=o.ab.length+o.ins.length:=by simp[wgt,h,ho]
theorem Qb1d {n:Nat}{g:Nat->List Nat}{b:Nat}:depL n g b<=n:=by
 have:=Jas (λa=>domB g a b) (List.range n);simpa[depL]using this
theorem Qbbe (ids:List Int)(b:Nat):(Du ids b).Nodup:=List.Nodup.sublist List.filter_sublist List.nodup_range
theorem Qbmk {N B:Nat}{w:Nat->Nat}(hw:∀x,w x<=B)(U:Nat->Prop):potW N w U<=N * B:=by
 have key:∀m,(((List.range m).filter λx=>decide (U x)).map w).sum<=m * B:=λm=>by
  induction m with
  |zero=>simp
  |succ m ih=>
   rw[Jax,Jaj,Jp,List.sum_append,Nat.succ_mul];have h1:(((List.filter (λx=>decide (U x)) [m]).map w)).sum<=B:=by
    by_cases h:U m
    ·simp[h];exact hw m
    ·simp[h]
   omega
 exact key N
noncomputable def pW (n:Nat)(w:Nat->Nat)(U:Nat->Prop):Nat:=@potW n w U λ_=>Classical.propDecidable _
theorem Qb5b {w:Nat->Nat}{U V:Nat->Prop}{b:Nat}(hb:b<n)(hU:U b)(hV:∀x,V x↔U x/\x≠b):pW n w V+w b=pW n w U:=by
 unfold pW;exact XD hb hU hV
theorem Mh {w:Nat->Nat}{U V:Nat->Prop}(h:∀x,V x->U x):pW n w V<=pW n w U:=by
 unfold pW;exact Qb29 h
theorem Y4 {N B:Nat}{w:Nat->Nat}(hw:∀x,w x<=B)(U:Nat->Prop):pW N w U<=N * B:=by
 unfold pW;exact Qbmk hw U
theorem Qb2t (c:NC q os zb R n ids)(M:Int)(hM:M<=2 ^ 40):∀(N b:Nat) (U:Nat->Prop) (nx:Int) (cs:List Int) (cy:Nat) (H:Heap) (K:V->Heap->Prop),n<N+depL n (nxN (gnx q)) b->b<n->(∀x,Sub ids b x->U x)->NSt q os zb n R wl cy ids H nx cs (XU os zb U) H->0<=nx->nx+pW n (wgt os) U<=M->
  (∀nx' cs' H',NSt q os zb n R wl cy ids H nx' cs' (XU os zb λx=>U x/\¬Sub ids b x) H'->0<=nx'->nx'+pW n (wgt os) (λx=>U x/\¬Sub ids b x)<=M->K (.tup []) H')->
  Qr prog V6 [Up wl,Uv b,.c (.ah cy 1 0 R)] H K:=by
 intro N
 induction N with
 |zero=>intro b U nx cs cy H K h1;have:=Qb1d (n:=n) (g:=nxN (gnx q)) (b:=b);omega
 |succ N ih=>
  intro b U nx cs cy H K hN hb Bt s h0 xy hK;obtain⟨hl,hq,hd,ax,cz,da,cM⟩:=c.get hb;obtain⟨o,ho⟩:∃o,os[b]=o:=⟨_,rfl⟩;obtain⟨y,hy⟩:∃y,q.blocks[b]=y:=⟨_,rfl⟩;rw[ho]at hd ax da cM;rw[hy]at hd cz;have ap:Apart os zb:=s.t.nodup;have vR:U b:=Bt b .refl;obtain⟨U1,uV⟩:∃U1:Nat->Prop,U1=λx=>U x/\x≠b:=⟨_,rfl⟩;have uU:¬U1 b:=by rw[uV];exact λh=>h.2 rfl
  have nP:=Qb5b (n:=n) (w:=wgt os) (U:=U) (V:=U1) hb vR (λx=>by rw[uV]);rw[Qb6a hl ho]at nP;have s1:NSt q os zb n R wl cy ids H nx cs (XC os zb U1 o b true 0 0) H:=by
   refine⟨?_,s.c⟩;refine s.t.weak λm r hh=>?_;rcases hh with (h|⟨x,hx,sC,he⟩)|⟨_,h1,h2⟩|⟨p,hp,h1,_⟩|⟨i',bR,h1,_⟩
   ·exact .inl h
   ·rw[uV]at sC;exact .inr ⟨x,hx,sC.1,he⟩
   ·exact .inr ⟨b,hl,vR,.inl ⟨h1,h2⟩⟩
   ·exact .inr ⟨b,hl,vR,.inr ⟨p,by rw[ho];exact Ja _ hp,h1⟩⟩
   ·exact .inr ⟨b,hl,vR,.inr ⟨_,by rw[ho];exact Jh _ (o.aM bR),h1⟩⟩
  have zN:∀p∈o.phN,∀r,¬XC os zb U1 o b true 0 0 p.1 r:=λp hp r hh=>by
   have cB:p∈os[b].phN:=by rw[ho];exact hp
   rcases hh with h|h
   ·exact ap.ph hl cB r h
   ·exact ap.phP hl hl cB true 0 0 r (by rw[ho];exact h)
  clear s;refine Qd BF Qabm ?_;have hw:=s1.w;rw[wO]at hw;obtain⟨RW,j,on,ca,bn,bz,bj,_,_⟩:=CA s1.t c hb hl ho;refine Qa ?_;simp only[go_sem,hw,ca,bn,hb,Jj,Ji];refine phA c hb hl ho zN s1 ⟨rfl,rfl,rfl,rfl⟩ h0 ZB ZB λe2 H2 s2 k2=>?_;refine phB c hb hl ho hd hq hy s2 k2 ZB λe3 H3 cs3 s3 k3=>?_;refine phC c hb hl ho hd hq hy uU s3 k3 ZB ZB ZB λe4 H4 nx4 cs4 cO jw s4 k4=>?_;refine phD c hb hl ho hd hq hy uU s4 k4 λe5 H5 s5 k5=>?_;refine phE c hb hl ho hd hq hy s5 k5 λe6 H6 s6 k6=>?_;obtain⟨l0,l1,l2,l6⟩:=k6;have hw:=s6.w;rw[wO]at hw;refine Zq l0 l1 hw ?_;refine Qbqx (by rw[c.t.1];have:=c.ok.b1;rw[c.hn]at this;omega) λH7 hu=>?_;have s7:NSt q os zb n R wl cy ids H nx4 cs4 (XU os zb U1) H7:=⟨s6.t.aw hu,s6.c⟩;simp only[go_sem,Qgh,l0,l2];obtain⟨kl,cg⟩:∃kl,Du ids b=kl:=⟨_,rfl⟩;rw[cg];have hkll:kl.length<=160:=by
   have h1:=Jas (λi=>decide (ids.getD i 0=(b:Int))) (List.range ids.length);rw[List.length_range,c.t.1]at h1;have h2:=c.ok.b1;rw[c.hn]at h2;rw[<-cg,Du,c.t.1];omega
  have ug:∀k∈kl,k∈Du ids b:=λk hk=>by rw[cg];exact hk
  have y7:kl.Nodup:=by rw[<-cg];exact Qbbe ids b
  refine Za ?_;refine Qe (Qw (λm e1 H1=>∃(i:Nat) (nx':Int) (cs:List Int),m=kl.length-i/\i<=kl.length/\NSt q os zb n R wl cy ids H nx' cs (XU os zb λx=>U1 x/\∀k∈kl.take i,¬Sub ids k x) H1/\0<=nx'/\nx'+pW n (wgt os) (λx=>U1 x/\∀k∈kl.take i,¬Sub ids k x)<=M/\
   lk 0 e1=Up wl/\lk 2 e1=.c (.ah cy 1 0 R)/\lk 16 e1=.c (.sl false 1 (BK kl))/\lk 17 e1=Uv i) kl.length ?_ ?_)
  ·refine⟨0,nx4,cs4,ZB,ZB,⟨s7.t.weak λm r hh=>?_,s7.c⟩,ZB,?_,rfl,rfl,rfl,rfl⟩
   ·rcases hh with h|⟨x,hx,sC,he⟩
    ·exact .inl h
    ·exact .inr ⟨x,hx,sC.1,he⟩
   ·have:=Mh (n:=n) (w:=wgt os) (U:=U1) (V:=λx=>U1 x/\∀k∈kl.take 0,¬Sub ids k x) λx hx=>hx.1;omega
  ·clear hw ca bn bz bj s1 s6 s7 hu l0 l1 l2 l6;rintro m e7 H8 ⟨i,nx',cs,hm,hi,s,cC,oU,l0,l2,l16,l17⟩;refine Q1 (Qa ?_);simp only[go_sem,l0,l2,l16,l17,Q5];try intro _
   refine Wu ?_ ?_
   ·intro hc;have af:i<kl.length:=ZE;obtain⟨k,hk⟩:∃k,kl[i]=k:=⟨_,rfl⟩;have jW:k∈Du ids b:=ug k (by rw[<-hk];exact Jd af);have bm:kl.getD i 0=k:=(by simp[Jb,af,hk]);have qY:=kidsL_mem.1 jW;have uf:k<n:=(by rw[<-c.t.1];exact qY.1);have hdep:=(c.t.up qY.1 qY.2).2;have kK:=s.cu;refine Zc ?_
    refine Wp ?_;simp only[go_sem,af,Q5,CZ _ _ af,bm,kK,s.ct,s.cl,J7,Jl,Ja1,Jj,Ji];refine⟨.inl trivial,Qq _,by have h1:=c.ok.r1;have h2:=c.ok.r0;have:=c.hR;simp only[LIM];omega,λz hz H9 h9=>?_⟩;have t9:=s.t.al hz h9;simp only[go_sem,Qgi,af,Q5,CZ _ _ af,bm];have jA:Ty (LGo os zb) H9 [(wl,wO q ids zb n nx'),(z,.vec 1 (Qb cs))] (XU os zb λx=>U1 x/\∀k∈kl.take i,¬Sub ids k x) H9 []:=Ty.sub (L:=[]) t9;refine ih k (λx=>U1 x/\∀k∈kl.take i,¬Sub ids k x) nx' cs z H9 _ ZB uf (λx hx=>?_) ⟨jA,s.c⟩ cC oU λnx2 cs2 H10 s10 yg tG=>?_
    ·refine⟨?_,λk' fz fi=>?_⟩
     ·rw[uV];refine⟨Bt x (Sub.kid jW hx),λsU=>?_⟩;subst sU;exact Sub.kid_ne c.t jW hx
     ·have hk'm:k'∈kl:=List.mem_of_mem_take fz;have:=Sub.kids_apart c.t (ug k' hk'm) jW fi hx;subst this;rw[<-hk]at fz;exact Lf y7 af fz
    have zO:∀x,(U1 x/\∀k∈kl.take (i+1),¬Sub ids k x)↔((U1 x/\∀k∈kl.take i,¬Sub ids k x)/\¬Sub ids k x):=λx=>by
     rw[Jz af,hk];constructor
     ·rintro⟨g1,g2⟩;exact⟨⟨g1,λk' fz=>g2 k' (Jh _ fz)⟩,g2 k (Ja _ ZD)⟩
     ·rintro⟨⟨g1,g2⟩,g3⟩;refine⟨g1,λk' fz=>?_⟩;rcases Jq.1 fz with h|h
      ·exact g2 k' h
      ·simp only[Jc]at h;rw[h];exact g3
    have AZ:(λx=>U1 x/\∀k∈kl.take (i+1),¬Sub ids k x)=λx=>(U1 x/\∀k∈kl.take i,¬Sub ids k x)/\¬Sub ids k x:=funext λx=>propext (zO x);have t11:=Ty.ret (L:=[]) t9 s10.t;refine Zh ?_;refine⟨Qs,?_⟩;show ∃m,_;refine⟨kl.length-(i+1),ZB,i+1,nx2,cs,rfl,ZB,?_,yg,?_,rfl,rfl,rfl,rfl⟩
    ·rw[AZ];exact⟨t11,s.c⟩
    ·rw[AZ];exact tG
   ·intro hc;have jx:i=kl.length:=(by have:kl.length<=i:=(by simpa using hc);omega);subst jx;rw[Ja7]at s oU;refine Qu ?_;simp only[go_sem,X.next,Q4,BE,Cp,Jy,false_imp_iff,implies_true,Ja5];have jT:∀x,(U x/\¬Sub ids b x)->(U1 x/\∀k∈kl,¬Sub ids k x):=λx hx=>by
     refine⟨by rw[uV];exact⟨hx.1,λsU=>hx.2 (by rw[sU];exact .refl)⟩,λk hk hs=>hx.2 (Sub.kid (ug k hk) hs)⟩
    refine hK nx' cs H8 ⟨s.t.weak λm r hh=>?_,s.c⟩ cC ?_
    ·rcases hh with h|⟨x,hx,sC,he⟩
     ·exact .inl h
     ·exact .inr ⟨x,hx,jT x sC,he⟩
    ·have:=Mh (n:=n) (w:=wgt os) jT;omega
theorem LGo.vec {zb:Nat}(ax:∀b∈os,b.ok)(bt:∀b∈os,∀p∈b.ab,p.own):∀p∈LGo os zb,∃sz rows,p.2=.vec sz rows:=λp hp=>by
 rcases Jq.1 hp with hp|hp
 ·obtain⟨o,ho,hp⟩:=Jm.1 hp;have h1:=ax o ho;simp only[OBlk.lg,Jq]at hp;rcases hp with hp|hp|hp|hp|hp
  ·simp only[OInts.lg,Jc]at hp;rw[hp];exact⟨_,_,rfl⟩
  ·obtain⟨x,hx,hp⟩:=Jm.1 hp;obtain⟨y,_,e⟩:=bt o ho x hx;rw[e]at hp;simp only[Jc]at hp;rw[hp];exact⟨_,_,rfl⟩
  ·rcases h1.p with ⟨_,_,e⟩|⟨y,_,e⟩
   ·rw[e]at hp;simp at hp
   ·rw[e]at hp;simp only[Jc]at hp;rw[hp];exact⟨_,_,rfl⟩
  ·obtain⟨x,hx,hp⟩:=Jm.1 hp;simp only[OIns.lg,OInts.lg,Jc]at hp;rw[hp];exact⟨_,_,rfl⟩
  ·rcases h1.i with ⟨_,_,e⟩|⟨y,_,e⟩
   ·rw[e]at hp;simp at hp
   ·rw[e]at hp;simp only[Jc]at hp;rw[hp];exact⟨_,_,rfl⟩
 ·simp only[Jc]at hp;rw[hp];exact⟨_,_,rfl⟩
theorem Xj {LG E0:Ul}{Z:Nat->Nat->Prop}(hv:∀p∈LG,∃sz rows,p.2=.vec sz rows)(kn:Kn H H (E0++LG) []):Ty LG H E0 Z H []:=by
 refine⟨LG,rfl,λp hp ob bg=>?_,kn⟩;have hd:=kn.dE;rw[Jp]at hd;have dh:=(Ju.1 hd).2.1;obtain⟨i1,g1⟩:=J4 hp;obtain⟨i2,g2⟩:=J4 bg;have:=DH dh g1 g2 rfl;subst this;rw[g1]at g2;have e:p.2=ob:=by rw[Jab g2]
 obtain⟨sz,rows,h⟩:=hv p hp;rw[<-e,h];exact .same _ _
theorem HI {S:Nat->Bool}{Z:Nat->Prop}{m k:Nat}{ns:List Int}(hs:SimO Z (.vec 1 (Qb ns)) (H m))(hS:S m=true)(hk:k=ns.length):∃ns':List Int,ns'.length=ns.length/\FrzC H S (.ah m 1 0 k) (.sl false 1 (Qb ns')):=by
 obtain⟨ns',h1,h2,_⟩:=Fz (X:=λ_=>Z) (m:=m) hs;exact⟨ns',h2,(FrzR.same (Qq _)).ah hS h1 ZS⟩
theorem FV {β:Type}{S:Nat->Bool}{g:β->List C}{P:β->Prop}:∀(l:List (List C)),(∀r∈l,∃y,FrzL H S r (g y)/\P y)->∃l':List β,FrzR H S l (l'.map g)/\l'.length=l.length/\∀y∈l',P y
 |[],_=>⟨[],.nil,rfl,ZD⟩
 |x::l,h=>by
  obtain⟨y,hy,hp⟩:=h x List.mem_cons_self;obtain⟨l',dm,hn,ft⟩:=FV l λz hz=>h z (List.mem_cons_of_mem _ hz);refine⟨y::l',.cons hy dm,ZaQ,λz hz=>?_⟩;rcases Jw.1 hz with rfl|hz
  ·exact hp
  ·exact ft z hz
theorem GJ {l:List (List C)}{r:List C}(h:r∈l):∃i,i<l.length/\l.getD i []=r:=by
 obtain⟨i,hi,rfl⟩:=J8.1 h;exact⟨i,hi,by simp[Jb,hi]⟩
theorem Qbvm {S:Nat->Bool}{Z:Nat->Nat->Prop}{o:OBlk}(ax:o.ok)(bt:∀p∈o.ab,p.own)(hs:∀p∈o.phN,SimO (Z p.1) p.2 (H p.1)/\S p.1=true):∃ps:List PhiD,FrzC H S o.pc (.sl false 2 (Q6 ps))/\ps.length=o.ab.length:=by
 rcases ax.p with ⟨h1,h2,_⟩|⟨z,h1,h2⟩
 ·have h0:o.ab=[]:=Ja3.1 h2;exact⟨[],by rw[h1];exact FrzR.nil.sl,by simp[h0]⟩
 ·obtain⟨hz,zS⟩:=hs (z,.vec 2 (o.ab.map OPhi.row)) (Ja _ Zab);obtain⟨PR,g1,g2,g3⟩:=hz.get;rw[Je]at g2 g3;obtain⟨ps,e1,e2,_⟩:=FV (H:=H) (S:=S) (g:=PhiD.cells) (P:=λ_=>True) PR λr hr=>by
   obtain⟨i,hi,he⟩:=GJ hr;have bR:i<o.ab.length:=ZB
   obtain⟨h4,_⟩:=g3 i bR;obtain⟨ya,e3,e4⟩:=bt _ (Jd bR);have hg:(o.ab.map OPhi.row).getD i []=[Ui o.ab[i].to,.ah ya 1 0 o.ab[i].ns.length]:=by
    simp only[Jb,Jt,Jg bR,Jx,Js,OPhi.row,e3]
   rw[hg,he]at h4;have gV:=hs (ya,.vec 1 (Qb o.ab[i].ns)) (Jh _ (Jm.2 ⟨_,Jd bR,by rw[e4];simp⟩));obtain⟨ns',_,fG⟩:=HI gV.1 gV.2 rfl
   cases h4 with
   |cons a1 t1=>cases t1 with
    |cons a2 t2=>cases t2 with
     |nil=>
      obtain⟨v,e⟩:=a1.int;have e5:=a2.ah;subst e;subst e5;exact⟨⟨v,ns'⟩,.cons (Qg rfl) (.cons fG .nil),trivial⟩
  exact⟨ps,by rw[h1];exact e1.ah zS g1 (by rw[Je,g2]),ZB⟩
theorem Qb01 {S:Nat->Bool}{Z:Nat->Nat->Prop}{o:OBlk}(ax:o.ok)(hs:∀p∈o.inN,SimO (Z p.1) p.2 (H p.1)/\S p.1=true):∃is:List InsD,FrzC H S o.ic (.sl false 4 (BJ is))/\is.length=o.ins.length:=by
 rcases ax.i with ⟨h1,h2,_⟩|⟨z,h1,h2⟩
 ·have h0:o.ins=[]:=Ja3.1 h2;exact⟨[],by rw[h1];exact FrzR.nil.sl,by simp[h0]⟩
 ·obtain⟨hz,zS⟩:=hs (z,.vec 4 (o.ins.map OIns.row)) (Ja _ Zab);obtain⟨PR,g1,g2,g3⟩:=hz.get;rw[Je]at g2 g3;obtain⟨ps,e1,e2,_⟩:=FV (H:=H) (S:=S) (g:=InsD.cells) (P:=λ_=>True) PR λr hr=>by
   obtain⟨i,hi,he⟩:=GJ hr;have bR:i<o.ins.length:=ZB
   obtain⟨h4,_⟩:=g3 i bR;have hg:(o.ins.map OIns.row).getD i []=[Ui o.ins[i].op,Ui o.ins[i].to,.ah o.ins[i].a.y 1 0 o.ins[i].a.ns.length,Ui o.ins[i].n]:=by
    simp only[Jb,Jt,Jg bR,Jx,Js];rfl
   rw[hg,he]at h4;have gV:=hs (o.ins[i].a.y,.vec 1 (Qb o.ins[i].a.ns)) (Jh _ (o.aM bR));obtain⟨ns',_,fG⟩:=HI gV.1 gV.2 rfl
   cases h4 with
   |cons a1 t1=>cases t1 with
    |cons a2 t2=>cases t2 with
     |cons a3 t3=>cases t3 with
      |cons a4 t4=>cases t4 with
       |nil=>
        obtain⟨v1,f1⟩:=a1.int;obtain⟨v2,f2⟩:=a2.int;have f3:=a3.ah;obtain⟨v4,f4⟩:=a4.int;subst f1;subst f2;subst f3;subst f4;exact⟨⟨v1,v2,ns',v4⟩,.cons (Qg rfl) (.cons (Qg rfl) (.cons fG (.cons (Qg rfl) .nil))),trivial⟩
  exact⟨ps,by rw[h1];exact e1.ah zS g1 (by rw[Je,g2]),ZB⟩
theorem Qbvl {S:Nat->Bool}{Z:Nat->Nat->Prop}(c:NC q os zb R n ids)(t:∀p∈LGo os zb,SimO (Z p.1) p.2 (H p.1))(hS:∀p∈LGo os zb,S p.1=true) :
  ∃bs:List BlkD,FrzC H S (.ah zb 5 0 n) (.sl false 5 (Qo bs))/\bs.length=n/\∀y∈bs,y.ins.length<=1200/\y.ab.length<=1200:=by
 have hs:=t _ LGo.zbm;obtain⟨RW,h1,h2,h3⟩:=hs.get;rw[Je,c.l]at h2;obtain⟨bs,e1,e2,e3⟩:=FV (H:=H) (S:=S) (g:=BlkD.cells) (P:=λy=>y.ins.length<=1200/\y.ab.length<=1200) RW λr hr=>by
  obtain⟨x,hx,he⟩:=GJ hr;have rU:x<n:=ZB
  obtain⟨hl,hq,hd,ax,cz,da,cM⟩:=c.get rU;obtain⟨RW',j,on,g1,g2,_,g4,_,_⟩:=Kw hs c rU hl rfl;rw[h1]at g1;cases g1;rw[g4]at he;subst he;have qp:∀p∈os[x].lg,SimO (Z p.1) p.2 (H p.1)/\S p.1=true:=λp hp=>⟨t p (LGo.of hl hp),hS p (LGo.of hl hp)⟩;obtain⟨ps,p1,p2⟩:=Qbvm (H:=H) (S:=S) (Z:=Z) ax (c.ow _ (Jd hl)) λp hp=>qp p (OBlk.phM hp);obtain⟨is,i1,i2⟩:=Qb01 (H:=H) (S:=S) (Z:=Z) ax λp hp=>qp p (OBlk.inM hp);have fj:=qp _ os[x].nxM;obtain⟨ns',_,n2⟩:=HI fj.1 fj.2 rfl;exact⟨⟨ps,is,j,on,ns'⟩,.cons p1 (.cons i1 (.cons (Qg rfl) (.cons (Qg rfl) (.cons n2 .nil)))),by show is.length<=_;omega,by show ps.length<=_;omega⟩
 exact⟨bs,e1.ah (hS _ LGo.zbm) h1 ZB,ZB,e3⟩
theorem Qbbi {q:CodeD}(ho:q.ok)(fU:0<=q.params)(kY:q.params<=q.ae)(h9:∀y∈q.blocks,y.ins.length<=900/\y.ab.length<=900)(hK:∀(d:CodeD) H',d.fits->Upd H H' []->K (.ag d.cells) H') :
  Qr prog Q7u [.ag [Ui q.params,Ui q.ae,.sl false 5 (Qo q.blocks)]] H K:=by
 refine Qy ?_;refine Qd BF Qbbv ?_;refine Za ?_;intro x2 aI H1 h1;have kn:=(Kn.an H).al aI h1;refine Za ?_;refine Qblx ho fU h9 λd1 H2 dv sf cI h9d hu=>?_;have kn:=kn.aw hu;simp only[go_sem,Qyv,CodeD.cells];refine Qbq1 dv h9d λd2 H3 eU fe ey hu=>?_;have kn:=kn.aw hu;have hp:d2.params=q.params:=fe.trans sf;have hr:d2.ae=q.ae:=ey.trans cI;simp only[go_sem,Sc,CodeD.cells];intro x3 aL H4 h4;have kn:=kn.al aL h4;have aL:=kn.l 1 rfl;simp only[go_sem,EK,aL];intro H5 h5;have kn:Kn H H5 [] [(x2,.st [Ui 0,Ui 0,.sl true 5 []]),(x3,.st [Ui d2.params,Ui d2.ae,.sl false 5 (Qo d2.blocks)])]:=kn.aB 1 rfl h5;have aL:=kn.l 1 rfl;have eV:=eU.b0;have ba:=eU.b1;have hrr0:=eU.r0;have hrr1:=eU.r1;refine BM ?_;simp only[go_sem,aL];refine FU eU.sg λo H6 k2 ax gI bt=>?_;have kn:=kn.comp0 k2;obtain⟨n,hn⟩:∃n,d2.blocks.length=n:=⟨_,rfl⟩;have eS:o.blocks.length=n:=by rw[<-hn,<-gI];simp[OCode.d]
 obtain⟨zb,dB,bu⟩:∃z,o.bc=.ah z 5 0 n/\o.bl=[(z,.vec 5 (o.blocks.map OBlk.row))]:=by
  rcases ax.b with ⟨_,h,_⟩|⟨y,h1,h2⟩
  ·have:=congrArg List.length h;simp only[Je,Jl]at this;omega
  ·exact⟨y,by rw[h1,Je,eS],h2⟩
 have aC:o.row=[Ui d2.params,Ui d2.ae,.ah zb 5 0 n]:=by
  rw[OCode.row,dB,<-gI];rfl
 have vG:o.lg=LGo o.blocks zb:=by rw[OCode.lg,bu];rfl
 have jv:o.blocks.map OBlk.d=d2.blocks:=Zbh
 have nW:=ax.bs;rw[vG]at kn;have aL:=kn.l 1 rfl;simp only[go_sem,Qyz,aL];refine Rw (rows:=Qo d2.blocks) (nx:=gnx d2) (Hd eU.gd) (by rw[Qn];exact eU.fitB) λH7 hu=>?_;have kn:=kn.aw hu;have aL:=kn.l 1 rfl;rw[Qn,hn];simp only[go_sem,Qyy,aL];refine Qblw ZB ZB λids H8 tg hu=>?_;have kn:=kn.aw hu;have aL:=kn.l 1 rfl;rw[aC];simp only[go_sem,Qyx,aL];intro x4 aY H9 Am;have kn:=kn.al aY Am;have aL:=kn.l 1 rfl;simp only[go_sem,Qyw];obtain⟨R,hR⟩:∃R:Nat,d2.ae.toNat=R:=⟨_,rfl⟩;have uX:d2.ae=(R:Int):=ZB
 refine Zj aL ?_;refine⟨ZB,by simp only[LIM];omega,λcy gO H10 db=>?_⟩;rw[Q14,hR]at db;have kn:=kn.al gO db;simp only[go_sem,Qy0,hR];refine Wa ?_;generalize hos0:o.blocks=os at *;have kn:Kn H H10 [] ([(cy,.vec 1 (Qb (List.replicate R 0)))]++([(x2,.st [Ui 0,Ui 0,.sl true 5 []]),(x3,.st [Ui d2.params,Ui d2.ae,.sl false 5 (Qo d2.blocks)])]++([(x4,wO d2 ids zb n q.params)]++LGo os zb))):=kn.perm (Qj λf hf h0 hc hp=>by
  have e2:∀(a b:Nat×Obj),f [a,b]=f [a]+f [b]:=λa b=>hc a [b];simp only[Ui,hf,e2,wO];omega)
 refine Qh (Qe (Qw (λm e1 H1=>∃(r:Nat) (cs:List Int),m=q.params.toNat-r/\(r:Int)<=q.params/\cs.length=R/\
  Kn H H1 [] ([(cy,.vec 1 (Qb cs))]++([(x2,.st [Ui 0,Ui 0,.sl true 5 []]),(x3,.st [Ui d2.params,Ui d2.ae,.sl false 5 (Qo d2.blocks)])]++([(x4,wO d2 ids zb n q.params)]++LGo os zb)))/\
  lk 1 e1=.c (.pp [Ui q.params,Ui q.ae,.sl false 5 (Qo q.blocks)])/\lk 2 e1=Up x2/\lk 4 e1=Up x4/\lk 5 e1=.c (.ah cy 1 0 R)/\lk 6 e1=Uv r) q.params.toNat ?_ ?_))
 ·exact⟨0,List.replicate R 0,ZB,fU,ZD,kn,rfl,rfl,rfl,rfl,rfl⟩
 ·clear kn db;rintro m e1 H11 ⟨r,cs,hm,hrp,cG,kn,l1,l2,l4,l5,l6⟩;refine Q1 (Qa ?_);simp only[go_sem,l1,l2,l4,l5,l6];refine Wu ?_ ?_
  ·intro hc;have af:(r:Int)<q.params:=ZE
   have A6:r<R:=ZB
   have du:r<cs.length:=ZB
   have kK:=kn.l 0 rfl;have pB:(Qb cs).take R=Qb cs:=Jf ZS;refine Zc ?_
   refine Wt ?_;simp only[go_sem,kK,Qc,cG,A6,Qk _ _ du,Fh,Jj,Ji];intro H12 iP;have kn:=kn.aB 0 rfl iP;refine Zh ?_;refine⟨Qs,?_⟩;show ∃m,_;exact⟨q.params.toNat-(r+1),ZB,r+1,_,rfl,ZB,by rw[J1];exact cG,kn,rfl,rfl,rfl,rfl,ZC⟩
  ·intro hc;refine Zb ?_;have hC:NC d2 os zb R n ids:=⟨eU,hn,hR,eS,λx h h'=>by
    have h1:(os.map OBlk.d)[x]? = some os[x].d:=Zbr;rw[jv,Jg h']at h1;exact (Jab h1).symm,nW,bt,tg⟩
   have kn:Kn H H11 [] ((([(x4,wO d2 ids zb n q.params),(cy,.vec 1 (Qb cs))])++LGo os zb)++[(x2,.st [Ui 0,Ui 0,.sl true 5 []]),(x3,.st [Ui d2.params,Ui d2.ae,.sl false 5 (Qo d2.blocks)])]):=kn.perm (Qj λf hf h0 hc hp=>by
    have e2:∀(a b:Nat×Obj),f [a,b]=f [a]+f [b]:=λa b=>hc a [b];simp only[Ui,hf,e2];omega)
   have rV:wgt os=wgt os:=rfl;have vn:∀x,wgt os x<=2400:=λx=>by
    rw[wgt]
    cases hx:os[x]? with
    |none=>simp
    |some o'=>
     obtain⟨eP,wq⟩:=Jak.1 hx;have rU:x<n:=ZB;obtain⟨_,_,_,_,_,a1,a2⟩:=hC.get rU;rw[wq]at a1 a2;show o'.ab.length+o'.ins.length<=2400;omega
   have v7:=Y4 (N:=n) vn (λ_=>True);have aN:NSt d2 os zb n R x4 cy ids H11 q.params cs (XU os zb λ_=>True) H11:=⟨Xj (LGo.vec nW bt) kn.mid,cG⟩;refine Za ?_;refine Qb2t hC (2 ^ 40) (Jbf _) (n+1) 0 (λ_=>True) q.params cs cy H11 _ ZB ZB (λ_ _=>trivial) aN ZB (by
    have:n * 2400<=160 * 2400:=Ja0 _ ZB;omega) λnx' cs' H12 s2 cC xy=>?_
   obtain⟨t2,hcl2⟩:=s2;have Av:=Ty.e t2 0 rfl;have dy:=t2;obtain⟨E1,g1,g2,k3⟩:=t2;have kn:=kn.comp k3 (by simp[g1]);have kn:Kn H H12 [] ([(x4,wO d2 ids zb n nx'),(x2,.st [Ui 0,Ui 0,.sl true 5 []])]++([(x3,.st [Ui d2.params,Ui d2.ae,.sl false 5 (Qo d2.blocks)])]++([(cy,.vec 1 (Qb cs'))]++E1))):=kn.perm (Qj λf hf h0 hc hp=>by
    have e2:∀(a b:Nat×Obj),f [a,b]=f [a]+f [b]:=λa b=>hc a [b];simp only[Ui,hf,h0,e2];omega)
   rw[wO]at Av;try simp only[go_sem]
   refine Qa ?_;simp only[go_sem,Av];intro H13 mZ;have kn:=kn.aB 0 rfl mZ;have aY:=kn.l 0 rfl;have aI:=kn.l 1 rfl;refine Zm aY aI ?_;intro H14 iC;have kn:=kn.aB 1 rfl iC;have aI:=kn.l 1 rfl;refine Zl aI ?_;have hE:∀p∈E1,H14 p.1=p.2/\un H p.1=true:=λp hp=>by
    have hm:p∈([(x4,Obj.st [Ui d2.params,Ui d2.ae,.sl false 5 (Qo d2.blocks),Ui d2.params,Ui nx',.ah zb 5 0 n,.sl false 1 (Qb ids),Ui nx']),(x2,.st [Ui d2.params,Ui nx',.ah zb 5 0 n])]++([(x3,.st [Ui d2.params,Ui d2.ae,.sl false 5 (Qo d2.blocks)])]++([(cy,.vec 1 (Qb cs'))]++E1)):Ul):=by
     simp[hp]
    exact⟨(kn.get p (Ja _ hm)).1,DG (kn.loc p hm)⟩
   have wV:TT d2 os zb n x4 cy ids H11 nx' cs' (XU os zb λx=>True/\¬Sub ids 0 x) H12:=dy;have hH:∀p∈LGo os zb,H14 p.1=H12 p.1:=λp hp=>by
    have h1:p.1∈E1.map Prod.fst:=(by rw[g1];exact Cc hp);obtain⟨p',cB,he⟩:=Jo.1 h1;rw[<-he,(hE p' cB).1,(k3.get p' (Jh _ (Ja _ cB))).1]
   have hS:∀p∈LGo os zb,un H p.1=true:=λp hp=>by
    have h1:p.1∈E1.map Prod.fst:=(by rw[g1];exact Cc hp);obtain⟨p',cB,he⟩:=Jo.1 h1;rw[<-he];exact (hE p' cB).2
   have wU:∀p∈LGo os zb,SimO (XU os zb (λx=>True/\¬Sub ids 0 x) p.1) p.2 (H14 p.1):=λp hp=>by
    rw[hH p hp];exact Ty.get wV hp
   obtain⟨bs,b1,b2,b3⟩:=Qbvl (S:=un H) hC wU hS;exact⟨_,FrzL.ag (.cons (Qg rfl) (.cons (Qg rfl) (.cons b1 .nil))),hK ⟨d2.params,nx',bs⟩ _ (λy hy=>by have:=b3 y hy;exact⟨ZB,ZB⟩) kn.fin⟩
end Go.AE.Y
namespace Go.AE.Y
attribute [local go_sem] cond_true cond_false Bool.not_true Bool.not_false
attribute [local instance] Classical.propDecidable
open Go.Proofs.Tryz
variable {H H0:Heap}{K:Uk}{E B Lg:Ul}{q:CodeD}
theorem Qbvt {S:Nat->Bool}(q:CodeD):FrzV H S (.ag q.cells) (.ag q.cells):=FrzL.ag (.cons (.same _ rfl) (.cons (.same _ rfl) (.cons (.same _ rfl) .nil)))
structure CodeD.sgl (q:CodeD):Prop where
 ok:q.ok
 p0:0<=q.params
 pr:q.params<=q.ae
 h9:∀y∈q.blocks,y.ins.length<=900/\y.ab.length<=900
theorem Xh {cs:List CodeD}(h:BP cs=true){c:CodeD}(hc:c∈cs):c.sgl:=by
 obtain⟨k,hk,rfl⟩:=J8.1 hc;have ho:=EJ h hk;obtain⟨_,h2,h3⟩:=of_decide_eq_true h;obtain⟨g1,g2⟩:=h2 k hk;simp only[CP,Ja6,decide_eq_true_eq]at g1;refine⟨ho,ZB,ZB,λy hy=>?_⟩;have a1:=FT (f:=Ci) (Jd hk);have a2:=FT (f:=Co) hy;simp only[Ci,Co]at *;omega
theorem Qbqw (hq:q.sgl)(hK:∀(d:CodeD) H',d.fits->Upd H H' []->K (.ag d.cells) H') :
  Qr prog Sk [.ag [Ui q.params,Ui q.ae,.sl false 5 (Qo q.blocks)],.c (.str [115,105,110,103,108,101])] H K:=by
 refine Qy ?_;refine Qd BF RC ?_;refine Za ?_;intro x4 aY H1 h1;have kn:=(Kn.an H).al aY h1;refine Wa ?_;refine Wg ?_;refine Qf rfl (λhc=>absurd hc ZO) (λ_=>?_);refine Za ?_;refine Qf rfl (λhc=>absurd hc ZO) (λ_=>?_);refine Za ?_;refine Qf rfl (λhc=>absurd hc ZO) (λ_=>?_);refine Za ?_;refine Qf rfl (λhc=>absurd hc ZO) (λ_=>?_);refine Za ?_;refine Qf rfl (λ_=>?_) (λhc=>absurd hc ZO);refine Za ?_;refine Qbbi hq.ok hq.p0 hq.pr hq.h9 λd H2 hd hu=>?_;have kn:=kn.aw hu;have aY:=kn.l 0 rfl;simp only[go_sem,Q8x,CodeD.cells,aY];intro H3 h3;have kn:=kn.aB 0 rfl h3;have aY:=kn.l 0 rfl;refine Zl aY ?_;exact⟨_,Qbvt d,hK d _ hd kn.fin⟩
theorem Qbqu {cs:List CodeD}{fl:Bool}(aR:∀c∈cs,c.fits)(hK:∀(ds:List CodeD) (b:Bool) H',(b=true->UnitOk ds)->Upd H H' []->K (.tup [.ag [.sl false 3 (Qm ds)],.c (.bool b)]) H') :
  Qr prog IS [.ag [.sl fl 3 (Qm cs)],.c (.str [115,105,110,103,108,101])] H K:=by
 refine Qy ?_;refine Qd BF RD ?_;refine Za ?_;intro x4 aY H1 h1;have kn:=(Kn.an H).al aY h1;simp only[go_sem,DN];refine Wa ?_;refine IZ aR λH2 hu=>?_;have kn:=kn.aw hu;simp only[go_sem,IT];refine Wu ?_ ?_
 ·intro _;have aY:=kn.l 0 rfl;refine Zj aY ?_;intro H3 h3;have kn:=kn.aB 0 rfl h3;have aY:=kn.l 0 rfl;simp only[go_sem,DN];refine Zp aY ?_;refine⟨λ_=>trivial,_,E4 (FrzL.ag (.cons (FrzR.nil.sl) .nil)) (.c _ _ (Qg rfl)),hK [] false _ (λh=>ZI) kn.fin⟩
 ·intro hc;have hG:BP cs=true:=Ct hc;refine Zc ?_
  refine Za ?_;intro x6 be H3 h3;have kn:=kn.al be h3;have be:=kn.l 1 rfl;simp only[go_sem,TA,be];intro H4 h4;have kn:Kn H H4 [] [(x4,.st [.sl true 3 []]),(x6,.st [.sl true 3 []])]:=kn.aB 1 rfl h4;refine Wa ?_;have cG:=(FQ aR hG).1;refine Qh (Qe (Qw (λm e1 H1=>∃(ds:List CodeD) (t:C) (Lg:Ul),m=cs.length-ds.length/\ds.length<=cs.length/\(∀d∈ds,d.fits)/\Gr Lg 3 (Qm ds) t/\Kn H H1 [] ([(x4,.st [.sl true 3 []]),(x6,.st [t])]++Lg)/\
   lk 1 e1=.c (.str [115,105,110,103,108,101])/\lk 2 e1=.c (.pp [.sl fl 3 (Qm cs)])/\lk 4 e1=Up x4/\lk 6 e1=Up x6/\lk 7 e1=.c (Ui ds.length)) cs.length ?_ ?_))
  ·exact⟨[],_,[],ZD,ZD,ZD,.nil 3,ZM,rfl,rfl,rfl,rfl,rfl⟩
  ·clear kn be;rintro m e1 H5 ⟨ds,t,Lg,hm,nu,gc,aq,kn,l1,l2,l4,l6,l7⟩;have fM:=aq.ai;refine Q1 (Qa ?_);simp only[go_sem,l1,l2,l4,l6,l7,Q8];try intro _
   refine Wu ?_ ?_
   ·intro aD;have af:ds.length<cs.length:=ZH;have be:=kn.l 1 rfl;obtain⟨q,hq⟩:∃q,cs[ds.length]=q:=⟨_,rfl⟩;have tC:q.sgl:=Xh hG (by rw[<-hq];exact Jd af);refine Zc ?_
    refine Wp ?_;simp only[go_sem,be,fM,af,Q8,Do _ _ af,CodeD.cells,hq];refine Qbqw tC λd H6 hd hu=>?_;have kn:=kn.aw hu;have be:=kn.l 1 rfl;simp only[go_sem,T8,CodeD.cells,be,fM];refine kn.bk (new:=Qm [d]) aq (.mk' _ _ _ _) (Ey _) ZaB λt2 Lg2 H7 bO dy kn=>?_;have be:=kn.l 1 rfl;simp only[go_sem,T9,be];intro H8 h8;have kn:=kn.aB 1 rfl h8;refine Zh ?_;refine⟨Qs,?_⟩;show ∃m,_;refine⟨cs.length-(ds.length+1),ZB,ds++[d],t2,Lg2,ZD,by simp only[J6,Jk,Jl];omega,λw hw=>?_,?_,kn,rfl,rfl,rfl,rfl,ZC⟩
    ·rcases Jq.1 hw with hw|hw
     ·exact gc w hw
     ·simp only[Jc]at hw;rw[hw];exact hd
    ·have:Qm (ds++[d])=Qm ds++Qm [d]:=Zbl;rw[this];exact bO
   ·intro _;refine Zb ?_;have be:=kn.l 1 rfl;obtain⟨S,kP,ly,eE,kn⟩:=kn.bQ;have ip:=ly (x6,.st [t]) ZD;have rp:FrzC H5 S t (.sl false 3 (Qm ds)):=Gr.frzM aq kP (FrzR.same (Ey _));have kn:=kn.setL (o':=.st [.sl false 3 (Qm ds)]) 1 rfl ZD;refine c_gh (E7 S (Fi ?_) (eE.set (o:=.st [.sl false 3 (Qm ds)]) ip.2 ZaD)) (e':=[(4,Up x4),(6,Up x6)]) ?_
    ·simp only[Jn];exact⟨.c _ _ (.same _ rfl),.c _ _ (.same _ rfl),ZD⟩
    generalize (H5.frz S).set x6 (Obj.st [C.sl false 3 (Qm ds)])=H6 at *;have be:=kn.l 1 rfl;have aY:=kn.l 0 rfl;clear eE ip rp kP ly;refine Q1 (Qa ?_);simp only[go_sem,be];refine IZ gc λH7 hu=>?_;have kn:=kn.aw hu;have be:=kn.l 1 rfl;have aY:=kn.l 0 rfl;simp only[go_sem,TL];refine Wu ?_ ?_
    ·intro _;refine Zj aY ?_;intro H8 h8;have kn:=kn.aB 0 rfl h8;have aY:=kn.l 0 rfl;simp only[go_sem,DN];refine Zp aY ?_;refine⟨λ_=>trivial,_,E4 (FrzL.ag (.cons (FrzR.nil.sl) .nil)) (.c _ _ (Qg rfl)),hK [] false _ (λh=>ZI) kn.fin⟩
    ·intro bA;have f8:BP ds=true:=Ct bA;refine Zc ?_
     refine Zm be aY ?_;intro H8 h8;have kn:=kn.aB 0 rfl h8;have aY:=kn.l 0 rfl;simp only[go_sem,IF];refine Zp aY ?_;obtain⟨u1,u2,u3⟩:=FQ gc f8;refine⟨λ_=>trivial,_,E4 (Eo ds) (.c _ _ (Qg rfl)),hK ds true _ (λ_=>⟨u2,u1,u3⟩) kn.fin⟩
theorem Qa0o {cs:List CodeD}{fl:Bool}(aR:∀c∈cs,c.fits)(hK:∀(ds:List CodeD) (b:Bool) H',(b=true->UnitOk ds)->Upd H H' []->K (.tup [.ag [.sl false 3 (Qm ds)],.c (.bool b)]) H') :
  Qr prog Qnf [.ag [.sl fl 3 (Qm cs)]] H K:=by
 refine Qy ?_;refine Qd BF Qafz ?_;refine Za ?_;intro x2 aI H1 h1;have kn:=(Kn.an H).al aI h1;simp only[go_sem,Iu];refine Za ?_;refine Qbqu aR λds b H2 hb hu=>?_;have kn:=kn.aw hu;have aI:=kn.l 0 rfl;simp only[go_sem,It,J9,Ja2,aI];intro H3 h3;have kn:=kn.aB 0 rfl h3;have aI:=kn.l 0 rfl;simp only[go_sem,Iw];refine Zp aI ?_;exact⟨λ_=>trivial,_,E4 (Eo ds) (.c _ _ (Qg rfl)),hK ds b _ hb kn.fin⟩
def oneU:List CodeD:=[⟨0,1,[⟨[],[⟨1,0,[],0⟩],3,0,[]⟩]⟩]
theorem Qb2w:UnitOk oneU:=by
 refine⟨by simp[oneU],by simp[oneU],λc hc=>?_⟩;simp only[oneU,Jc]at hc;subst hc;refine⟨ZD,ZD,λy hy=>?_,λy hy=>?_,ZD,λy hy=>?_⟩
 ·simp only[Jc]at hy;subst hy;simp
 ·simp only[Jc]at hy;subst hy;simp
 ·simp only[Jc]at hy;subst hy;exact⟨ZD,ZD,ZD,ZD,ZD⟩
theorem XX {S:Nat->Bool}:FrzC H S (.sl true 3 [[Ui 0,Ui 1,.sl true 5 [[.sl true 2 [],.sl true 4 [[Ui 1,Ui 0,.sl true 1 [],Ui 0]],Ui 3,Ui 0,.sl true 1 []]]]]) (.sl false 3 (Qm oneU)):=
 FrzR.sl (.cons (.cons (Qg rfl) (.cons (Qg rfl) (.cons (FrzR.sl (.cons (.cons FrzR.nil.sl (.cons (FrzR.sl (.cons (.cons (Qg rfl) (.cons (Qg rfl) (.cons FrzR.nil.sl (.cons (Qg rfl) .nil)))) .nil)) (.cons (Qg rfl) (.cons (Qg rfl) (.cons FrzR.nil.sl .nil))))) .nil)) .nil))) .nil)
theorem Qbq0 {R:Rdr}{k:Nat}(hH:H R.l=R.o k)(hk:k+7100000<=2^30)
  (hK:∀(cs:List CodeD) (H':Heap) (k':Nat),k<k'->k'<=k+7050000->Upd H H' [(R.l,R.o k')]->UnitOk cs->K (.ag [.sl false 3 (Qm cs)]) H') :
  Qr prog Ng [.c (.ptr R.l 0)] H K:=by
 refine Qy ?_;refine Qd BF Qbrr ?_;refine Za ?_;intro x2 aI H1 h1;have kn:=(Kn.start1 hH (R.ao k)).al aI h1;refine Za ?_;refine Rx (kn.e 0 rfl) ZB λcs H3 k2 jJ ja hu ax=>?_;have kn:=kn.au 0 rfl hu (R.ao _);simp only[go_sem,Q9n];refine Qa0o ax.fits λds b H4 hb hu=>?_;have kn:=kn.aw hu;simp only[go_sem,Q9m,J9,Ja2];intro x3 aL H5 h5;have kn:=kn.al aL h5;have aL:=kn.l 1 rfl;simp only[go_sem,Q9l,aL];intro H6 h6;have kn:=kn.aB 1 rfl h6;have aI:=kn.l 0 rfl;have aL:=kn.l 1 rfl;simp only[go_sem,Q9k];refine Wa ?_;refine Wu ?_ ?_
 ·intro _;refine Zj aI ?_;intro H7 h7;have kn:=kn.aB 0 rfl h7;have aI:=kn.l 0 rfl;refine Zl aI ?_;exact⟨_,FrzL.ag (.cons XX .nil),hK oneU _ k2 jJ ja kn.fin Qb2w⟩
 ·intro hc;have mN:b=true:=Ct hc;refine Zc ?_
  refine Zm aI aL ?_;intro H7 h7;have kn:=kn.aB 0 rfl h7;have aI:=kn.l 0 rfl;refine Zl aI ?_;exact⟨_,Eo ds,hK ds _ k2 jJ ja kn.fin (hb mN)⟩
theorem Qbqz {R:Rdr}{k:Nat}(hH:H R.l=R.o k)(hk:k+7300000<=2^30)
  (hK:∀(cs:List CodeD) (H':Heap) (k':Nat),k<k'->k'<=k+7150000->Upd H H' [(R.l,R.o k')]->UnitOk cs->K (.ag [.sl false 3 (Qm cs)]) H') :
  Qr prog Nh [.c (.ptr R.l 0)] H K:=by
 refine Qy ?_;refine Qd BF Qbrq ?_;refine Za ?_;intro x2 aI H1 h1;have kn:=(Kn.start1 hH (R.ao k)).al aI h1;refine Wa ?_;refine Cg (kn.e 0 rfl) ZB λv H2 hv hu=>?_;have kn:=kn.au 0 rfl hu (R.ao _);simp only[go_sem,Tb];refine Wu ?_ ?_
 ·intro hc;refine Za ?_;refine Ry (kn.e 0 rfl) ZB λcs H3 k2 jJ ja hu ax=>?_;have kn:=kn.au 0 rfl hu (R.ao _);have aI:=kn.l 0 rfl;simp only[go_sem,Ta,aI];intro H4 h4;have kn:=kn.aB 0 rfl h4;have aI:=kn.l 0 rfl;refine Zl aI ?_;exact⟨_,Eo cs,hK cs _ k2 ZB ZB kn.fin ax⟩
 ·intro hc;refine Zc ?_
  refine Za ?_;refine Qbq0 (kn.e 0 rfl) ZB λcs H3 k2 jJ ja hu ax=>?_;have kn:=kn.au 0 rfl hu (R.ao _);have aI:=kn.l 0 rfl;simp only[go_sem,SZ,aI];intro H4 h4;have kn:=kn.aB 0 rfl h4;have aI:=kn.l 0 rfl;refine Zl aI ?_;exact⟨_,Eo cs,hK cs _ k2 ZB ZB kn.fin ax⟩
theorem Qbq3 {fl:Bool}{bs:List UInt8}(hK:∀(cs:List CodeD) (H':Heap),Upd H H' []->UnitOk cs->K (.ag [.sl false 3 (Qm cs)]) H') :
  Qr prog Nc [.c (.sl fl 1 (C7 bs))] H K:=by
 refine Qy ?_;refine Qd BF Qbru ?_;refine Za ?_;intro x2 aI H1 h1;have kn:=(Kn.an H).al aI h1;refine Za ?_;refine Qbq8 λR H2 hR h2=>?_;have kn:=kn.al hR h2 (R.ao 0);simp only[go_sem,Ea];refine Wa ?_;refine Cg (kn.l 1 rfl) ZB λv H2 hv hu=>?_;have kn:=kn.callL 1 rfl hu (R.ao _);simp only[go_sem,Q90];refine Wu ?_ ?_
 ·intro hc;refine Za ?_;refine Qbqz (kn.l 1 rfl) ZB λcs H3 k2 jJ ja hu ax=>?_;have kn:=kn.callL 1 rfl hu (R.ao _);have aI:=kn.l 0 rfl;simp only[go_sem,Q91,aI];intro H4 h4;have kn:=kn.aB 0 rfl h4;have aI:=kn.l 0 rfl;refine Zl aI ?_;exact⟨_,Eo cs,hK cs _ kn.fin ax⟩
 ·intro hc;refine Zc ?_
  refine Za ?_;refine Ry (kn.l 1 rfl) ZB λcs H3 k2 jJ ja hu ax=>?_;have kn:=kn.callL 1 rfl hu (R.ao _);have aI:=kn.l 0 rfl;simp only[go_sem,Q92,aI];intro H4 h4;have kn:=kn.aB 0 rfl h4;have aI:=kn.l 0 rfl;refine Zl aI ?_;exact⟨_,Eo cs,hK cs _ kn.fin ax⟩
section
variable {P:Program}{e:Env}{its r:List Item}{KK:Env->Heap->Prop}{KP:Value->Heap->Prop}{d:Option Nat}{t:Nat}{w:Bool}{op:FOp}
theorem Yx (x y:V):E8 true x y=x:=by
 cases x with
 |c a=>cases y with
  |c b=>cases a <;> cases b <;> rfl
  |_=>cases a <;> rfl
 |_=>cases y <;> rfl
def isF:Item->Bool
 |.f ..=>true
 |_=>false
theorem LE:∀(n:Nat) {its:List Item} {e:Env} {H:Heap},(its.take n).all isF=true->Cm P (its.take n) e H KP (λe' H'=>Cm P (its.drop n) e' H' KP KK)->Cm P its e H KP KK
 |0,_,_,_,_,h=>h
 |n+1,[],_,_,_,h=>h
 |n+1,x::r,e,H,hf,h=>by
  simp only[Jai,List.all_cons,Ja6]at hf
  cases x with
  |f d g op=>exact⟨h.1,h.2.1,LE n hf.2 h.2.2⟩
  |p d g f args=>exact absurd hf.1 (by simp[isF])
  |e d g op=>exact absurd hf.1 (by simp[isF])
  |chk d g op=>exact absurd hf.1 (by simp[isF])
theorem Qbpx (n:Nat){H:Heap}(hf:(its.take n).all isF=true)(h:∀B,B=its.drop n->Cm P (its.take n) e H KP (λe' H'=>Cm P B e' H' KP KK)):Cm P its e H KP KK:=LE n hf (h _ rfl)
end
section
variable {P:Program}{e:Env}{its r:List Item}{KK:Env->Heap->Prop}{KP:Value->Heap->Prop}{d:Option Nat}{t:Nat}{w:Bool}{op:FOp}
theorem off0 {b:Bool}(h0:lk t e=.c (.bool b))(h1:(b == w)=false)(h:∀v,Cm P r (Cz d (.gd false v) e) H KP KK):Cm P (.f d (some (t,w)) op::r) e H KP KK:=by
 have hb:gdB e (some (t,w))=false:=by
  simp only[gdB,h0,h1]
 refine⟨by simp only[gdO,h0],λh=>absurd h (by simp[hb]),?_⟩;simp only[hb,gdV];exact h _
theorem offE {b:Bool}{op:EOp}(h0:lk t e=.c (.bool b))(h1:(b == w)=false)(h:Cm P r (Cz d .unk e) H KP KK):Cm P (.e d (some (t,w)) op::r) e H KP KK:=by
 have hb:gdB e (some (t,w))=false:=by
  simp only[gdB,h0,h1]
 exact⟨by simp only[gdO,h0],λh=>absurd h (by simp[hb]),λ_=>h⟩
end
end Go.AE.Y
namespace Go.AE.Y
attribute [local go_sem] cond_true cond_false Bool.not_true Bool.not_false
attribute [local instance] Classical.propDecidable
open Go.Proofs.Tryz
variable {H H0:Heap}{K:Uk}{q p:CodeD}{ks:List NX}{fl:Bool}
section
variable {P:Program}{r:List Item}{e:Env}{KP:Value->Heap->Prop}{KK:Env->Heap->Prop}
theorem Q48 {d t1 t2:Nat}{bb:Bool}(h1:lk t1 e=.c (.bool true))(h:Cm P r ((d,.c (.bool bb))::e) H KP KK) :
  Cm P (.f (some d) none (.pick (.t t1) (.k (.c (.bool bb))) (.t t2))::r) e H KP KK:=by
 refine⟨trivial,λ_=>?_,?_⟩
 ·simp only[FOp.obl,Opd.fine,Opd.v,Opd.raw,h1,gdB,V.bare,V.fine];refine⟨trivial,trivial,?_⟩;cases lk t2 e <;> first|trivial|exact λh=>by cases h
 ·simp only[FOp.val,Opd.v,Opd.raw,h1,V.bare,gdV,Yx,Cz];exact h
theorem LC {d t:Nat}{b:Bool}(h1:lk t e=.c (.bool b))(h:Cm P r ((d,.c (.bool b))::e) H KP KK):Cm P (.f (some d) none (.mv (.t t))::r) e H KP KK:=by
 refine⟨trivial,λ_=>?_,?_⟩
 ·simp only[FOp.obl,Opd.fine,Opd.raw,h1,V.fine]
 ·simp only[FOp.val,Opd.v,Opd.raw,h1,V.bare,gdV,Cz];exact h
end
theorem Qbiq (hs:SkOk q)(hK:∀H',Upd H H' []->K (.ag (skD q).cells) H') :
  Qr prog Vr [.ag [Ui q.params,Ui q.ae,.sl fl 5 (Qo q.blocks)]] H K:=by
 have ho:q.ok:=hs.ok 0;have eV:=ho.b0;have ba:=ho.b1;refine Qy ?_;refine Qd BF Qann ?_;refine Za ?_;intro x1 bU H0 h0;have kn:=(Kn.an H).al bU h0;simp only[go_sem,Qlc];intro x2 aI H1 h1;have kn:=kn.al aI h1;have bU:=kn.l 0 rfl;refine Qb1a (Qa ?_);simp only[go_sem,bU];refine Qba1 (q:=q) ho.b0 ZB ho.cl λz ks H2 cW dq k2=>?_;have kn:=kn.comp0 k2;have bU:=kn.l 0 rfl;simp only[go_sem,Qld,bU];intro H4 h4;have kn:=kn.aB 0 rfl h4;have kn:Kn H H4 [] (skO x1 x2 z q++([(z,.vec 5 (ks.map NX.row))]++ks.flatMap NX.nl)):=kn;refine Qh (Qi ?_);try simp only[go_sem]
 refine Qe (Qw (λmm e1 H1=>∃(i:Nat) (ks:List NX),mm=skW (Nat.repeat skS i q)/\ks.map NX.y=(Nat.repeat skS i q).blocks/\(∀k∈ks,k.ok)/\
  Kn H H1 [] (skO x1 x2 z q++([(z,.vec 5 (ks.map NX.row))]++ks.flatMap NX.nl))/\lk 1 e1=Up x1/\lk 2 e1=Up x2) (skW (Nat.repeat skS 0 q)) ?_ ?_)
 ·exact⟨0,ks,rfl,cW,dq,kn,rfl,rfl⟩
 clear kn bU cW dq k2;rintro mm e1 H5 ⟨i,ks,ez,cW,dq,kn,l1,l2⟩;obtain⟨p,hp⟩:∃p,Nat.repeat skS i q=p:=⟨_,rfl⟩;have nP:p.ok:=by rw[<-hp];exact hs.ok i
 have tI:∀b,b<p.blocks.length->((Qx p b).next.length:Int)=Cq (Qx p b).jump:=by rw[<-hp];exact hs.jn i
 have xK:SkJ p:=by rw[<-hp];exact hs.J i
 have da:p.blocks.length=q.blocks.length:=by rw[<-hp];exact Ha i
 have dV:p.params=q.params/\p.ae=q.ae:=by rw[<-hp];exact FR i
 have hO:skO x1 x2 z q=skO x1 x2 z p:=by rw[skO,skO,dV.1,dV.2,da]
 rw[hp]at ez cW;rw[hO]at kn;have cg:(ks.map NX.row).length=p.blocks.length:=by rw[Je,<-cW,Je]
 have jf:(ks.map NX.row).take p.blocks.length=ks.map NX.row:=Jf ZB;have bU:H5 x1=.st [Ui p.params,Ui p.ae,.ah z 5 0 p.blocks.length]:=kn.l 0 rfl;have hz:H5 z=.vec 5 (ks.map NX.row):=kn.l 2 rfl;refine Qe (Q1 ?_);refine Qa ?_;simp only[go_sem,l1,l2,bU,hz,cg];refine⟨ZB,λ_=>?_⟩;refine Qh (Qe (Qw (λmm e1 H1=>∃(b:Nat),mm=p.blocks.length-b/\b<=p.blocks.length/\(∀c,c<b->¬SkP p c)/\Kn H H1 [] (skO x1 x2 z p++([(z,.vec 5 (ks.map NX.row))]++ks.flatMap NX.nl))/\
  e1=[(1,Up x1),(2,Up x2),(12,.c (.ah z 5 0 p.blocks.length)),(13,.c (Ui p.blocks.length)),(14,Uv b)]) p.blocks.length ?_ ?_))
 ·exact⟨0,ZB,ZB,λc hc=>absurd hc ZB,kn,rfl⟩
 clear kn bU hz;rintro mm2 e2 H6 ⟨b,fw,bu,bD,kn,rfl⟩;have bU:H6 x1=.st [Ui p.params,Ui p.ae,.ah z 5 0 p.blocks.length]:=kn.l 0 rfl;have hz:H6 z=.vec 5 (ks.map NX.row):=kn.l 2 rfl;refine Za ?_;refine Wu ?_ ?_
 ·intro hc;have af:b<p.blocks.length:=by have:(b:Int)<p.blocks.length:=of_decide_eq_true hc;omega
  refine Zc ?_
  have hR:NxR H6 p (.ah z 5 0 p.blocks.length) ks:=.of kn cW dq hz λx hx=>Ja _ (Ja _ hx);obtain⟨w,fD,kV,aC⟩:=hR.at af;obtain⟨o5,d9⟩:=hR.x w fD;refine Wi ?_;simp only[go_sem,hz,cg,jf,af,aC,NX.row,o5];refine⟨ZB,ZB,?_⟩;intro x4 aY H7 h7;have kn:Kn H H7 [] ([(x4,.st [.sl true 2 [],.sl true 4 [],Ui 0,Ui 0,.sl true 1 []])]++(skO x1 x2 z p++([(z,.vec 5 (ks.map NX.row))]++ks.flatMap NX.nl))):=(kn.al aY h7).perm Jr;have aY:=kn.l 0 rfl;simp only[go_sem,Qle,aY];intro H8 h8;have kn:Kn H H8 [] ([(x4,.st [.sl false 2 (Q6 w.y.ab),.sl false 4 (BJ w.y.ins),Ui w.y.jump,Ui w.y.on,w.c])]++(skO x1 x2 z p++([(z,.vec 5 (ks.map NX.row))]++ks.flatMap NX.nl))):=kn.aB 0 rfl h8;have aY:=kn.l 0 rfl;have bU:H8 x1=.st [Ui p.params,Ui p.ae,.ah z 5 0 p.blocks.length]:=kn.l 1 rfl;have hz:H8 z=.vec 5 (ks.map NX.row):=kn.l 3 rfl;have hR:NxR H8 p (.ah z 5 0 p.blocks.length) ks:=.of kn cW dq hz λx hx=>Ja _ (Ja _ (Ja _ hx));refine Q1 ?_;refine Ck (λe2 H2=>∃bb:Bool,(bb=true->¬SkP p b)/\(bb=false->SkP p b)/\Kn H H2 [] ([(x4,.st [.sl false 2 (Q6 w.y.ab),.sl false 4 (BJ w.y.ins),Ui w.y.jump,Ui w.y.on,w.c])]++(skO x1 x2 z p++([(z,.vec 5 (ks.map NX.row))]++ks.flatMap NX.nl)))/\
   e2=[(1,Up x1),(2,Up x2),(3,Uv b),(4,Up x4),(12,.c (.ah z 5 0 p.blocks.length)),(13,.c (Ui p.blocks.length)),(14,Uv b),(50,.c (.bool bb))]) ?_ ?_
  ·intro Q bB _ _;refine BY ?_;simp only[go_sem,bU];refine Qbqk hR af ZB λH9 hu=>?_;have kn:=kn.aw hu;have aY:=kn.l 0 rfl;have bU:H9 x1=.st [.int .i64 p.params,.int .i64 p.ae,.ah z 5 0 p.blocks.length]:=kn.l 1 rfl;have hz:H9 z=.vec 5 (ks.map NX.row):=kn.l 3 rfl;have hR:NxR H9 p (.ah z 5 0 p.blocks.length) ks:=.of kn cW dq hz λx hx=>Ja _ (Ja _ (Ja _ hx));have d9:=(hR.x w fD).2;rw[kV]at d9;have dg:=eq_true d9.ok;have cU:=d9.len;have gD:=d9.sz;have gG:=d9.rows;by_cases hE:EmP p b
   ·rw[decide_eq_true hE];obtain⟨e1,e2,e3,e4⟩:=hE;have cO:(Qx p b).next.length=1:=by
     have:=tI b af;rw[e4]at this;simp[Cq]at this;omega
    have oG:0<(Qx p b).next.length:=ZB;have bm:=Qk (Qx p b).next 0 oG;have qs:(Qx p b).next.getD 0 0=skT p b:=rfl;rw[qs]at bm;have fj:=(nP.bs b af).nx (skT p b) (by rw[<-Cd af,skT,Jb,Jg oG];exact Jd _);obtain⟨m,hm⟩:∃m:Nat,skT p b=m:=⟨(skT p b).toNat,ZB⟩;have iZ:m<p.blocks.length:=ZB;have th:(skT p b).toNat=m:=ZB;obtain⟨k2,fy,mw,lX⟩:=hR.at iZ;rw[hm]at bm;simp only[go_sem,SS,bU,aY,hz,cg,jf,iZ,lX,NX.row,mw,dg,cU,gD,gG,bm,cO,o5,Q0,Qc];refine⟨ZB,λ_=>ZB,λ_=>ZB,λ_=>ZB,λbA=>?_,λbA=>?_⟩
    ·have ef:¬(m:Int)=(b:Int)/\(Qx p m).ab=[]:=by
      by_cases h1:(m:Int)=(b:Int)
      ·rw[decide_eq_true h1]at bA;simp at bA
      ·rw[decide_eq_false h1]at bA;refine⟨h1,List.eq_nil_of_length_eq_zero ?_⟩;have:¬(0<((Qx p m).ab.length:Int)):=ZT;omega
     have jh:(bif decide ((m:Int)=(b:Int))then true else decide (0<((Qx p m).ab.length:Int)))=false:=by
      rw[decide_eq_false ef.1,ef.2];rfl
     refine Nt (nx:=gnx p) hR.s hR.ow hR.no (λj hj=>by
      obtain⟨a1,a2,a3,a4,a5,h1,h2,h3⟩:=hR.hx j hj;exact⟨a1,a2,a3,a4,a5,h1,h3⟩) λfl2 H10 hu=>?_
     have kn:=kn.aw hu;have epr:DP (gnx p) (b:Int) (ks.map NX.row).length=Qz (gnx p) (b:Int) p.blocks.length:=by
      rw[cg,DP];have h1:decide ((0:Int)<=b)=true:=decide_eq_true ZB;have h2:decide ((b:Int)<=(p.blocks.length:Int)-1)=true:=decide_eq_true ZB;rw[h1,h2];rfl
     rw[epr];simp only[go_sem,ST,jh,Qc];try intro _
     refine bB _ _ ⟨_,λh=>?_,λh=>?_,kn,rfl⟩
     ·have h:=of_decide_eq_true h;exact λhs=>hs.pr (List.eq_nil_of_length_eq_zero ZB)
     ·have h:=of_decide_eq_false h;exact⟨e1,af,e2,e3,e4,by rw[hm];exact ef.1,by rw[th];exact ef.2,λhh=>h (by rw[hh];rfl)⟩
    ·have jh:(bif decide ((m:Int)=(b:Int))then true else decide (0<((Qx p m).ab.length:Int)))=true:=by
      revert bA;cases (bif decide ((m:Int)=(b:Int))then true else decide (0<((Qx p m).ab.length:Int))) <;> simp
     simp only[go_sem,ST,jh];try intro _
     refine bB _ _ ⟨true,λ_ hs=>?_,(λh=>by cases h),kn,rfl⟩;have h1:=hs.ne;have h2:=hs.tp;rw[hm]at h1;rw[th]at h2;rw[decide_eq_false h1,h2]at jh;simp at jh
   ·rw[decide_eq_false hE];have jG:¬SkP p b:=λh=>hE ⟨h.b0,h.ph,h.ins,h.j⟩;rw[Kt];refine Qbpx 2 rfl λB hB=>?_;simp only[SS,Jai,Jbb];simp only[go_sem];simp only[hB,SS,List.drop_succ_cons,Ja1]
    iterate 6 refine off0 rfl rfl λv=>?_
    refine Q48 rfl ?_;refine LC rfl ?_
    iterate 11 refine off0 rfl rfl λv=>?_
    refine Q48 rfl ?_;refine LC rfl ?_
    iterate 2 refine off0 rfl rfl λv=>?_
    refine offE rfl rfl ?_;simp only[ST]
    iterate 2 refine off0 rfl rfl λv=>?_
    refine Q48 rfl ?_;simp only[go_sem];exact bB _ _ ⟨true,λ_=>jG,(λh=>by cases h),kn,rfl⟩
  clear hR kn hz bU aY h8;rintro e2 H10 ⟨bb,mN,pE,kn,rfl⟩;refine Wu ?_ ?_
  ·intro aD;have kn:=(kn.perm Jr).drop;refine Qu ?_;simp only[go_sem];refine Zg ?_;refine⟨Qs,p.blocks.length-(b+1),ZB,b+1,rfl,ZB,λc hc=>?_,kn,rfl⟩;by_cases fK:c=b
   ·rw[fK];exact mN aD
   ·exact bD c ZB
  ·intro aD;have lU:=pE aD;have hF:=N7 lU bD;have fE:=FS xK hF;have cO:(Qx p b).next.length=1:=by
    have:=tI b af;rw[lU.j]at this;simp[Cq]at this;omega
   have aY:=kn.l 0 rfl;have d9:Slc H10 1 (Qb w.y.next) w.c:=Gr.slcM (dq w fD) kn λx hx=>Ja _ (Ja _ (Ja _ (Jm.2 ⟨w,fD,hx⟩)));rw[kV]at d9;have dg:=eq_true d9.ok;have cU:=d9.len;have gD:=d9.sz;have gG:=d9.rows;have oG:0<(Qx p b).next.length:=ZB
   have bm:=Qk (Qx p b).next 0 oG;have qs:(Qx p b).next.getD 0 0=skT p b:=rfl;rw[qs]at bm;have hI:=SkI.zero cW dq;refine Zc ?_
   refine Qa ?_;simp only[go_sem,aY,dg,cU,gD,gG,bm,cO,o5,Qc];refine⟨ZB,?_⟩;have kn:=(kn.perm Jr).drop;clear aY d9 dg cU gD gG bm cg jf;have cg:(ks.map NX.row).length=p.blocks.length:=ZaU
   have bU:H10 x1=.st [Ui p.params,Ui p.ae,.ah z 5 0 p.blocks.length]:=kn.l 0 rfl;have hz:H10 z=.vec 5 (ks.map NX.row):=kn.l 2 rfl;refine Q1 (Qa ?_);simp only[go_sem,bU,hz,cg];refine⟨ZB,λ_=>?_⟩;clear bU hz cg;refine Qh (Qe (Qw (λmm e1 H1=>∃(j:Nat) (ks:List NX),mm=p.blocks.length-j/\j<=p.blocks.length/\SkI p j 0 ks/\Kn H H1 [] (skO x1 x2 z p++([(z,.vec 5 (ks.map NX.row))]++ks.flatMap NX.nl))/\
    e1=[(1,Up x1),(2,Up x2),(3,Uv b),(5,Uv (skT p b)),(57,.c (Ui p.blocks.length)),(58,Uv j)]) p.blocks.length ?_ ?_))
   ·exact⟨0,ks,ZB,ZB,hI,kn,rfl⟩
   clear kn hI;rintro mm3 e3 H11 ⟨j,ks,qS,hj,hI,kn,rfl⟩;refine Za ?_;refine Wu ?_ ?_
   ·intro rB;have cN:j<p.blocks.length:=(by have:(j:Int)<p.blocks.length:=of_decide_eq_true rB;omega);refine Zc ?_
    refine Wg ?_;have cg:(ks.map NX.row).length=p.blocks.length:=ZaU;have jf:(ks.map NX.row).take p.blocks.length=ks.map NX.row:=Jf ZB;have bU:H11 x1=.st [Ui p.params,Ui p.ae,.ah z 5 0 p.blocks.length]:=kn.l 0 rfl;have hz:H11 z=.vec 5 (ks.map NX.row):=kn.l 2 rfl;obtain⟨w,gk,hw,fD,aC,eQ,kW⟩:=hI.at cN;have fQ:w.y.next.length=(gnx p j).length:=(by rw[eQ,EN]);have ck:=(nP.bs j cN).nxl;rw[<-Cd cN,<-D2 cN]at ck;have o5:=Gr.ai kW;have d9:Slc H11 1 (Qb w.y.next) w.c:=Gr.slcM kW kn λx hx=>Ja _ (Ja _ (Jm.2 ⟨w,fD,hx⟩));have dg:=eq_true d9.ok;have cU:=d9.len;refine Qa ?_;simp only[go_sem,bU,hz,cg,jf,cN,aC,o5,dg,cU,Qc,fQ];refine⟨ZB,ZB,λ_=>?_⟩;obtain⟨cw,sy⟩:∃c,w.c=c:=⟨_,rfl⟩;rw[sy];refine Qe (Qw (λmm e1 H1=>∃(k:Nat) (ks:List NX) (w:NX),mm=(gnx p j).length-k/\k<=(gnx p j).length/\SkI p j k ks/\(∃h:j<ks.length,ks[j]=w)/\w.c=cw/\Kn H H1 [] (skO x1 x2 z p++([(z,.vec 5 (ks.map NX.row))]++ks.flatMap NX.nl))/\
     e1=[(1,Up x1),(2,Up x2),(3,Uv b),(5,Uv (skT p b)),(6,Uv j),(57,.c (Ui p.blocks.length)),(58,Uv j),(66,.c cw),(67,.c (Ui (gnx p j).length)),(68,Uv k)]) (gnx p j).length ?_ ?_)
    ·exact⟨0,ks,w,ZB,ZB,hI,⟨gk,hw⟩,sy,kn,rfl⟩
    clear kn hI bU hz jf cg d9 dg cU o5 kW eQ fQ aC fD;rintro mm4 e4 H12 ⟨k,ks,w,AL,hk,hI,⟨gk,hw⟩,sy,kn,rfl⟩;refine Za ?_;refine Wu ?_ ?_
    ·intro jM;have fk:k<(gnx p j).length:=(by have:(k:Int)<(gnx p j).length:=of_decide_eq_true jM;omega);refine Zc ?_
     have fD:w∈ks:=(by rw[<-hw];exact Jd gk);have kW:w.ok:=hI.ok w fD;have eQ:w.y.next=nxS p j k j:=(by rw[<-hw,hI.y j gk]);have fQ:w.y.next.length=(gnx p j).length:=(by rw[eQ,EN]);obtain⟨y,iF,kV⟩:=NX.arr kW ZB;rw[fQ]at iF;have uD:cw=.ah y 1 0 (gnx p j).length:=sy.symm.trans iF;subst uD;have cg:(ks.map NX.row).length=p.blocks.length:=ZaU;have jf:(ks.map NX.row).take p.blocks.length=ks.map NX.row:=Jf ZB;have bU:H12 x1=.st [Ui p.params,Ui p.ae,.ah z 5 0 p.blocks.length]:=kn.l 0 rfl;have hz:H12 z=.vec 5 (ks.map NX.row):=kn.l 2 rfl;have aC:(ks.map NX.row).getD j []=[.sl false 2 (Q6 w.y.ab),.sl false 4 (BJ w.y.ins),Ui w.y.jump,Ui w.y.on,.ah y 1 0 (gnx p j).length]:=by
      rw[<-iF,<-hw];simp[Jb,gk,NX.row]
     have hy:H12 y=.vec 1 (Qb w.y.next):=(kn.get (y,.vec 1 (Qb w.y.next)) (Ja _ (Ja _ (Ja _ (Jm.2 ⟨w,fD,by rw[kV];simp⟩))))).1;have bm:=Qk w.y.next k ZB;rw[eQ,Hg fk]at bm;rw[<-eQ]at bm;have wV:(Qb w.y.next).take (gnx p j).length=Qb w.y.next:=Jf ZS;refine Ck (λe2 H2=>∃(ks:List NX) (w:NX),SkI p j (k+1) ks/\(∃h:j<ks.length,ks[j]=w)/\w.c=.ah y 1 0 (gnx p j).length/\Kn H H2 [] (skO x1 x2 z p++([(z,.vec 5 (ks.map NX.row))]++ks.flatMap NX.nl))/\
      lk 1 e2=Up x1/\lk 2 e2=Up x2/\lk 3 e2=Uv b/\lk 5 e2=Uv (skT p b)/\lk 6 e2=Uv j/\lk 57 e2=.c (Ui p.blocks.length)/\lk 58 e2=Uv j/\lk 66 e2=.c (.ah y 1 0 (gnx p j).length)/\lk 67 e2=.c (Ui (gnx p j).length)/\lk 68 e2=Uv k) ?_ ?_
     ·intro Q bB _ _;refine Qe (Qa ?_);simp only[go_sem,hy,bm,wV,Qc,fQ,fk];refine⟨ZB,ZB,?_⟩;refine Za ?_;refine Wv ?_ ?_
      ·intro hv;have hv:(gnx p j)[k]=(b:Int):=Za0;have qr:skG p (gnx p j)[k]=skT p b:=ZaE;refine Qp ?_;simp only[go_sem,bU,hz,cg,jf,cN,aC,hy,Qc,fQ,fk];refine⟨ZB,ZB,ZB,ZB,?_⟩;rw[Jj,bm];intro H9 h9;have e:(Qb w.y.next).set k [Ui (skT p b)]=Qb (nxS p j (k+1) j):=(by rw[Fg,eQ,Hz fk,qr]);have h9:H9=H12.set y (.vec 1 ((Qb w.y.next).set k [Ui (skT p b)])):=h9;rw[e]at h9;exact bB _ _ ⟨_,_,hI.step gk hw iF rfl,⟨by rw[J1];exact gk,Jar _⟩,iF,Mo kn gk hw kV KQ rfl h9,rfl,rfl,rfl,rfl,rfl,rfl,rfl,rfl,rfl,rfl⟩
      ·intro hv;have hv:¬(gnx p j)[k]=(b:Int):=Za0;have qr:skG p (gnx p j)[k]=(gnx p j)[k]:=ZaE;refine Zc ?_
       exact bB _ _ ⟨ks,w,hI.same fk qr,⟨gk,hw⟩,iF,kn,rfl,rfl,rfl,rfl,rfl,rfl,rfl,rfl,rfl,rfl⟩
     ·rintro e2 H9 ⟨ks2,w2,rN,lN,wG,kn2,l1,l2,l3,l5,l6,l57,l58,l66,l67,l68⟩;refine Qp ?_;simp only[go_sem,X.next,l1,l2,l3,l5,l6,l57,l58,l66,l67,l68];exact⟨Qs,(gnx p j).length-(k+1),ZB,k+1,ks2,w2,rfl,ZB,rN,lN,wG,kn2,rfl⟩
    ·intro jM;have iL:k=(gnx p j).length:=(by have:¬(k:Int)<(gnx p j).length:=of_decide_eq_false jM;omega);rw[iL]at hI;refine Zb ?_;refine Zg ?_;exact⟨Qs,p.blocks.length-(j+1),ZB,j+1,ks,rfl,ZB,hI.row,kn,rfl⟩
   ·intro rB;have jX:j=p.blocks.length:=(by have:¬(j:Int)<p.blocks.length:=of_decide_eq_false rB;omega);rw[jX]at hI;refine Zb ?_;refine Qu ?_;rw[HE (rfl:((1:Nat) == 3)=false)];simp only[go_sem,X.next];rw[HE (rfl:((1:Nat) == 2)=false)];simp only[go_sem,X.next];refine⟨skW (skS p),ZB,i+1,ks,?_,?_,hI.ok,by rw[hO];first|exact kn|exact⟨kn,rfl,rfl⟩|exact⟨kn,rfl⟩⟩
    ·show _=skW (skS (Nat.repeat skS i q));rw[hp]
    ·show _=(skS (Nat.repeat skS i q)).blocks;rw[hp];exact hI.end
 ·intro hc;have jx:b=p.blocks.length:=by have:¬(b:Int)<p.blocks.length:=of_decide_eq_false hc;omega
  have sG:skF p=none:=N8 λc hc=>bD c ZB;have xL:p=skE q:=ZaS
  have Al:skD q=drpE p:=by rw[skD,<-xL]
  refine Zb ?_;obtain⟨S,H6,eE,kn⟩:=Mv kn cW dq;refine Q1 (c_gh (E7 S (Fi ?_) eE) (e':=[(1,Up x1),(2,Up x2)]) ?_)
  ·simp only[Jn];exact⟨.c _ _ (.same _ rfl),.c _ _ (.same _ rfl),ZD⟩
  have bU:=kn.l 0 rfl;refine Zj bU ?_;refine Qawl nP λH7 hu=>?_;have kn:=kn.aw hu;have aI:H7 x2=.st [Ui 0,Ui 0,.sl true 5 []]:=kn.l 1 rfl;simp only[go_sem,Qi8,CodeD.cells,aI];intro H8 h8;have kn:=kn.aB 1 rfl h8;have aI:=kn.l 1 rfl;refine Ql ?_;simp only[go_sem,X.next,Q4,BE,Jc,forall_eq,RS.op,aI];rw[Al]at hK;exact⟨_,FrzL.ag (.cons (.same _ rfl) (.cons (.same _ rfl) (.cons (.same _ rfl) .nil))),hK _ kn.fin⟩
end Go.AE.Y
namespace Go.AE.Y
variable {cs:List CodeD}{S u u' u2:Nat}{X Y Z:Cf}{e:Int}{s c:List Int}
def Goes (cs:List CodeD)(S u:Nat)(X:Cf)(u':Nat)(Y:Cf):Prop:=u<=u'/\u'<=S/\C5 cs (u'-u) X=Y
def Halts (cs:List CodeD)(S u:Nat)(X:Cf)(e:Int)(s c:List Int):Prop:=
 u<=S/\((e=3/\∃fs,C5 cs (S-u) X=.go fs s c)\/(¬e=3/\∃n,n<=S-u/\C5 cs n X=.dn e 0 s c))
theorem Goes.refl (h:u<=S):Goes cs S u X u X:=⟨Ji _,h,by rw[Jbd];rfl⟩
theorem Goes.trans (h:Goes cs S u X u' Y)(k:Goes cs S u' Y u2 Z):Goes cs S u X u2 Z:=by
 obtain⟨h1,h2,h3⟩:=h;obtain⟨k1,k2,k3⟩:=k;refine⟨ZB,k2,?_⟩;rw[show u2-u=(u'-u)+(u2-u')by omega,Il,h3,k3]
theorem Goes.halts (h:Goes cs S u X u' Y)(k:Halts cs S u' Y e s c):Halts cs S u X e s c:=by
 obtain⟨h1,h2,h3⟩:=h;obtain⟨k1,k2⟩:=k;refine⟨ZB,?_⟩;rcases k2 with ⟨k2,fs,k3⟩|⟨k2,n,k3,k4⟩
 ·exact .inl ⟨k2,fs,by rw[show S-u=(u'-u)+(S-u')by omega,Il,h3,k3]⟩
 ·exact .inr ⟨k2,(u'-u)+n,ZB,by rw[Il,h3,k4]⟩
theorem Goes.one (h:u<S)(hs:step cs X=Y):Goes cs S u X (u+1) Y:=⟨ZB,ZB,by
 rw[Jaa];exact hs⟩
theorem Halts.fuel {fs:List Fr}:Halts cs S S (.go fs s c) 3 s c:=⟨Ji _,.inl ⟨rfl,fs,by rw[Jbd];rfl⟩⟩
theorem Halts.one (h:u<S)(he:¬e=3)(hs:step cs X=.dn e 0 s c):Halts cs S u X e s c:=⟨ZB,.inr ⟨he,1,ZB,hs⟩⟩
theorem Qbse {l:List Int}(h:Halts cs S 0 (cf0 cs l) e s c):outR cs l S=(e,0,s,c):=by
 obtain⟨_,⟨rfl,fs,h⟩|⟨_,n,h1,h2⟩⟩:=h
 ·rw[Jbe]at h;rw[outR,h]
 ·rw[outR,RV cs h2 ZB]
theorem Y5 {l:List Int}{v:Int}(h:Goes cs S 0 (cf0 cs l) u' (.dn 0 v s c)):outR cs l S=(0,v,s,c):=by
 obtain⟨_,h1,h2⟩:=h;rw[Jbe]at h2;rw[outR,RV cs h2 h1]
def byI (v:Int):Prop:=0<=v/\v<=255
def byL (l:List Int):Prop:=∀v∈l,byI v
theorem byL.get {l:List Int}(h:byL l)(i:Nat):byI (l.getD i 0):=by
 rw[Jb];by_cases hi:i<l.length
 ·rw[Jg hi];exact h _ (Jd hi)
 ·rw[Jaq ZB];exact⟨ZD,ZD⟩
theorem byL.rg {l:List Int}(h:byL l)(r:Int):byI (rg l r):=h.get _
theorem byL.set {l:List Int}(h:byL l){v:Int}(hv:byI v)(i:Nat):byL (l.set i v):=λx hx=>by
 rcases J3 hx with hx|rfl
 ·exact h x hx
 ·exact hv
theorem byL.app {l:List Int}(h:byL l){v:Int}(hv:byI v):byL (l++[v]):=λx hx=>by
 rcases Jq.1 hx with hx|hx
 ·exact h x hx
 ·rw[Jc]at hx;subst hx;exact hv
theorem GP (b:Prop) [Decidable b]:byI (trI b):=by rw[trI];split <;> exact⟨ZB,ZB⟩
theorem Qb4j {op a b v:Int}(ha:byI a)(hb:byI b)(h:arR op a b=some v):byI v:=by
 have hm:∀x:Int,byI (x % 256):=λx=>⟨ZB,ZB⟩;rw[arR]at h;split at h
 ·cases h;exact hm _
 ·split at h
  ·cases h;exact hm _
  ·split at h
   ·cases h;exact hm _
   ·split at h
    ·split at h
     ·cases h
     ·cases h;obtain⟨a1,a2⟩:=ha;obtain⟨b1,b2⟩:=hb;exact⟨Int.ediv_nonneg a1 b1,Int.le_trans (Int.ediv_le_self _ a1) a2⟩
    ·split at h
     ·split at h
      ·cases h
      ·rename_i eV
       cases h;obtain⟨b1,b2⟩:=hb;exact⟨Int.emod_nonneg _ eV,by have:=Int.emod_lt_of_pos a (show 0<b by omega);omega⟩
     ·split at h
      ·cases h;exact GP _
      ·split at h <;> (cases h;exact GP _)
theorem Qbvq {q:CodeD}{l:List Int}(h:byL l):byL (C9 q l):=λx hx=>by
 rcases Jq.1 hx with hx|hx
 ·exact h x hx
 ·rw[J0 hx];exact⟨ZB,ZB⟩
end Go.AE.Y
namespace Go.AE.Y
open Go.Proofs.Tryz
def Qi3:=dY 4313698433 Sw
def Q5x:=dZ 0x7211011ed4160621 .skip Qi3
def Q5y:=dZ 0x19093121010dd11603212 Po Iq Q5x
def Qag5:=dZ 0x911014f0090121 Q5y
theorem Qaft:mFn prog V1 1 9 Qag5 BH=true:=ZF
def Qnm:=dY 3735713
def Qnn:=dY 79885033473 Qnm
def Qno:=dY 0x1170017432f099f51b40b129f1900d4 Qnn
def Qnp:=dY 0x9900c1
def Qnq:=dY 0x189b84e001 Qnp
def Qnr:=dY 0x1170017432f0b9f41b30b189f790144 Qnq
def SU:=dY 0x7a0089f2f0e9a03f33da0f263
def Qahc:=dZ 0x7811012204403fb844460f9844460f03d00f036f023d40f03d10f9813d20f002f01ac83700f00a801ac1 .skip SU
def Qahd:=dZ 0x9000941ea609f0131fd28058161531 Qahc Qnr
def Qahe:=dZ 0x903224101231fd38028048160e41 Qahd Qno
def Qawm:=dZ 0x90002402f0089f39390431 Qahe
theorem Qavr:mFn prog Vf 4 40 Qawm C4=true:=ZF
def Q58:=dZ 0x7210b80029f0100204331f01405013020110203a1
def Qahq:=dZ 0x91100f0090121 Q58
theorem Qafx:mFn prog Qnd 1 12 Qahq BH=true:=ZF
def TC:=dY 3080305
def Qan5:=dZ 0x8706210684e01700174d1f0f210e3 .skip TC
def Qrh:=dY 6881425
def Qri:=dY 92753158145 Qrh
def Qrj:=dY 0x1170017432f089f51b40b159f490104 Qri
def Qrk:=dY 4128881
def Qan6:=dZ 0x706210684e88461721 .skip Qrk
def Qan7:=dZ 0x9162101232ad28018038161141 Qan6 Qrj
def Qaha:=dZ 0x19097200151012329d2801806160a412 Qan5 Sp Qan7
def Qa29:=dZ 0x9200141170017432f069f290321 Qaha TC
abbrev Tf:List RS:=[.cell 6 4 true,.tmp 7]
theorem Qa1v:mFn prog Q1i 3 24 Qa29 Tf=true:=ZF
def Qhq:=dY 0xe90049f2f05a1e2
def Qhr:=dY 0x1022383103f03110f3833120f03110f2833120f002f05a0222340f02310f3822320f02310f2822320f002f05a0221540f01510f3811520f01510f2811520f000a14f Qhq
def Q2t:=dZ 0x741102238d01302012020551 .skip Qhr
def Qabs:=dZ 0x902202f019190231 Q2t
theorem Qabj:mFn prog Qj8 2 31 Qabs BG=true:=ZF
def Qnv:=dY 0x290069f2f02a122
def Qnw:=dY 0x1ea609f0f03211f03f281f00f002f04a0e4 Qnv
def Qnx:=dY 0x1022491303f0d1 Qnw
def Qny:=dY 0x1011e1303f711360f181300f00094 Qnx
def Qah0:=dZ 0x7611010dd3160721 .skip Qny
def Qaxj:=dZ 0x9001302f0069f290321 Qah0
theorem Qavw:mFn prog Qw5 3 19 Qaxj BN=true:=ZF
def Qsp:=dY 9371761
def Qsq:=dY 0xd8881e001
def Qsr:=dY 5120389249 Qsq
def Vu:=dY 69229158658
def Qss:=dY 0x201e98321b2
def Qst:=dY 0x149a91e391414f881114f003 Qss
def Qsu:=dY 0xd90881d14f072
def Qap4:=dZ 0x706211684e88198461c303010201000504a2 .skip Qsu
def Qap5:=dW 0x9016310137d199f98021a9f08f04207881010320788111a0c0b0a0300080907060504030201000f0dad22 [Qap4] [Qst] [fI 24 (.aslp 16 (.t 23) none)]
def Qap6:=dZ 0x901631014ad44838544be1f0e21 Qap5 Vu
def Qahv:=dZ 0x90110350170017432f0911 Qap6
def Qahw:=dW 0x9110341052f08f2806160a41 [Qahv] [Qsr] [fI 12 (.bld [.sl true 3 [],.int .i64 0,.int .i64 0,.sl true 1 [],.int .i64 0,.int .i64 0,.int .i64 0,.int .i64 0,.int .i64 0,.int .i64 0,.int .i64 0,.int .i64 0,.int .i64 0,.int .i64 0,.int .i64 0,.int .i64 0,.int .i64 0,.int .i64 0,.int .i64 0,.int .i64 0,.sl true 1 []] [(0,1,.t 10),(1,1,.t 11)])]
def Qa3n:=dZ 0x9100241170017432f069f29290331 Qahw Qsp
theorem Qa11:mFn prog Q1n 3 30 Qa3n Tf=true:=ZF
def Qrl:=dY 0xd80049f2f03a01380f0c3
def Qaoa:=dW 0x741108f081300f0001245005400571 [] [Qrl] [.e (some 11) (some (9,true)) (.call V7 [.t 10,.k (.c (.fn V0 []))])]
def Qa3h:=dZ 0x900202f00411 Qaoa
theorem Qa1w:mFn prog Q1j 2 14 Qa3h BG=true:=ZF
def Qi7:=dY 69230272690
def Qahx:=dZ 0x13f01544cd611f0140501302310470 .skip Qi7
theorem Qafy:mFn prog Qne 4 12 Qahx Cp=true:=ZF
def Qf5:=dY 0xb9983e001
def Qf6:=dY 0xe9a81e001
def Qf7:=dY 74913607841 Qf6
def Qf8:=dY 0x201e08f772b3 [] [fJ 44 20 43]
def Q0a:=dW 0x80005206102122f011cb800108f070800802380223 [] [Qf8] [fJ 38 20 37]
def Qf9:=dY 7474634753
def Qga:=dY 0xebe81e001
def Qgb:=dY 4315082977 Qga
def Qgc:=dY 0x101277dc803d2 Qgb
def Qgd:=dY 2883825
def Qfh:=dY 0xac192e8c0102
def Qv2:=dZ 0x44f1100520a0101e4613010113090f80011902a814b9909f
def Qv3:=dZ 0x44f1100520a03d0469f1f6c045320
def Qv4:=dZ 0x19090044f001100520c1170232f119f02624231048410342 Qv2 Qfh Qv3
def Qsv:=dZ 0x90247b00044f1100520b010444711 Qv4
def Qv5:=dZ 0x950240044f1100520a00f00501d8024341 Qsv
def Qv6:=dZ 0x911005207101278de8a8279e1f01d8023f41 Qv5 Qgd
def Qv7:=dZ 0x80901005207101232db8098363a31393 Qv6 Qgc
def Qfi:=dY 0xad394e001
def Qv8:=dZ 0x55f1005209001237ada8139460805b40
def Qv9:=dZ 0x55f10052090fd0579f1f7045f20
def Qwa:=dZ 0x19090055f5100520a101700432f139f046134359310542 Qv8 Qfi Qv9
def Qsw:=dZ 0x90458b00055f100520a010445811 Qwa
def Qwb:=dZ 0x520606e00b9f010f01301d8426350000520607f5f00b9f011f01301d8427c50703
def Qwc:=dZ 0x970f010520707b5f0709f2f06a0f02e940f0e910f021e930f0e910fd83e920fa8e910f00026f02401d82271c17810fe0089f01021301d832a816b61673 Qwb
def Qwd:=dZ 0x967f01052070ae0679f036f02401d8226841064 Qwc
def Qwe:=dZ 0x9010520602e00c9fb806221 Qwd
def Qwf:=dZ 0x910052060017bd0806021 Qwe
def Qwg:=dZ 0x190950440055f100520900f00501d81254412 Qsw [] Qwf
def Qwh:=dZ 0x190939f0000520802f04a0f066940f06950f06910fd806920f000f074c8032812 Qv7 [] Qwg
def Qwi:=dZ 0x900005207117004727532f0d9f0560153b800198222d61 Qwh Qf9
def Qsx:=dZ 0x190922f0005207038022112014 Q0a [] Qwi
def Qwj:=dZ 0x95004000520607f00f00b21 Qsx
def Qwk:=dW 0x905204008f280a811f31 [Qwj] [] [eI 33 (.cpy 1 (.t 31) (.t 32))]
def Qwl:=dW 0x9050105108f0198121c31 [Qwk] [Qf7] [eI 30 (.mks 1 [.int .i64 0] (.t 29))]
def Qwm:=dZ 0x95010415700332f099f036013318001002002070801491 Qwl Qf5
def Q6a:=dZ 0x90000400f00811 Qwm
theorem Q5i:mFn prog Qin 4 128 Q6a C4=true:=ZF
def Qi4:=dY 0x580029f08052
def Q53:=dZ 0x7211016bd200321 .skip Qi4
def Qahi:=dZ 0x90102f00211 Q53
theorem Qafu:mFn prog V0 1 6 Qahi BH=true:=ZF
def Qpf:=dZ 0x7410c80049f010513010113510121231059909f2
def Qwn:=dZ 0x9001300f0290321 Qpf
theorem Qvy:mFn prog SV 3 13 Qwn BG=true:=ZF
def Qfj:=dY 0x101e6ca13010752e14f582c14f336
def Qfk:=dY 0x1022a7d42e14f582c14f323 Qfj
def Qfl:=dY 4326585314
def Qfm:=dY 0x11f0142f6803c2 Qfl
def Qfn:=dY 69300900785 Qfm
def Qfo:=dY 0x201e0321c74a3
def Qfp:=dY 0x103122f011c34514f483 Qfo
def Qfq:=dY 0x9d0071
def Qfr:=dY 0x104122f011c582 Qfq
def Qwo:=dZ 0x50f000307101142f8806807805440 .skip Qfr
def Qsy:=dZ 0x50f0003070ad0519f1f1d045a20
def Qsz:=dZ 0x1909050f000030803d0089f1053210242 Qwo [] Qsy
def Qpg:=dZ 0x90152b0050f000308010445211 Qsz
def Qed:=dY 0x101e571365d14f585b14f634
def Qs0:=dZ 0x12f01344cd7800148320800148125815b80908020007060504030201000c0aa .skip Qed
def Qs1:=dZ 0x19095014050f00030700f0050148224e412 Qpg [] Qs0
def Qee:=dY 0x101e241336814f586614f6b4
def Qef:=dY 0x201e571371b60b759f745f0705f7114f586f14f6e7
def Qeg:=dY 0x10f00b6f3a8d37114f586f14f743 Qef
def Qeh:=dY 0x990890099f091b70b189f790105
def Qei:=dY 0x10243a8d51214f172 Qeh
def Qej:=dY 0x11f0142f41214f162 Qei
def Qs2:=dZ 0x8304301f1a9d1c101b3
def Qs3:=dZ 0x101e13139800148125811d60
def Qs4:=dZ 0x19091bf3044008a801a212 Qs2 [] Qs3
def Qs5:=dW 0x90304420f0142f149f680159f6800148021150b0a0908070601050103040201000e0ca2010f0142f6800148125816f50a09080706020005020004030201000f0ba6c3 [Qs4] [Qeg,Qej]
def Qs6:=dZ 0x96cf00440de06c9f0a6ff8246d21010f0142f6800148125816650605020004030201000907a643 Qs5 Qee
def Qs7:=dZ 0x1964f8004505e0649f026ff824652109000305014f007114c3 Qs1 [] Qs6
def Qs8:=dZ 0x94cf8003060dc04c9f0e6ff8244d21010f0142f68001032070800804170b0a09080704060504030201000d0ca3f3 Qs7 Qfp
def Qs9:=dZ 0x93ff80030600c03f9f0d6ff8244021010f0142f6800803830363 Qs8 Qfn
def Qta:=dZ 0x936f80030607b0369f0c6ff8243721010f0142f6800800148125812c60a09080702000602000504030201000f0ba2a3 Qs9 Qfk
def Qtb:=dZ 0x92af8003060ba02a9f0b6ff8242b2100101e24130148320148125812470223 Qta
def Qtc:=dZ 0x922f80030603a0229f1ff8242321004 Qtb
def Qtd:=dZ 0x980030500148020e21 Qtc
def Qte:=dZ 0x9003040d80069f4872a6e1f0d21 Qtd
def Qtf:=dZ 0x903030017bd0800b21 Qte
def Q3b:=dZ 0x90303029290421 Qtf
theorem Q18:mFn prog Qha 3 120 Q3b Cp=true:=ZF
def Q0b:=dZ 0x8010036f1a9d0b100a3
def Q0c:=dZ 0x201e022471f00401022070800c80
def Q6b:=dZ 0x190990200424010120750010220710029909f22 Q0b [] Q0c
theorem Q5j:mFn prog Qio 1 19 Q6b Cp=true:=ZF
def Qmt:=dZ 0x7410c80049f010513010113700132231059909f2
def Qtg:=dZ 0x9000300f00411 Qmt
theorem Qqu:mFn prog Qb9 3 13 Qtg BG=true:=ZF
def Qz7:=dZ 0x80020026f1a9d0710063
def Qz8:=dW 0x7410c80049f08f0421770700861 [] [] [fI 12 (.iaa 1 16 (.t 11) (.t 9))]
def Qz9:=dZ 0x190940030106f0743005212 Qz7 [] Qz8
def Q59:=dZ 0x900208f00411 Qz9
theorem Q5h:mFn prog Qim 2 13 Q59 BG=true:=ZF
def Qa3a:=dZ 0x1df0500060f901d9f076f98241f2081d3
def Qa3b:=dZ 0x8706202f00f00621213
def Qa3c:=dZ 0x8706203f06a0069f01942801802451233
def Qa3d:=dZ 0x706203f09a0069f01a42801802751
def Qa3e:=dZ 0x190923f0130066f02408022212 Qa3c [] Qa3d
def Q2x:=dY 0x3f00b0062
def Q2y:=dY 0x3f07b0062
def Qawv:=dY 0x3f01c0062
def Qa3f:=dZ 0x87062106142f2f02a0f037b40f287b00f000f0341808803a81383 .skip Qawv
def Qa3g:=dZ 0x938f501409b0389f0a6f982439217062103142f01242801808803351313 Qa3f Q2y
def Qawn:=dZ 0x931f0501502b0319f096f982432217062103142f01442801808802c512a3 Qa3g Q2x
def Q2v:=dW 0x292af050150ba02a9f086f98242b21190921f000400f024280202121d3 [Qa3b,Qa3e,Qawn] []
def Qawo:=dZ 0x19091df0500060e901d9f066f98241e212706203f0c90069f01009f0a401842801801961173 Qa3a [] Q2v
def Qawp:=dZ 0x9d0500060890179f056f98241821706203f0690069f01009f0a401009f00401142801801271103 Qawo
def Qawq:=dZ 0x960500060190109f046f7241121706203f0f80069f01009f0a401042801800c610a3 Qawp
def Qawr:=dZ 0x900500060b800a9f036f1240b21004 Qawq
def Qxt:=dY 0x3f05c0062
def Q2w:=dZ 0x7062102142f0f0241808804241 .skip Qxt
def Qaws:=dZ 0x1909050005008009112 Qawr [] Q2w
def Qawt:=dW 0x950004008f0811 [Qaws] [] [fI 8 (.mv (.k (.c (.fn SM []))))]
def Qbmt:=dZ 0x9000302f00f00621 Qawt
abbrev IL:List RS:=[.tmp 6,.tmp 7]
theorem Nq:mFn prog Tw 3 70 Qbmt IL=true:=ZF
theorem Qavs:mFn prog SM 1 4 Kp BH=true:=ZF
def Qth:=dY 0x98583e001
def Qtj:=dY 0x104122f011c0e2 Sd
def Qaqb:=dW 0x220410137d08f080600a40d2 [] [Qtj] [fI 12 (.aslp 3 (.t 5) (some (.t 11)))]
def Qaqc:=dZ 0x22040090079f1f78041020
def Qaqd:=dW 0x19090012051000332f059f08f09210142 [Qaqb,Qaqc] [Qth] [fI 9 (.iax 3 3 (.t 6) (.t 7))]
def Qahz:=dZ 0x90008b0022050036f0440811 Qaqd
def Qaqe:=dZ 0x7210190029f3801121
def Qaqf:=dW 0x190950040220400f008f06212 [Qahz,Qaqe] [] [fI 6 (.ldg 9 0 0)]
def Qaqg:=dZ 0x9202014f00311 Qaqf
def Qa3o:=dZ 0x901014f00211 Qaqg
theorem Qa12:mFn prog Q1o 1 18 Qa3o BH=true:=ZF
def Qr2:=dZ 0x2315101142f78261805800e40 .skip SE
def Qr4:=dZ 0x190900013161170232f079f02613230c310142 Qr2 SQ Is
def Qpd:=dZ 0x9000bb0002316010440b11 Qr4
def Qr6:=dZ 0x1909500400231500f0057008312 Qpd [] Iv
def Qr7:=dZ 0x93003014f00511 Qr6
def Qz5:=dZ 0x9002014f00411 Qr7
theorem Qzt:mFn prog Qf0 2 22 Qz5 BG=true:=ZF
variable {H:Heap}{K:Uk}
def endV (n:Int):Value:=.iface 116 (.int .i64 n)
theorem VH (n:Int)(w:World):Calls prog Nx #[.int .i64 n] w λe w'=>e=.panicked [{ v:=endV n,recovered:=false }]/\w'=w:=by
 go_enter Go.Proofs.Tryz.func169,Go.Proofs.Tryz.ntmps169
 go_wp2
 exact⟨rfl,rfl,rfl⟩
theorem GI {n:Int}(hK:K (.pn (endV n)) H):Qr prog Nx [Uv n] H K:=by
 refine⟨ZF,λg w vs hs hl hv=>?_⟩;obtain⟨v,rfl⟩:∃v,vs=[v]:=by
  match vs,hl with
  |[v],_=>exact⟨v,rfl⟩
 have hr:=hv 0 _ v rfl rfl
 cases hr with
 |c _ _ hr=>
  cases hr;refine (VH n w).mono λe w'=>?_;rintro⟨rfl,rfl⟩;exact .inr ⟨_,H,g,rfl,hK,.refl hs⟩
end Go.AE.Y
namespace Go.AE
variable {P:Program}{H:Heap}{e:Env}
theorem Qb2z {Q:X->Env->Heap->Prop}{v:Value}:X.panK Q v H=Q (.pan v) [] H:=rfl
theorem Qb5x {b:SC}{Q:X->Env->Heap->Prop}{v:Value}:X.sq P b Q (.pan v) e H=Q (.pan v) e H:=rfl
theorem Qb4w {i:Nat}{Q:X->Env->Heap->Prop}{v:Value}:X.inBlock i Q (.pan v) e H=Q (.pan v) e H:=rfl
theorem Ya {K:Env->Heap->Prop}{Q:X->Env->Heap->Prop}{v:Value}:X.next K Q (.pan v) e H=Q (.pan v) e H:=rfl
theorem Qbv3 {rs:List RS}{K:V->Heap->Prop}{v:Value}:Q4 rs K (.pan v) e H=K (.pn v) H:=rfl
attribute [go_sem] Qb2z Qb5x Qb4w Ya Qbv3
end Go.AE
namespace Go.AE.Y
attribute [local go_sem] cond_true cond_false Bool.not_true Bool.not_false
open Go.Proofs.Tryz
variable {H H' H0:Heap}{K:Uk}{E A A' B:Ul}
def BV (l:List Int):List C:=l.map λv=>.int .i64 v
structure Rs where
 u:Nat
 s:List Int
 c:List Int
 t:List Int
 sc:C
 so:Ul
 tc:C
 tl:Ul
def Rs.mt (r:Rs):List C:=BV r.c++[r.tc]
structure Rn where
 l:Nat
 fl:Bool
 cs:List CodeD
 S:Nat
def Rn.o (X:Rn)(r:Rs):Obj:=.st (.sl X.fl 3 (Qm X.cs)::.int .i64 X.S::.int .i64 r.u::r.sc::r.mt)
def Rn.F (X:Rn)(r:Rs)(A B:List (Nat×Obj)):List (Nat×Obj):=[(X.l,X.o r)]++(A++((r.so++r.tl)++B))
structure Rs.ok (X:Rn)(r:Rs):Prop where
 gs:Gr r.so 1 (Qb r.s) r.sc
 gt:Gr r.tl 1 (Qb r.t) r.tc
 c:r.c.length=16
 bc:byL r.c
 bs:byL r.s
 ls:r.s.length<=r.u
 lt:r.t.length<=r.u+1
 uS:r.u<=X.S
 S:X.S<=60000
variable {X:Rn}{r r':Rs}
theorem Rs.ok.mt (h:r.ok X):r.mt.length=17:=by simp[Rs.mt,BV,h.c]
theorem Rs.ok.tick (h:r.ok X)(hu:r.u<X.S):Rs.ok X { r with u:=r.u+1 }:=⟨h.gs,h.gt,h.c,h.bc,h.bs,Nat.le_succ_of_le h.ls,Nat.le_succ_of_le h.lt,hu,h.S⟩
theorem F_in (k:Kn H0 H E (X.F r A B)):Kn H0 H E (X.F r [] (A++B)):=k.perm (Qj λf hf h0 hc hp=>by simp only[Ui,Rn.F,hf,h0];omega)
theorem EC (k:Kn H0 H E (X.F r [] (A++B))):Kn H0 H E (X.F r A B):=k.perm (Qj λf hf h0 hc hp=>by simp only[Ui,Rn.F,hf,h0];omega)
theorem F_al {p:Nat×Obj}(k:Kn H0 H E (X.F r A B++[p])):Kn H0 H E (X.F r (A++[p]) B):=k.perm (Qj λf hf h0 hc hp=>by simp only[Ui,Rn.F,hf];omega)
theorem EX (k:Kn H0 H E (X.F r (A++A') B)):Kn H0 H E (X.F r A B):=Kn.drop (B:=A') (k.perm (Qj λf hf h0 hc hp=>by simp only[Ui,Rn.F,hf];omega))
theorem Hj (k:Kn H0 H E (X.F r A (A'++B))):Kn H0 H E (X.F r A B):=Kn.drop (B:=A') (k.perm (Qj λf hf h0 hc hp=>by simp only[Ui,Rn.F,hf];omega))
theorem Qb4c (k:Kn H0 H E (X.F r (A++A') B)):Kn H0 H E (X.F r A (A'++B)):=k.perm (Qj λf hf h0 hc hp=>by simp only[Ui,Rn.F,hf];omega)
theorem Qb4b (k:Kn H0 H E (X.F r A (A'++B))):Kn H0 H E (X.F r (A++A') B):=k.perm (Qj λf hf h0 hc hp=>by simp only[Ui,Rn.F,hf];omega)
theorem F_s (k:Kn H0 H E (X.F r A B)):Kn H0 H E (([(X.l,X.o r)]++(A++(r.tl++B)))++r.so):=k.perm (Qj λf hf h0 hc hp=>by simp only[Ui,Rn.F,hf];omega)
theorem F_s' {so:Ul}(hs:r'.so=so)(ht:r'.tl=r.tl)(k:Kn H0 H E (([(X.l,X.o r')]++(A++(r.tl++B)))++so)):Kn H0 H E (X.F r' A B):=k.perm (Qj λf hf h0 hc hp=>by simp only[Ui,Rn.F,hf,hs,ht];omega)
theorem F_t (k:Kn H0 H E (X.F r A B)):Kn H0 H E (([(X.l,X.o r)]++(A++(r.so++B)))++r.tl):=k.perm (Qj λf hf h0 hc hp=>by simp only[Ui,Rn.F,hf];omega)
theorem F_t' {tl:Ul}(ht:r'.tl=tl)(hs:r'.so=r.so)(k:Kn H0 H E (([(X.l,X.o r')]++(A++(r.so++B)))++tl)):Kn H0 H E (X.F r' A B):=k.perm (Qj λf hf h0 hc hp=>by simp only[Ui,Rn.F,hf,hs,ht];omega)
theorem F_o (k:Kn H0 H E (X.F r A B)):H X.l=.st (.sl X.fl 3 (Qm X.cs)::Ui X.S::Ui r.u::r.sc::r.mt):=k.l 0 rfl
theorem Qb6e {a b c d:C}{m:List C}{j:Nat}:(a::b::c::d::m).drop (4+j)=m.drop j:=by rw[Nat.add_comm];rfl
theorem cD {a b c d:C}{m:List C}{j:Nat}:(a::b::c::d::m).take (4+j)=a::b::c::d::m.take j:=by rw[Nat.add_comm];rfl
theorem Rs.ok.get (h:r.ok X){j:Nat}(hj:j<16):(r.mt.drop j).take 1=[Ui (r.c.getD j 0)]:=by
 have b6:j<(BV r.c).length:=by rw[BV,Je,h.c];exact hj
 have cL:j<r.c.length:=by rw[h.c];exact hj
 rw[Rs.mt,List.drop_append_of_le_length ZB,List.drop_eq_getElem_cons b6,J5,Jai,Jbb];simp[BV,Jb,cL]
theorem Rs.ok.dl (h:r.ok X)(j:Nat):(r.mt.drop j).length=17-j:=by rw[List.length_drop,h.mt]
theorem Rs.ok.put (h:r.ok X){j:Nat}(hj:j<16)(v:Int):r.mt.take j++[Ui v]++r.mt.drop (j+1)=Rs.mt { r with c:=r.c.set j v }:=by
 have b6:j<(BV r.c).length:=by rw[BV,Je,h.c];exact hj
 rw[Rs.mt,Rs.mt,List.take_append_of_le_length ZB,List.drop_append_of_le_length ZB];have:BV (r.c.set j v)=(BV r.c).take j++Ui v::(BV r.c).drop (j+1):=by
  rw[BV,Jau,List.set_eq_take_append_cons_drop,if_pos (by simpa[BV]using b6)];rfl
 show _=BV (r.c.set j v)++[r.tc];rw[this];simp
theorem Rs.ok.cells (h:r.ok X){j:Nat}{v:Int}(hv:byI v):Rs.ok X { r with c:=r.c.set j v }:=⟨h.gs,h.gt,by simp[h.c],h.bc.set hv j,h.bs,h.ls,h.lt,h.uS,h.S⟩
theorem Mq (kn:Kn H0 H E (X.F r A B))(hr:r.ok X)
  (hK:∀H',r.u<X.S->Kn H0 H' E (X.F { r with u:=r.u+1 } A B)->Rs.ok X { r with u:=r.u+1 }->K (.tup []) H')
  (hP:r.u=X.S->K (.pn (endV 3)) H):Qr prog Qio [.c (.ptr X.l 0)] H K:=by
 refine Qd BF Q5j ?_;have iY:=hr.mt;have hX:=F_o kn;have hS:=hr.S;have vq:=hr.uS;refine Q1 (BM ?_);simp only[go_sem,hX,iY];refine Wu ?_ ?_
 ·intro hc;have hu:r.u=X.S:=by
   have:=of_decide_eq_true hc;omega
  refine Zh ?_;refine GI ?_;simp only[go_sem];exact hP hu
 ·intro hc;have hu:r.u<X.S:=by
   have:=of_decide_eq_false hc;omega
  refine Zc ?_
  refine Qp ?_;simp only[go_sem,hX,iY];refine⟨Qs,λH' h'=>?_⟩;have kn':Kn H0 H' E (X.F { r with u:=r.u+1 } A B):=kn.aB 0 rfl h';simp only[go_sem,Q4,BE,Cp];exact hK H' hu kn' (hr.tick hu)
theorem M3 {l:Nat}{n:Int}(hn:0<=n)(hK:n<16->K (.c (.ptr l (4+n.toNat))) H)(hP:16<=n->K (.pn (endV 2)) H) :
  Qr prog Qim [Up l,Uv n] H K:=by
 refine Qd BF Q5h ?_;refine Wj ?_;refine Wu ?_ ?_
 ·intro hc;have j3:16<=n:=of_decide_eq_true hc;refine Zh ?_;refine GI ?_;simp only[go_sem];exact hP j3
 ·intro hc;have j3:n<16:=by have:=of_decide_eq_false hc;omega
  refine Zc ?_
  refine Za ?_;refine⟨⟨hn,ZB⟩,?_⟩;refine Zk ?_;have:=hK j3;simpa using this
theorem GX {b:Bool}(hK:K (Uv (trI (b=true))) H):Qr prog SM [.c (.bool b)] H K:=by
 refine Qd BF Qavs ?_;refine Wj ?_;refine Wu ?_ ?_
 ·intro hc;subst hc;refine Za ?_;refine Zk ?_;exact hK
 ·intro hc;subst hc;refine Zc ?_
  refine Za ?_;refine Zk ?_;exact hK
theorem GY {p:Prop} [Decidable p]:trI (decide p=true)=trI p:=by simp[trI]
def arP (op a b:Int):Int×Bool:=match arR op a b with
 |some v=>(v,true)
 |none=>(0,false)
theorem Fx {a b:Int}(h:0<=a):a.tmod b=a % b:=Int.tmod_eq_emod_of_nonneg h
theorem Mr {a b:Int}(h:0<=a):a.tdiv b=a / b:=Int.tdiv_eq_ediv_of_nonneg h
theorem Qb04 {op a b:Int}(ha:byI a)(hb:byI b)(h3:3<=op)(h9:op<=9)(hK:K (.tup [.c (Ui (arP op a b).1),.c (.bool (arP op a b).2)]) H) :
  Qr prog Tw [Uv op,Uv a,Uv b] H K:=by
 obtain⟨a0,a1⟩:=ha;obtain⟨b0,b1⟩:=hb;refine Qd BF Nq ?_;have retf:∀(v:Int) (t:Bool) (e:Env),arP op a b=(v,t)->lk 6 e=Uv v->lk 7 e=.c (.bool t)->Q4 IL K .ret e H:=by
  intro v t e h1 h2 h3;simp only[go_sem,Q4,BE,RS.op,h2,h3];rw[h1]at hK;exact hK
 refine Wd ?_;refine Wa ?_;refine Wg ?_;refine Wv ?_ ?_
 ·intro hc;have ho:op=3:=of_decide_eq_true hc;subst ho;refine Za ?_;refine⟨Qs,ZB,?_⟩;refine Zi ?_;refine retf _ _ _ ?_ rfl rfl;rw[Fx ZB];rfl
 intro hc;have n3:=of_decide_eq_false hc;refine Za ?_;refine Wv ?_ ?_
 ·intro hc;have ho:op=4:=of_decide_eq_true hc;subst ho;refine Za ?_;refine⟨Qs,Qs,ZB,?_⟩;refine Zi ?_;refine retf _ _ _ ?_ rfl rfl;rw[Fx ZB];rfl
 intro hc;have n4:=of_decide_eq_false hc;refine Za ?_;refine Wv ?_ ?_
 ·intro hc;have ho:op=5:=of_decide_eq_true hc;subst ho;have eD:0<=a * b:=Int.mul_nonneg a0 b0;have hab2:a * b<=255 * 255:=Int.mul_le_mul a1 b1 b0 ZB;refine Za ?_;refine⟨Qs,ZB,?_⟩;refine Zi ?_;refine retf _ _ _ ?_ rfl rfl;rw[Fx eD];rfl
 intro hc;have n5:=of_decide_eq_false hc;refine Wa ?_;have vi:∀(t:Bool),(t=decide (op=6\/op=7))->BI prog Q2v (X.inBlock 0 (X.sq prog Q2w (Q4 IL K))) [(0,Uv op),(1,Uv a),(2,Uv b),(8,.c (.fn SM [])),(9,Uv op),(29,.c (.bool t))] H:=by
  intro t ht;refine Wv ?_ ?_
  ·intro h;have vi:op=6\/op=7:=by rw[ht]at h;exact of_decide_eq_true h
   refine Wa ?_;refine Wu ?_ ?_
   ·intro hc;have hb:b=0:=of_decide_eq_true hc;subst hb;refine We ?_;refine retf _ _ _ ?_ rfl rfl;rcases vi with rfl|rfl <;> rfl
   intro hc;have hb:¬b=0:=of_decide_eq_false hc;refine Zc ?_
   refine Wa ?_;refine Wu ?_ ?_
   ·intro hc;have ho:op=6:=of_decide_eq_true hc;subst ho;have dv:0<=a / b:=Int.ediv_nonneg a0 b0;have eU:a / b<=a:=Int.ediv_le_self _ a0;refine Za ?_;refine⟨⟨hb,by rw[Mr a0];exact Qs⟩,?_⟩;refine Zi ?_;refine retf _ _ _ ?_ rfl rfl;rw[Mr a0,arP,arR];simp[hb]
   ·intro hc;have ho:op=7:=(by have:=of_decide_eq_false hc;omega);subst ho;refine Zc ?_
    refine Za ?_;refine⟨hb,?_⟩;refine Zi ?_;refine retf _ _ _ ?_ rfl rfl;rw[Fx a0,arP,arR];simp[hb]
  ·intro h;have vi:¬(op=6\/op=7):=by rw[ht]at h;exact of_decide_eq_false h
   refine Za ?_;refine Wv ?_ ?_
   ·intro hc;have ho:op=8:=of_decide_eq_true hc;subst ho;refine Za ?_;refine GX ?_;rw[GY];simp only[go_sem,Q2x];refine Zi ?_;exact retf _ _ _ rfl rfl rfl
   intro hc;have n8:=of_decide_eq_false hc;have ho:op=9:=ZB
   subst ho;refine Za ?_;refine Qf rfl ?_ (λh=>ZI);intro _;refine Za ?_;refine GX ?_;rw[GY];simp only[go_sem,Q2y];refine Zi ?_;exact retf _ _ _ rfl rfl rfl
 refine Wu ?_ ?_
 ·intro hc;have ho:op=6:=of_decide_eq_true hc;refine Zd ?_;exact vi _ (by rw[hc];simp[ho])
 ·intro hc;have n6:=of_decide_eq_false hc;refine Zh ?_;exact vi _ (by simp[n6])
theorem Qbk7 {a:Int}(hK:K (.tup [Uv (trI (a=0)),.c (.bool true)]) H) :
  Qr prog Tw [Uv 11,Uv a,Uv 0] H K:=by
 refine Qd BF Nq ?_;refine Wd ?_;refine Wa ?_;refine Wg ?_;refine Qf rfl (λh=>ZI) λ_=>?_;refine Za ?_;refine Qf rfl (λh=>ZI) λ_=>?_;refine Za ?_;refine Qf rfl (λh=>ZI) λ_=>?_;refine Wa ?_;refine Qh (Qf rfl (λh=>ZI) λ_=>?_);refine Zh ?_;refine Qf rfl (λh=>ZI) λ_=>?_;refine Za ?_;refine Qf rfl (λh=>ZI) λ_=>?_;refine Za ?_;refine Qf rfl (λh=>ZI) λ_=>?_;refine Za ?_;refine Qf rfl (λh=>ZI) λ_=>?_;refine Zd ?_;refine Za ?_;refine GX ?_;rw[GY];simp only[go_sem,Qxt];refine Ql ?_;simp only[go_sem,Q4,BE,RS.op];exact hK
end Go.AE.Y
