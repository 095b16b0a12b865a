/- FnSimpler returns true for every input, and its input reads behind the call as it read before; no condition. -/
import Derived.Test.YthnafimjdcihlaaGreatDoorRows
import Derived.Test.YthnafimjdcihlaaGreatDoorZF
import Derived.LaidMore
import Derived.LaidOnce
import Derived.OpenVars
import Derived.SevenTiedAt
import Derived.Test.YthnafimjdcihlaaGreatDoorCards
import Derived.Test.YthnafimjdcihlaaGreatDoorTie
open Nat (reduceEqDiff reduceAdd reduceLeDiff reduceLT)
set_option linter.unusedVariables false
set_option linter.unusedSimpArgs false
set_option maxRecDepth 4000
namespace Go.Proofs.YthnafimjdcihlaaGreatDoor.fnSimplerDone
open Go.ChangeShapes Go.WideShapes Go.ChangeAt Go.RowKit Go.AE.Y
theorem own:ownKnob Tryz.prog.godebug=none:=by kernel_rfl
theorem laidOut:laidOutB Tryz.prog=true:=by kernel_rfl
def laidL : List (String × DataW Unit) := [("loop.example/wholeway/impl.keys", Rows.laid_loop_example_wholeway_impl_keys), ("loop.example/wholeway/impl.opSign", Rows.laid_loop_example_wholeway_impl_opSign), ("loop.example/wholeway/impl.tries", Rows.laid_loop_example_wholeway_impl_tries)]
theorem gKeys : Tryz.prog.globalNamed "loop.example/wholeway/impl.keys" = some B1 := by kernel_rfl
theorem tKeys:(Tryz.prog.globals[B1]?).map (·.type)=some 284:=by kernel_rfl
theorem gSign : Tryz.prog.globalNamed "loop.example/wholeway/impl.opSign" = some Bg := by kernel_rfl
theorem tSign:(Tryz.prog.globals[Bg]?).map (·.type)=some 329:=by kernel_rfl
theorem door_met (os:Os)(args:Array Value):laidMetH Tryz.prog laidL ((World.doorLaid Tryz.prog 75 os).forCall (fun _ _=>0) ⟨#[],args,[]⟩).memory:=
 laidMetH_of_parts3 (fuel:=8) (laidMet_of_run' 8 (by kernel_rfl) (by kernel_rfl)) (by kernel_rfl) (by kernel_rfl)
theorem c3:Tryz.prog.cellsOf 3=1:=by kernel_rfl
theorem c9:Tryz.prog.cellsOf 9=1:=by kernel_rfl
theorem c328:Tryz.prog.cellsOf 328=2:=by kernel_rfl
theorem lKeys:(Rows.laid_loop_example_wholeway_impl_keys:DataW Unit)=.agg (keysL.map fun s=>.lit (.string s)):=rfl
theorem lSign:(Rows.laid_loop_example_wholeway_impl_opSign:DataW Unit)=.map (signL.map litD):=rfl
theorem one_at {l:List Value}{j:Nat}{v:Value}(h:(l.drop j).take 1=[v]):l[j]? = some v:=by
 have:=congrArg (·[0]?) h
 simpa[List.getElem?_take,List.getElem?_drop]using this
set_option maxRecDepth 100000 in
theorem key3 {m:MapEntry}{n:Int}(h:keyOf Tryz.prog 3 m.key=some (.int .i64 n)):m.key=.int .i64 n:=by
 unfold keyOf at h
 rw[Tryz.underlying3]at h
 simp only[mapKey,Tryz.underlying3]at h
 split at h <;> simp_all
set_option maxRecDepth 100000 in
theorem val328 {W:World}{sp:Nat→Bool}{rU:Bool}{n:Nat}{v:Value}{z:DataW Unit×List MemPlace}{s:List UInt8}{l:Int}(h:Go.WideElems.elemAt (fun _=>()) Tryz.prog W 0 sp rU n 328 v=some z)(hz:z.1=.agg [.lit (.string s),.lit (.int .i64 l)]) :
  v=.agg #[.string ⟨s.toArray⟩,.int .i64 l]:=by
 unfold Go.WideElems.elemAt at h
 split at h
 ·rename_i hf
  obtain⟨y0,y1,m,rfl,hl,k0,k1⟩:=trod_struct2 Tryz.underlying328 h
  simp only[DataW.agg.injEq,List.cons.injEq,and_true]at hz
  rw[c328]at hl
  simp only[c9,c3]at k0 k1
  obtain⟨s',a0,rfl,_⟩:=DataW.trod_string Tryz.underlying9 k0
  obtain⟨n',a1,rfl,_⟩:=DataW.trod_int Tryz.underlying3 k1
  obtain⟨e0,e1⟩:=hz
  have b0:=one_at a0
  have b1:=one_at a1
  have e2:s'.data.toList=s:=by simpa using e0
  have e3:n'=l:=by simpa using e1
  have hv:v=.agg v.cells:=by
   unfold Value.formed at hf
   rw[Tryz.underlying328]at hf
   cases v <;> simp_all[Value.cells]
  rw[hv]
  obtain⟨cl,cG⟩:∃cl,v.cells=cl:=⟨_,rfl⟩
  rw[cG]at hl b0 b1⊢
  obtain⟨cl⟩:=cl
  match cl,hl with
  |[u0,u1],_=>
   simp at b0 b1
   subst b0;subst b1;subst e2;subst e3
   rfl
 ·cases h
theorem gTries : Tryz.prog.globalNamed "loop.example/wholeway/impl.tries" = some 0 := by kernel_rfl
theorem tTries:(Tryz.prog.globals[0]?).map (·.type)=some 133:=by kernel_rfl
set_option maxRecDepth 100000 in
theorem part3 {enc:TypeId×Value→Unit}{W:World}{m:Nat}{c:List Value}{a b d:Int}{p:List MemPlace}{sp:Nat→Bool}{hd:Bool}(h:DataW.trod enc Tryz.prog W 0 sp hd m 132 c=some (.agg [.lit (.int .i64 a),.lit (.int .i64 b),.lit (.int .i64 d)],p)):c=[.int .i64 a,.int .i64 b,.int .i64 d]:=by
 have c3:Tryz.prog.cellsOf 3=1:=by kernel_rfl
 have c132:Tryz.prog.cellsOf 132=3:=by kernel_rfl
 obtain⟨xs,m,_,ex,aM,hl,eu⟩:=DataW.trod_array Tryz.underlying132 h
 rw[c132]at aM
 match c,aM with
 |[c0,c1,c2],_=>
  match xs,hl with
  |[x0,x1,x2],_=>
   have e3:=(DataW.agg.inj (Prod.mk.inj ex).1)
   simp only[List.map_cons,List.map_nil,List.cons.injEq,and_true]at e3
   have k0:=eu 0 (by omega);have k1:=eu 1 (by omega);have k2:=eu 2 (by omega)
   rw[c3]at k0 k1 k2
   obtain⟨z0,a0,b0,_⟩:=DataW.trod_int Tryz.underlying3 k0
   obtain⟨z1,a1,b1,_⟩:=DataW.trod_int Tryz.underlying3 k1
   obtain⟨z2,a2,b2,_⟩:=DataW.trod_int Tryz.underlying3 k2
   simp_all
set_option maxRecDepth 100000 in
theorem tries_at {W : World} {cs : Array Value} {fuel : Nat} {p : List MemPlace} {sp : Nat → Bool} {hh : Bool} (hg : Tryz.prog.globalNamed "loop.example/wholeway/impl.tries" = some 0) (hv : W.var? Tryz.prog "loop.example/wholeway/impl.tries" = some cs)
  (hd:DataW.trod (fun _=>()) Tryz.prog W 0 sp hh fuel 133 cs.toList=some (Rows.laid_loop_example_wholeway_impl_tries,p)):∀j,j<9→W.cell? ⟨0,j,none⟩=some (.int .i64 (tryZ7.getD j 0)):=by
 have c132:Tryz.prog.cellsOf 132=3:=by kernel_rfl
 have c133:Tryz.prog.cellsOf 133=9:=by kernel_rfl
 obtain⟨xs,m,_,ex,aM,hl,eu⟩:=DataW.trod_array Tryz.underlying133 hd
 rw[c133]at aM
 obtain⟨l⟩:=cs
 match xs,hl with
 |[x0,x1,x2],_=>
  have e3:=(DataW.agg.inj (Prod.mk.inj ex).1)
  simp only[List.map_cons,List.map_nil,List.cons.injEq,and_true]at e3
  have k0:=eu 0 (by omega);have k1:=eu 1 (by omega);have k2:=eu 2 (by omega)
  rw[c132]at k0 k1 k2
  obtain⟨x0,p0⟩:=x0;obtain⟨x1,p1⟩:=x1;obtain⟨x2,p2⟩:=x2
  obtain⟨e0,e1,e2⟩:=e3
  simp only at e0 e1 e2
  subst e0;subst e1;subst e2
  have q0:=part3 k0;have q1:=part3 k1;have q2:=part3 k2
  have hl9:l.length=9:=by simpa using aM
  match l,hl9 with
  |[a0,a1,a2,a3,a4,a5,a6,a7,a8],_=>
   simp at q0 q1 q2
   intro j hj
   have:=World.var?_cell hg hv j
   rw[this]
   obtain⟨rfl,rfl,rfl⟩:=q0
   obtain⟨rfl,rfl,rfl⟩:=q1
   obtain⟨rfl,rfl,rfl⟩:=q2
   have hh:j=0∨j=1∨j=2∨j=3∨j=4∨j=5∨j=6∨j=7∨j=8:=by omega
   rcases hh with rfl|rfl|rfl|rfl|rfl|rfl|rfl|rfl|rfl <;> rfl
theorem vars_three {H:Type}{enc:TypeId×Value→H}{P:Program}{w:World}{spare:Nat→Bool}{n0 n1 n2:String}{gs:List (DataW H)}{ps:List MemPlace}(h:DataW.TrodVars enc P w spare [n0,n1,n2] gs ps):∃d0 d1 d2,gs=[d0,d1,d2]:=by
 cases gs with
 |nil=>simp[DataW.TrodVars]at h
 |cons d ds=>
  obtain⟨g0,t0,cs0,f0,p0,q0,h1,h2,h3,h4,hs,e⟩:=h
  obtain⟨g0,t0,cs0,f0,d0,p0,g1,t1,cs1,f1,d1,p1,rO,_⟩:=trodVars_two hs
  exact⟨d,d0,d1,by rw[rO]⟩
set_option maxRecDepth 100000 in
theorem tabs_of {W:World}(h:laidMetH Tryz.prog laidL W):TabT W:=by
 rw[MakeChecks.laidMetH_plain _ _ _ (by kernel_rfl)]at h
 obtain⟨ps,⟨g,t,cs,fuel,p,q,hg,ht,hv,hd,hr,_⟩,_,_⟩:=h
 obtain⟨g2,t2,cs2,fuel2,p2,q2,fV,jh,kg,eY,gZ,_⟩:=hr
 obtain⟨g3,t3,cs3,fuel3,p3,q3,nH,lx,nQ,tC,_,_⟩:=gZ
 obtain rfl:=Option.some.inj (gTries.symm.trans nH)
 obtain rfl:=Option.some.inj (tTries.symm.trans lx)
 have htr:=tries_at nH nQ tC
 obtain rfl:=Option.some.inj (gKeys.symm.trans hg)
 obtain rfl:=Option.some.inj (tKeys.symm.trans ht)
 obtain rfl:=Option.some.inj (gSign.symm.trans fV)
 obtain rfl:=Option.some.inj (tSign.symm.trans jh)
 rw[lKeys]at hd
 rw[lSign]at eY
 refine⟨⟨fun j s hj=>?_,?_⟩,htr⟩
 ·obtain⟨xs,m,_,ex,aM,hl,eu⟩:=DataW.trod_array Tryz.underlying284 hd
  have hj9:j<9:=(List.getElem?_eq_some_iff.1 hj).1
  have e1:=DataW.agg.inj (Prod.mk.inj ex).1
  have k:=eu j hj9
  rw[c9,Nat.mul_one]at k
  have tv:j<xs.length:=by omega
  rw[List.getElem?_eq_getElem tv]at k
  obtain⟨s',a0,hx,_⟩:=DataW.trod_string Tryz.underlying9 k
  have e2:=congrArg (·[j]?) e1
  simp only[List.getElem?_map,hj,List.getElem?_eq_getElem tv,Option.map_some,hx,Option.some.injEq,DataW.lit.injEq,Lit.string.injEq]at e2
  have:=World.var?_cell hg hv j
  rw[this,←Array.getElem?_toList,one_at a0,e2]
 ·rcases Go.WideElems.open_map Tryz.underlying329 eY with ⟨_,hx⟩|⟨b,es,clock,n,_,i5,hb,_,F,hx⟩
  ·cases (Prod.mk.inj hx).1
  have e1:=DataW.map.inj (Prod.mk.inj hx).1
  obtain⟨ts,h1,h2⟩:=sign_entries e1.symm fun m hm t oG=>by
   obtain⟨y,hy⟩:=F.reads m hm
   rw[Go.WideElems.rg_of hy]at oG
   subst oG
   obtain⟨z,hz,i6⟩:=Go.WideElems.rd_val hy
   rw[kvV,key3 (Go.WideElems.rd_key hy),val328 hz i6.symm]
  refine⟨b,es,clock,ts,?_,hb,F.stamped,h1,h2⟩
  have:=World.var?_cell fV kg 0
  rw[this,←Array.getElem?_toList,i5];rfl
set_option maxRecDepth 20000 in
theorem far (a0:Option Addr)(len0 cap0:Nat)(w:World)(hl:¬len0≤1048576)(hm:len0≤maxLen) :
  Calls Tryz.prog 3 #[.slice a0 len0 cap0] w fun e w'=>e=.returned (.bool true)∧Below w.heap.size w w':=by
 have hp:(1048576:Int)<(len0:Int):=by omega
 go_enter Tryz.func3,Tryz.ntmps3
 go_wp2
 go_ret
 exact⟨rfl,Below.refl _ _⟩
theorem walk (a0:Option Addr)(len0 cap0:Nat)(z0:List Int)(w:World)(ht:TabT w)(h:DD w a0 len0 cap0 z0)(hm:len0≤maxLen) :
  Calls Tryz.prog 3 #[.slice a0 len0 cap0] w fun e w'=>e=.returned (.bool true)∧Below w.heap.size w w':=by
 by_cases hl:len0≤1048576
 ·exact calls_of_acall7 (fun H bs g _=>FnSimpler_c g fun _=>rfl) ht h hl
 ·exact far a0 len0 cap0 w hl hm
set_option maxRecDepth 100000 in
theorem lifted (os:Os)(started:os.Started)(H:Type)(enc:TypeId×Value→H) :
  ReturnsInHanded {} Tryz.checked os 3 .any (fun w args=>(Rows.fnSimplerSpec.pre enc Tryz.prog Tryz.f3 [] false w args∧laidMetH Tryz.prog laidL w)∧sizedMet enc Tryz.prog Tryz.f3 (OpenSpec.ofChange Rows.fnSimplerSpec) false w args)
   (Rows.fnSimplerSpec.post enc Tryz.prog Tryz.f3 false true false false):=by
 refine returnsInHanded_of_change_and (C:=Tryz.checked) (X:=fun w _=>laidMetH Tryz.prog laidL w) (fun _ _ _ hh h=>h.of_heap hh) own started (by kernel_rfl) Tryz.func3
  (ChangeSpec.witness_shaped (enc:=enc) (C:=Tryz.checked) (os:=os) (X:=fun w _=>laidMetH Tryz.prog laidL w) false (World.doorLaid Tryz.prog 75 os) #[.slice none 0 0] 8 rfl (World.shaped_of_RefB (by kernel_rfl) (by kernel_rfl)) (by kernel_rfl) (by kernel_rfl) (by kernel_rfl) (door_met os _)) ?_
 intro W base args ds gs before lu hW _ _ hL _
 have eF:∀(j:Nat) t v,Tryz.f3.params[j]? = some t→args[j]? = some v→Value.okWide Tryz.prog W .any base t v:=lu
 have hW':=hW
 obtain⟨p,q,tU,hV,rfl,fQ,du⟩:=hW
 have hA:DataW.TrodAll enc Tryz.prog W 0 (fun _=>true) true Tryz.f3.params.toList args.toList ds p:=tU
 rw[Tryz.params3]at hA eF
 obtain⟨v0,vs0,d0,ds0,p0,q0,ez,rfl,rfl,h0,r0⟩:=trodAll_cons hA
 obtain⟨rfl,rfl,rfl⟩:=trodAll_nil r0
 obtain rfl:args=#[v0]:=by cases args;simp_all
 obtain⟨a0,len0,cap0,rfl⟩:=okWide_slice Tryz.underlying22 (eF 0 22 v0 rfl rfl)
 have k0:=h0
 have lt0:∀x∈p0,x.block<W.heap.size:=by obtain⟨m,hm⟩:=k0;exact DataW.trod_lt m _ _ _ hm
 obtain⟨z0,w0,ib⟩:∃zs,DD W a0 len0 cap0 zs∧len0≤maxLen:=by
  obtain⟨fuel,hf⟩:=h0
  rcases open_ints Tryz.underlying22 Tryz.underlying5 (by kernel_rfl) hf with ⟨i5,_⟩|⟨x,l,c,zs,i5,_,hl,hm,hz,_,ca,hwz⟩
  ·simp[Value.cells]at i5
   obtain⟨rfl,rfl,rfl⟩:=i5
   exact⟨[],.inl ⟨rfl,rfl,rfl,rfl⟩,Nat.zero_le _⟩
  ·simp[Value.cells]at i5
   obtain⟨rfl,rfl,rfl⟩:=i5
   exact⟨zs,.inr ⟨_,rfl,hl,by simpa using hz,ca,hwz⟩,Nat.le_trans hl hm⟩
 obtain⟨gd,gd1,gd2,rO⟩:=vars_three hV
 clear tU lu
 refine (walk a0 len0 cap0 z0 W (tabs_of hL) w0 ib).mono fun e W' ⟨he,bel⟩=>?_
 subst he
 subst rO
 exact⟨_,rfl,_,_,_,[],_,q,hW',trodAll_mk1 (shut_bool Tryz.underlying4 _),(trodAll_cons_mk (Below.trod laidOut (by kernel_rfl) (of_decide_eq_true (by kernel_rfl)) k0 bel lt0) trodAll_mk0),Below.trodVars laidOut bel (by kernel_rfl) hV,bel.frame _,fun h=>by cases h⟩
theorem h_named:Tryz.pinned.checked.prog.funcNamed Rows.fnSimplerRow.func=some 3:=by kernel_rfl
theorem h_p0:((Rows.fnSimplerRow.wf (OpenSpec.ofChange Rows.fnSimplerSpec))&&(laidOutB Tryz.pinned.checked.prog)&&(mapsRowed Tryz.pinned.checked.prog)&&(Tryz.f3.params.all (Tryz.pinned.checked.prog.readableRec ·))&&(namedTie Tryz.pinned.checked.prog Rows.fnSimplerRow.named Rows.fnSimplerSpec.vars)&&(Rows.fnSimplerRow.stops == [])&&(Tryz.pinned.checked.prog.stops == [])&&(Rows.fnSimplerRow.knobs == [])&&(Tryz.pinned.checked.prog.stopKnobs == [])&&(Rows.fnSimplerRow.inPlace == Tryz.pinned.checked.prog.inPlace 3)&&(Rows.fnSimplerRow.unfollowed == Tryz.pinned.checked.prog.unfollowed 3))=true:=by kernel_rfl
theorem h_p1:((Rows.fnSimplerRow.recurses == Tryz.pinned.checked.prog.recurses 3)&&(Rows.fnSimplerRow.named == Tryz.pinned.checked.prog.varsNamed 3)&&(Rows.fnSimplerRow.maps == (Tryz.f3.params.toList++Rows.fnSimplerSpec.plain.varTypes Tryz.pinned.checked.prog).any (Tryz.pinned.checked.prog.mapsRec ·))&&(Rows.fnSimplerRow.ifaces == (Tryz.f3.params.toList++Rows.fnSimplerSpec.plain.varTypes Tryz.pinned.checked.prog).any (Tryz.pinned.checked.prog.ifacesRec ·))&&(Rows.fnSimplerRow.mapsOut == Tryz.pinned.checked.prog.mapsAmong Tryz.f3.resultTypes.toList))=true:=by kernel_rfl
theorem h_p2:((Rows.fnSimplerRow.loops == (Tryz.f3.params.toList++Rows.fnSimplerSpec.plain.varTypes Tryz.pinned.checked.prog).any (Tryz.pinned.checked.prog.loopsFrom ·))&&(Rows.fnSimplerRow.wideKeys == (Tryz.f3.params.toList++Rows.fnSimplerSpec.plain.varTypes Tryz.pinned.checked.prog++Tryz.f3.resultTypes.toList).any (Tryz.pinned.checked.prog.wideKeysFrom ·))&&(Rows.fnSimplerSpec.vars.all (Tryz.pinned.checked.prog.varReadable ·))&&(Tryz.f3.resultTypes.all (fun t=>Tryz.pinned.checked.prog.readableRec t&&decide (t<Tryz.pinned.checked.prog.types.size)))&&(Rows.fnSimplerRow.ifacesOut == Tryz.f3.resultTypes.toList.any (Tryz.pinned.checked.prog.ifacesRec ·))&&(Rows.fnSimplerRow.loopsOut == Tryz.f3.resultTypes.toList.any (Tryz.pinned.checked.prog.loopsFrom ·))&&(Rows.fnSimplerRow.plainKeys == Tryz.pinned.checked.prog.plainKeys)&&(Rows.fnSimplerRow.shortTexts.isNone)&&(Tryz.pinned.checked.prog.stopsHeard)&&(Tryz.pinned.checked.prog.mayEnter)&&(Rows.fnSimplerRow.lifted == Tryz.pinned.checked.prog.liftsFinal)&&(Tryz.pinned.checked.prog.make == some Rows.fnSimplerRow.make)&&(Rows.fnSimplerRow.kinds == (if Rows.fnSimplerRow.domain.isEmpty then []else Tryz.f3.params.toList.map fun t=>match Tryz.pinned.checked.prog.underlying t with|some (.int k)=>some k|_=>none))&&(Rows.fnSimplerRow.pinned == Rows.fnSimplerRow.pinnedBy)&&(Rows.fnSimplerRow.veiled == (Tryz.f3.params.toList++Rows.fnSimplerSpec.plain.varTypes Tryz.pinned.checked.prog++Tryz.f3.resultTypes.toList).any (Tryz.pinned.checked.prog.veiledRec ·))&&(Rows.fnSimplerRow.veiledFits Tryz.pinned.checked.prog Tryz.f3.params.toList (Tryz.f3.params.toList++Rows.fnSimplerSpec.plain.varTypes Tryz.pinned.checked.prog++Tryz.f3.resultTypes.toList)))=true:=by kernel_rfl
theorem h_facts:joinedFacts Tryz.pinned.checked.prog 3 Tryz.f3 Rows.fnSimplerSpec Rows.fnSimplerRow=true:=by
 have a0:=h_p0
 have a1:=h_p1
 have a2:=h_p2
 simp only[Bool.and_eq_true]at a0 a1 a2
 simp only[joinedFacts,Bool.and_eq_true,a0,a1,a2,and_self]
 exact⟨⟨⟨⟨trivial,by kernel_rfl⟩,trivial⟩,trivial⟩,trivial⟩
theorem h_inst:Tryz.f3.isInstance Tryz.pinned.checked.prog Rows.fnSimplerRow.origin Rows.fnSimplerRow.targs:=of_decide_eq_true (by kernel_rfl)
theorem h_wrap:Tryz.f3.isWrapper Tryz.pinned.checked.prog Rows.fnSimplerRow.wrapper Rows.fnSimplerRow.mainSum:=by
 unfold Func.isWrapper;first|(rw[if_pos (by decide +kernel)];kernel_rfl)|(rw[if_neg (by decide +kernel)];exact⟨rfl,rfl⟩)
theorem over:Rows.fnSimplerRow.holds Tryz.pinned (OpenSpec.ofChange Rows.fnSimplerSpec):=
 OpenClaim.holds_of_wide 3 Tryz.f3 rfl rfl rfl rfl rfl rfl rfl ⟨rfl,rfl,rfl,rfl,rfl⟩ rfl rfl rfl rfl rfl h_named Tryz.func3 h_facts h_inst h_wrap
  (fun os started H enc _=>lifted os started H enc)
theorem q_w:Rows.fnSimplerRow.wfByText (OpenSpec.ofChange Rows.fnSimplerSpec)=true:=by kernel_rfl
theorem q_m : Tryz.pinned.checked.prog.mainIs = some (true, "d72d48bcbfe74994712283e309426a74462792b87353da61b16674cd13b08a52".toList) := by kernel_rfl
theorem q_looks:true=Tryz.pinned.checked.prog.looks []:=by kernel_rfl
theorem q_goes:false=Rows.fnSimplerRow.goesBy Tryz.pinned.checked.prog:=by kernel_rfl
theorem q_all:([22].all fun u=>!Tryz.pinned.checked.prog.wantsStandIn u)=true:=by kernel_rfl
theorem q_fn:Tryz.pinned.checked.prog.funcs[3]? = some Tryz.f3:=Tryz.func3
theorem q_l (f:FuncId)(fn:Func)(hf:Tryz.pinned.checked.prog.funcNamed Rows.fnSimplerRow.func=some f)(ja:Tryz.pinned.checked.prog.funcs[f]? = some fn):true=Tryz.pinned.checked.prog.looks []∧∀(j:Nat) t,fn.params[j]? = some t→Tryz.pinned.checked.prog.wantsStandIn t=false:=by
 obtain rfl:f=3:=Option.some.inj (h_named.symm.trans hf) |>.symm
 obtain rfl:fn=Tryz.f3:=(Option.some.inj (q_fn.symm.trans ja)).symm
 refine⟨q_looks,fun j t ht=>?_⟩
 rw[Tryz.params3]at ht
 have hm:t∈[22]:=by simpa using Array.mem_of_getElem? ht
 simpa using List.all_eq_true.1 q_all t hm
theorem proved:Rows.FnSimplerCardSaid:=
 Claim7.holds_tied_plain_at .later [] [.widerDeep, .mapped, .data] true (true, "d72d48bcbfe74994712283e309426a74462792b87353da61b16674cd13b08a52") true over (fun _ h => by cases h) q_w (fun _ h => by cases h) fnSimpler_row_tie rfl ⟨rfl, rfl⟩ q_m rfl q_l q_goes
end Go.Proofs.YthnafimjdcihlaaGreatDoor.fnSimplerDone

