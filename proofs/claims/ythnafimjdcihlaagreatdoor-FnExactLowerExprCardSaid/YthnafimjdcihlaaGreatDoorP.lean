/- FnExactLowerExpr returns true for every input, and its input reads behind the call as it read before; no condition. -/
import Derived.Test.YthnafimjdcihlaaGreatDoorRows
import Derived.Test.YthnafimjdcihlaaGreatDoorZF
import Derived.LaidMore
import Derived.LaidOnce
import Derived.OpenVars
import Derived.SevenTiedAt
import Derived.Test.YthnafimjdcihlaaGreatDoorCards
import Derived.Test.YthnafimjdcihlaaGreatDoorTie
open Nat (reduceEqDiff reduceAdd reduceLeDiff reduceLT)
set_option linter.unusedVariables false
set_option linter.unusedSimpArgs false
set_option maxRecDepth 4000
namespace Go.Proofs.YthnafimjdcihlaaGreatDoor.fnExactLowerExprDone
open Go.ChangeShapes Go.WideShapes Go.ChangeAt Go.RowKit Go.AE.Y
theorem own:ownKnob Tryz.prog.godebug=none:=by kernel_rfl
theorem laidOut:laidOutB Tryz.prog=true:=by kernel_rfl
def laidL : List (String × DataW Unit) := [("loop.example/wholeway/impl.keys", Rows.laid_loop_example_wholeway_impl_keys), ("loop.example/wholeway/impl.opSign", Rows.laid_loop_example_wholeway_impl_opSign)]
theorem gKeys : Tryz.prog.globalNamed "loop.example/wholeway/impl.keys" = some BN := by kernel_rfl
theorem tKeys:(Tryz.prog.globals[BN]?).map (·.type)=some 284:=by kernel_rfl
theorem gSign : Tryz.prog.globalNamed "loop.example/wholeway/impl.opSign" = some Bq := by kernel_rfl
theorem tSign:(Tryz.prog.globals[Bq]?).map (·.type)=some 329:=by kernel_rfl
theorem door_met (os:Os)(args:Array Value):laidMetH Tryz.prog laidL ((World.doorLaid Tryz.prog 75 os).forCall (fun _ _=>0) ⟨#[],args,[]⟩).memory:=
 laidMetH_of_parts3 (fuel:=8) (laidMet_of_run' 8 (by kernel_rfl) (by kernel_rfl)) (by kernel_rfl) (by kernel_rfl)
theorem c3:Tryz.prog.cellsOf 3=1:=by kernel_rfl
theorem c9:Tryz.prog.cellsOf 9=1:=by kernel_rfl
theorem c328:Tryz.prog.cellsOf 328=2:=by kernel_rfl
theorem lKeys:(Rows.laid_loop_example_wholeway_impl_keys:DataW Unit)=.agg (keysL.map fun s=>.lit (.string s)):=rfl
theorem lSign:(Rows.laid_loop_example_wholeway_impl_opSign:DataW Unit)=.map (signL.map litD):=rfl
theorem one_at {l:List Value}{j:Nat}{v:Value}(h:(l.drop j).take 1=[v]):l[j]? = some v:=by
 have:=congrArg (·[0]?) h
 simpa[List.getElem?_take,List.getElem?_drop]using this
set_option maxRecDepth 100000 in
theorem key3 {m:MapEntry}{n:Int}(h:keyOf Tryz.prog 3 m.key=some (.int .i64 n)):m.key=.int .i64 n:=by
 unfold keyOf at h
 rw[Tryz.underlying3]at h
 simp only[mapKey,Tryz.underlying3]at h
 split at h <;> simp_all
set_option maxRecDepth 100000 in
theorem val328 {W:World}{sp:Nat→Bool}{lK:Bool}{n:Nat}{v:Value}{z:DataW Unit×List MemPlace}{s:List UInt8}{l:Int}(h:Go.WideElems.elemAt (fun _=>()) Tryz.prog W 0 sp lK n 328 v=some z)(hz:z.1=.agg [.lit (.string s),.lit (.int .i64 l)]) :
  v=.agg #[.string ⟨s.toArray⟩,.int .i64 l]:=by
 unfold Go.WideElems.elemAt at h
 split at h
 ·rename_i hf
  obtain⟨y0,y1,m,rfl,hl,k0,k1⟩:=trod_struct2 Tryz.underlying328 h
  simp only[DataW.agg.injEq,List.cons.injEq,and_true]at hz
  rw[c328]at hl
  simp only[c9,c3]at k0 k1
  obtain⟨s',a0,rfl,_⟩:=DataW.trod_string Tryz.underlying9 k0
  obtain⟨n',a1,rfl,_⟩:=DataW.trod_int Tryz.underlying3 k1
  obtain⟨e0,e1⟩:=hz
  have b0:=one_at a0
  have b1:=one_at a1
  have e2:s'.data.toList=s:=by simpa using e0
  have e3:n'=l:=by simpa using e1
  have hv:v=.agg v.cells:=by
   unfold Value.formed at hf
   rw[Tryz.underlying328]at hf
   cases v <;> simp_all[Value.cells]
  rw[hv]
  obtain⟨cl,bP⟩:∃cl,v.cells=cl:=⟨_,rfl⟩
  rw[bP]at hl b0 b1⊢
  obtain⟨cl⟩:=cl
  match cl,hl with
  |[u0,u1],_=>
   simp at b0 b1
   subst b0;subst b1;subst e2;subst e3
   rfl
 ·cases h
set_option maxRecDepth 100000 in
theorem tabs_of {W:World}(h:laidMetH Tryz.prog laidL W):Tabs W:=by
 rw[MakeChecks.laidMetH_plain _ _ _ (by kernel_rfl)]at h
 obtain⟨ps,⟨g,t,cs,fuel,p,q,hg,ht,hv,hd,hr,_⟩,_,_⟩:=h
 obtain⟨g2,t2,cs2,fuel2,p2,q2,dU,gU,jO,cR,_,_⟩:=hr
 obtain rfl:=Option.some.inj (gKeys.symm.trans hg)
 obtain rfl:=Option.some.inj (tKeys.symm.trans ht)
 obtain rfl:=Option.some.inj (gSign.symm.trans dU)
 obtain rfl:=Option.some.inj (tSign.symm.trans gU)
 rw[lKeys]at hd
 rw[lSign]at cR
 refine⟨fun j s hj=>?_,?_⟩
 ·obtain⟨xs,m,_,ex,ai,hl,dB⟩:=DataW.trod_array Tryz.underlying284 hd
  have qw:j<9:=(List.getElem?_eq_some_iff.1 hj).1
  have e1:=DataW.agg.inj (Prod.mk.inj ex).1
  have k:=dB j qw
  rw[c9,Nat.mul_one]at k
  have nP:j<xs.length:=by omega
  rw[List.getElem?_eq_getElem nP]at k
  obtain⟨s',a0,hx,_⟩:=DataW.trod_string Tryz.underlying9 k
  have e2:=congrArg (·[j]?) e1
  simp only[List.getElem?_map,hj,List.getElem?_eq_getElem nP,Option.map_some,hx,Option.some.injEq,DataW.lit.injEq,Lit.string.injEq]at e2
  have:=World.var?_cell hg hv j
  rw[this,←Array.getElem?_toList,one_at a0,e2]
 ·rcases Go.WideElems.open_map Tryz.underlying329 cR with ⟨_,hx⟩|⟨b,es,clock,n,_,fk,hb,_,F,hx⟩
  ·cases (Prod.mk.inj hx).1
  have e1:=DataW.map.inj (Prod.mk.inj hx).1
  obtain⟨ts,h1,h2⟩:=sign_entries e1.symm fun m hm t nD=>by
   obtain⟨y,hy⟩:=F.reads m hm
   rw[Go.WideElems.rg_of hy]at nD
   subst nD
   obtain⟨z,hz,oT⟩:=Go.WideElems.rd_val hy
   rw[kvV,key3 (Go.WideElems.rd_key hy),val328 hz oT.symm]
  refine⟨b,es,clock,ts,?_,hb,F.stamped,h1,h2⟩
  have:=World.var?_cell dU jO 0
  rw[this,←Array.getElem?_toList,fk];rfl
theorem walk (cs:Array Value)(v1:Value)(w:World)(ht:Tabs w)(hc:∃cells:List Go.AE.C,TyC Tryz.prog BB cells∧cells.length=cs.toList.length∧∀(j:Nat) (c:Go.AE.C) (v:Value),cells[j]? = some c→cs.toList[j]? = some v→Go.AE.RepC w (gh5 w) c v)
  (ao:∃cells:List Go.AE.C,TyC Tryz.prog BW cells∧cells.length=1∧∀(j:Nat) (c:Go.AE.C) (v:Value),cells[j]? = some c→[v1][j]? = some v→Go.AE.RepC w (gh5 w) c v) :
  Calls Tryz.prog 7 #[.agg cs,v1] w fun e w'=>e=.returned (.bool true)∧Below w.heap.size w w':=by
 obtain⟨cells,h1,h2,h3⟩:=hc
 obtain⟨c2,k1,k2,k3⟩:=ao
 refine calls_of_acall8 (c2:=c2) (fun H g=>FnExactLowerExpr_ty h1 k1 g) ht h2.symm h3 ?_
 match c2,k2 with
 |[c],_=>exact k3 0 c v1 rfl rfl
set_option maxRecDepth 100000 in
theorem lifted (os:Os)(started:os.Started)(H:Type)(enc:TypeId×Value→H) :
  ReturnsInHanded {} Tryz.checked os 7 .any (fun w args=>(Rows.fnExactLowerExprSpec.pre enc Tryz.prog Tryz.f7 [] false w args∧laidMetH Tryz.prog laidL w)∧sizedMet enc Tryz.prog Tryz.f7 (OpenSpec.ofChange Rows.fnExactLowerExprSpec) false w args)
   (Rows.fnExactLowerExprSpec.post enc Tryz.prog Tryz.f7 false true false false):=by
 refine returnsInHanded_of_change_and (C:=Tryz.checked) (X:=fun w _=>laidMetH Tryz.prog laidL w) (fun _ _ _ hh h=>h.of_heap hh) own started (by kernel_rfl) Tryz.func7
  (ChangeSpec.witness_shaped (enc:=enc) (C:=Tryz.checked) (os:=os) (X:=fun w _=>laidMetH Tryz.prog laidL w) false (World.doorLaid Tryz.prog 75 os) #[.agg #[.int .i64 0,.int .i64 0,.string ⟨#[]⟩,.slice none 0 0],.slice none 0 0] 8 rfl (World.shaped_of_RefB (by kernel_rfl) (by kernel_rfl)) (by kernel_rfl) (by kernel_rfl) (by kernel_rfl) (door_met os _)) ?_
 intro W base args ds gs before fD hW _ _ hL _
 have bY:∀(j:Nat) t v,Tryz.f7.params[j]? = some t→args[j]? = some v→Value.okWide Tryz.prog W .any base t v:=fD
 have ra:=hW
 obtain⟨p,q,o0,hV,rfl,sf,cf⟩:=hW
 have hA:DataW.TrodAll enc Tryz.prog W 0 (fun _=>true) true Tryz.f7.params.toList args.toList ds p:=o0
 rw[Tryz.params7]at hA bY
 obtain⟨v0,vs0,d0,ds0,p0,q0,ot,rfl,rfl,h0,r0⟩:=trodAll_cons hA
 obtain⟨v1,vs1,d1,ds1,p1,q1,qY,rfl,rfl,h1,r1⟩:=trodAll_cons r0
 obtain⟨rfl,rfl,rfl⟩:=trodAll_nil r1
 obtain rfl:args=#[v0,v1]:=by cases args;simp_all
 obtain⟨a1,len1,cap1,rfl⟩:=okWide_slice Tryz.underlying57 (bY 1 57 v1 rfl rfl)
 have k1:=h1
 have lt1:∀x∈p1,x.block<W.heap.size:=by obtain⟨m,hm⟩:=k1;exact DataW.trod_lt m _ _ _ hm
 have w1:∃cells:List Go.AE.C,TyC Tryz.prog BW cells∧cells.length=1∧∀(j:Nat) (c:Go.AE.C) (v:Value),cells[j]? = some c→[Value.slice a1 len1 cap1][j]? = some v→Go.AE.RepC W (gh5 W) c v:=by
  obtain⟨fuel,hf⟩:=h1
  exact open_ty (g:=gh5 W) tys_ok (fun _=>rfl) (fun b hb=>by simpa[gh5]using hb) fuel BW (by decide) [Value.slice a1 len1 cap1] _ hf
 have i4:=bY 0 56 v0 rfl rfl
 simp only[Value.okWide,Tryz.underlying56]at i4
 obtain⟨cs0,rfl,qS,_⟩:=i4
 have k0:=h0
 have lt0:∀x∈p0,x.block<W.heap.size:=by obtain⟨m,hm⟩:=k0;exact DataW.trod_lt m _ _ _ hm
 have w0:∃cells:List Go.AE.C,TyC Tryz.prog BB cells∧cells.length=cs0.toList.length∧∀(j:Nat) (c:Go.AE.C) (v:Value),cells[j]? = some c→cs0.toList[j]? = some v→Go.AE.RepC W (gh5 W) c v:=by
  obtain⟨fuel,hf⟩:=h0
  exact open_ty (g:=gh5 W) tys_ok (fun _=>rfl) (fun b hb=>by simpa[gh5]using hb) fuel BB (by decide) cs0.toList _ hf
 have im:=trodVars_two hV
 obtain⟨gg,gt,gcs,gf,gd,gp,gg1,gt1,gcs1,gf1,gd1,gp1,qC,_⟩:=im
 clear o0 fD
 refine (walk cs0 _ W (tabs_of hL) w0 w1).mono fun e W' ⟨he,bel⟩=>?_
 subst he
 subst qC
 exact⟨_,rfl,_,_,_,[],_,q,ra,trodAll_mk1 (shut_bool Tryz.underlying4 _),(trodAll_cons_mk (Below.trod laidOut (by kernel_rfl) (of_decide_eq_true (by kernel_rfl)) k0 bel lt0) (trodAll_cons_mk (Below.trod laidOut (by kernel_rfl) (of_decide_eq_true (by kernel_rfl)) k1 bel lt1) trodAll_mk0)),Below.trodVars laidOut bel (by kernel_rfl) hV,bel.frame _,fun h=>by cases h⟩
theorem h_named:Tryz.pinned.checked.prog.funcNamed Rows.fnExactLowerExprRow.func=some 7:=by kernel_rfl
theorem h_p0:((Rows.fnExactLowerExprRow.wf (OpenSpec.ofChange Rows.fnExactLowerExprSpec))&&(laidOutB Tryz.pinned.checked.prog)&&(mapsRowed Tryz.pinned.checked.prog)&&(Tryz.f7.params.all (Tryz.pinned.checked.prog.readableRec ·))&&(namedTie Tryz.pinned.checked.prog Rows.fnExactLowerExprRow.named Rows.fnExactLowerExprSpec.vars)&&(Rows.fnExactLowerExprRow.stops == [])&&(Tryz.pinned.checked.prog.stops == [])&&(Rows.fnExactLowerExprRow.knobs == [])&&(Tryz.pinned.checked.prog.stopKnobs == [])&&(Rows.fnExactLowerExprRow.inPlace == Tryz.pinned.checked.prog.inPlace 7)&&(Rows.fnExactLowerExprRow.unfollowed == Tryz.pinned.checked.prog.unfollowed 7))=true:=by kernel_rfl
theorem h_p1:((Rows.fnExactLowerExprRow.recurses == Tryz.pinned.checked.prog.recurses 7)&&(Rows.fnExactLowerExprRow.named == Tryz.pinned.checked.prog.varsNamed 7)&&(Rows.fnExactLowerExprRow.maps == (Tryz.f7.params.toList++Rows.fnExactLowerExprSpec.plain.varTypes Tryz.pinned.checked.prog).any (Tryz.pinned.checked.prog.mapsRec ·))&&(Rows.fnExactLowerExprRow.ifaces == (Tryz.f7.params.toList++Rows.fnExactLowerExprSpec.plain.varTypes Tryz.pinned.checked.prog).any (Tryz.pinned.checked.prog.ifacesRec ·))&&(Rows.fnExactLowerExprRow.mapsOut == Tryz.pinned.checked.prog.mapsAmong Tryz.f7.resultTypes.toList))=true:=by kernel_rfl
theorem h_p2:((Rows.fnExactLowerExprRow.loops == (Tryz.f7.params.toList++Rows.fnExactLowerExprSpec.plain.varTypes Tryz.pinned.checked.prog).any (Tryz.pinned.checked.prog.loopsFrom ·))&&(Rows.fnExactLowerExprRow.wideKeys == (Tryz.f7.params.toList++Rows.fnExactLowerExprSpec.plain.varTypes Tryz.pinned.checked.prog++Tryz.f7.resultTypes.toList).any (Tryz.pinned.checked.prog.wideKeysFrom ·))&&(Rows.fnExactLowerExprSpec.vars.all (Tryz.pinned.checked.prog.varReadable ·))&&(Tryz.f7.resultTypes.all (fun t=>Tryz.pinned.checked.prog.readableRec t&&decide (t<Tryz.pinned.checked.prog.types.size)))&&(Rows.fnExactLowerExprRow.ifacesOut == Tryz.f7.resultTypes.toList.any (Tryz.pinned.checked.prog.ifacesRec ·))&&(Rows.fnExactLowerExprRow.loopsOut == Tryz.f7.resultTypes.toList.any (Tryz.pinned.checked.prog.loopsFrom ·))&&(Rows.fnExactLowerExprRow.plainKeys == Tryz.pinned.checked.prog.plainKeys)&&(Rows.fnExactLowerExprRow.shortTexts.isNone)&&(Tryz.pinned.checked.prog.stopsHeard)&&(Tryz.pinned.checked.prog.mayEnter)&&(Rows.fnExactLowerExprRow.lifted == Tryz.pinned.checked.prog.liftsFinal)&&(Tryz.pinned.checked.prog.make == some Rows.fnExactLowerExprRow.make)&&(Rows.fnExactLowerExprRow.kinds == (if Rows.fnExactLowerExprRow.domain.isEmpty then []else Tryz.f7.params.toList.map fun t=>match Tryz.pinned.checked.prog.underlying t with|some (.int k)=>some k|_=>none))&&(Rows.fnExactLowerExprRow.pinned == Rows.fnExactLowerExprRow.pinnedBy)&&(Rows.fnExactLowerExprRow.veiled == (Tryz.f7.params.toList++Rows.fnExactLowerExprSpec.plain.varTypes Tryz.pinned.checked.prog++Tryz.f7.resultTypes.toList).any (Tryz.pinned.checked.prog.veiledRec ·))&&(Rows.fnExactLowerExprRow.veiledFits Tryz.pinned.checked.prog Tryz.f7.params.toList (Tryz.f7.params.toList++Rows.fnExactLowerExprSpec.plain.varTypes Tryz.pinned.checked.prog++Tryz.f7.resultTypes.toList)))=true:=by kernel_rfl
theorem h_facts:joinedFacts Tryz.pinned.checked.prog 7 Tryz.f7 Rows.fnExactLowerExprSpec Rows.fnExactLowerExprRow=true:=by
 have a0:=h_p0
 have a1:=h_p1
 have a2:=h_p2
 simp only[Bool.and_eq_true]at a0 a1 a2
 simp only[joinedFacts,Bool.and_eq_true,a0,a1,a2,and_self]
 exact⟨⟨⟨⟨trivial,by kernel_rfl⟩,trivial⟩,trivial⟩,trivial⟩
theorem h_inst:Tryz.f7.isInstance Tryz.pinned.checked.prog Rows.fnExactLowerExprRow.origin Rows.fnExactLowerExprRow.targs:=of_decide_eq_true (by kernel_rfl)
theorem h_wrap:Tryz.f7.isWrapper Tryz.pinned.checked.prog Rows.fnExactLowerExprRow.wrapper Rows.fnExactLowerExprRow.mainSum:=by
 unfold Func.isWrapper;first|(rw[if_pos (by decide +kernel)];kernel_rfl)|(rw[if_neg (by decide +kernel)];exact⟨rfl,rfl⟩)
theorem over:Rows.fnExactLowerExprRow.holds Tryz.pinned (OpenSpec.ofChange Rows.fnExactLowerExprSpec):=
 OpenClaim.holds_of_wide 7 Tryz.f7 rfl rfl rfl rfl rfl rfl rfl ⟨rfl,rfl,rfl,rfl,rfl⟩ rfl rfl rfl rfl rfl h_named Tryz.func7 h_facts h_inst h_wrap
  (fun os started H enc _=>lifted os started H enc)
theorem q_w:Rows.fnExactLowerExprRow.wfByText (OpenSpec.ofChange Rows.fnExactLowerExprSpec)=true:=by kernel_rfl
theorem q_m : Tryz.pinned.checked.prog.mainIs = some (true, "d72d48bcbfe74994712283e309426a74462792b87353da61b16674cd13b08a52".toList) := by kernel_rfl
theorem q_looks:true=Tryz.pinned.checked.prog.looks []:=by kernel_rfl
theorem q_goes:false=Rows.fnExactLowerExprRow.goesBy Tryz.pinned.checked.prog:=by kernel_rfl
theorem q_all:([56,57].all fun u=>!Tryz.pinned.checked.prog.wantsStandIn u)=true:=by kernel_rfl
theorem q_fn:Tryz.pinned.checked.prog.funcs[7]? = some Tryz.f7:=Tryz.func7
theorem q_l (f:FuncId)(fn:Func)(hf:Tryz.pinned.checked.prog.funcNamed Rows.fnExactLowerExprRow.func=some f)(fx:Tryz.pinned.checked.prog.funcs[f]? = some fn):true=Tryz.pinned.checked.prog.looks []∧∀(j:Nat) t,fn.params[j]? = some t→Tryz.pinned.checked.prog.wantsStandIn t=false:=by
 obtain rfl:f=7:=Option.some.inj (h_named.symm.trans hf) |>.symm
 obtain rfl:fn=Tryz.f7:=(Option.some.inj (q_fn.symm.trans fx)).symm
 refine⟨q_looks,fun j t ht=>?_⟩
 rw[Tryz.params7]at ht
 have hm:t∈[56,57]:=by simpa using Array.mem_of_getElem? ht
 simpa using List.all_eq_true.1 q_all t hm
theorem proved:Rows.FnExactLowerExprCardSaid:=
 Claim7.holds_tied_plain_at .later [] [.widerDeep, .mapped] true (true, "d72d48bcbfe74994712283e309426a74462792b87353da61b16674cd13b08a52") true over (fun _ h => by cases h) q_w (fun _ h => by cases h) fnExactLowerExpr_row_tie rfl ⟨rfl, rfl⟩ q_m rfl q_l q_goes
end Go.Proofs.YthnafimjdcihlaaGreatDoor.fnExactLowerExprDone

