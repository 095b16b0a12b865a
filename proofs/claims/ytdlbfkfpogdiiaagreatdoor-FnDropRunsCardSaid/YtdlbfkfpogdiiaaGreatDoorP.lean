/- FnDropRuns returns true for every input, and its input reads behind the call as it read before; no condition. -/
import Derived.Test.YtdlbfkfpogdiiaaGreatDoorRows
import Derived.Test.YtdlbfkfpogdiiaaGreatDoorZF
import Derived.LaidMore
import Derived.LaidOnce
import Derived.OpenVars
import Derived.SevenTiedAt
import Derived.Test.YtdlbfkfpogdiiaaGreatDoorCards
import Derived.Test.YtdlbfkfpogdiiaaGreatDoorTie
open Nat (reduceEqDiff reduceAdd reduceLeDiff reduceLT)
set_option linter.unusedVariables false
set_option linter.unusedSimpArgs false
set_option maxRecDepth 4000
namespace Go.Proofs.YtdlbfkfpogdiiaaGreatDoor.fnDropRunsDone
open Go.ChangeShapes Go.WideShapes Go.ChangeAt Go.RowKit Go.AE.Y
theorem own:ownKnob Tryz.prog.godebug=none:=by kernel_rfl
theorem laidOut:laidOutB Tryz.prog=true:=by kernel_rfl
def laidL : List (String × DataW Unit) := [("loop.example/wholeway/impl.keys", Rows.laid_loop_example_wholeway_impl_keys), ("loop.example/wholeway/impl.opSign", Rows.laid_loop_example_wholeway_impl_opSign)]
theorem gKeys : Tryz.prog.globalNamed "loop.example/wholeway/impl.keys" = some Qf2 := by kernel_rfl
theorem tKeys:(Tryz.prog.globals[Qf2]?).map (·.type)=some 266:=by kernel_rfl
theorem gSign : Tryz.prog.globalNamed "loop.example/wholeway/impl.opSign" = some Qbb := by kernel_rfl
theorem tSign:(Tryz.prog.globals[Qbb]?).map (·.type)=some 300:=by kernel_rfl
theorem door_met (os:Os)(args:Array Value):laidMetH Tryz.prog laidL ((World.doorLaid Tryz.prog 75 os).forCall (fun _ _=>0) ⟨#[],args,[]⟩).memory:=
 laidMetH_of_parts3 (fuel:=8) (laidMet_of_run' 8 (by kernel_rfl) (by kernel_rfl)) (by kernel_rfl) (by kernel_rfl)
theorem c3:Tryz.prog.cellsOf 3=1:=by kernel_rfl
theorem c9:Tryz.prog.cellsOf 9=1:=by kernel_rfl
theorem c299:Tryz.prog.cellsOf 299=2:=by kernel_rfl
theorem lKeys:(Rows.laid_loop_example_wholeway_impl_keys:DataW Unit)=.agg (keysL.map fun s=>.lit (.string s)):=rfl
theorem lSign:(Rows.laid_loop_example_wholeway_impl_opSign:DataW Unit)=.map (signL.map litD):=rfl
theorem one_at {l:List Value}{j:Nat}{v:Value}(h:(l.drop j).take 1=[v]):l[j]? = some v:=by
 have:=congrArg (·[0]?) h
 simpa[List.getElem?_take,List.getElem?_drop]using this
set_option maxRecDepth 100000 in
theorem key3 {m:MapEntry}{n:Int}(h:keyOf Tryz.prog 3 m.key=some (.int .i64 n)):m.key=.int .i64 n:=by
 unfold keyOf at h
 rw[Tryz.underlying3]at h
 simp only[mapKey,Tryz.underlying3]at h
 split at h <;> simp_all
set_option maxRecDepth 100000 in
theorem val299 {W:World}{sp:Nat→Bool}{held:Bool}{n:Nat}{v:Value}{z:DataW Unit×List MemPlace}{s:List UInt8}{l:Int}(h:Go.WideElems.elemAt (fun _=>()) Tryz.prog W 0 sp held n 299 v=some z)(hz:z.1=.agg [.lit (.string s),.lit (.int .i64 l)]) :
  v=.agg #[.string ⟨s.toArray⟩,.int .i64 l]:=by
 unfold Go.WideElems.elemAt at h
 split at h
 ·rename_i hf
  obtain⟨y0,y1,m,rfl,hl,k0,k1⟩:=trod_struct2 Tryz.underlying299 h
  simp only[DataW.agg.injEq,List.cons.injEq,and_true]at hz
  rw[c299]at hl
  simp only[c9,c3]at k0 k1
  obtain⟨s',a0,rfl,_⟩:=DataW.trod_string Tryz.underlying9 k0
  obtain⟨n',a1,rfl,_⟩:=DataW.trod_int Tryz.underlying3 k1
  obtain⟨e0,e1⟩:=hz
  have b0:=one_at a0
  have b1:=one_at a1
  have e2:s'.data.toList=s:=by simpa using e0
  have e3:n'=l:=by simpa using e1
  have hv:v=.agg v.cells:=by
   unfold Value.formed at hf
   rw[Tryz.underlying299]at hf
   cases v <;> simp_all[Value.cells]
  rw[hv]
  obtain⟨cl,hcl⟩:∃cl,v.cells=cl:=⟨_,rfl⟩
  rw[hcl]at hl b0 b1⊢
  obtain⟨cl⟩:=cl
  match cl,hl with
  |[u0,u1],_=>
   simp at b0 b1
   subst b0;subst b1;subst e2;subst e3
   rfl
 ·cases h
set_option maxRecDepth 100000 in
theorem tabs_of {W:World}(h:laidMetH Tryz.prog laidL W):Tabs W:=by
 rw[MakeChecks.laidMetH_plain _ _ _ (by kernel_rfl)]at h
 obtain⟨ps,⟨g,t,cs,fuel,p,q,hg,ht,hv,hd,hr,_⟩,_,_⟩:=h
 obtain⟨g2,t2,cs2,fuel2,p2,q2,hg2,ht2,hv2,hd2,_,_⟩:=hr
 obtain rfl:=Option.some.inj (gKeys.symm.trans hg)
 obtain rfl:=Option.some.inj (tKeys.symm.trans ht)
 obtain rfl:=Option.some.inj (gSign.symm.trans hg2)
 obtain rfl:=Option.some.inj (tSign.symm.trans ht2)
 rw[lKeys]at hd
 rw[lSign]at hd2
 refine⟨fun j s hj=>?_,?_⟩
 ·obtain⟨xs,m,_,ex,hlen,hl,hel⟩:=DataW.trod_array Tryz.underlying266 hd
  have hj9:j<9:=(List.getElem?_eq_some_iff.1 hj).1
  have e1:=DataW.agg.inj (Prod.mk.inj ex).1
  have k:=hel j hj9
  rw[c9,Nat.mul_one]at k
  have hjx:j<xs.length:=by omega
  rw[List.getElem?_eq_getElem hjx]at k
  obtain⟨s',a0,hx,_⟩:=DataW.trod_string Tryz.underlying9 k
  have e2:=congrArg (·[j]?) e1
  simp only[List.getElem?_map,hj,List.getElem?_eq_getElem hjx,Option.map_some,hx,Option.some.injEq,DataW.lit.injEq,Lit.string.injEq]at e2
  have:=World.var?_cell hg hv j
  rw[this,←Array.getElem?_toList,one_at a0,e2]
 ·rcases Go.WideElems.open_map Tryz.underlying300 hd2 with ⟨_,hx⟩|⟨b,es,clock,n,_,hcs,hb,_,F,hx⟩
  ·cases (Prod.mk.inj hx).1
  have e1:=DataW.map.inj (Prod.mk.inj hx).1
  obtain⟨ts,h1,h2⟩:=sign_entries e1.symm fun m hm t hmt=>by
   obtain⟨y,hy⟩:=F.reads m hm
   rw[Go.WideElems.rg_of hy]at hmt
   subst hmt
   obtain⟨z,hz,hz2⟩:=Go.WideElems.rd_val hy
   rw[kvV,key3 (Go.WideElems.rd_key hy),val299 hz hz2.symm]
  refine⟨b,es,clock,ts,?_,hb,F.stamped,h1,h2⟩
  have:=World.var?_cell hg2 hv2 0
  rw[this,←Array.getElem?_toList,hcs];rfl
set_option maxRecDepth 20000 in
theorem far (a0:Option Addr)(len0 cap0:Nat)(w:World)(hl:¬len0≤1048576)(hm:len0≤maxLen) :
  Calls Tryz.prog 8 #[.slice a0 len0 cap0] w fun e w'=>e=.returned (.bool true)∧Below w.heap.size w w':=by
 have hp:(1048576:Int)<(len0:Int):=by omega
 go_enter Tryz.func8,Tryz.ntmps8
 go_wp2
 go_ret
 exact⟨rfl,Below.refl _ _⟩
theorem walk (a0:Option Addr)(len0 cap0:Nat)(z0:List Int)(w:World)(ht:Tabs w)(h:Qa5k w a0 len0 cap0 z0)(hm:len0≤maxLen) :
  Calls Tryz.prog 8 #[.slice a0 len0 cap0] w fun e w'=>e=.returned (.bool true)∧Below w.heap.size w w':=by
 by_cases hl:len0≤1048576
 ·exact calls_of_acall5 (fun H bs g _=>FnDropRuns_c g fun _=>rfl) ht h hl
 ·exact far a0 len0 cap0 w hl hm
set_option maxRecDepth 100000 in
theorem lifted (os:Os)(started:os.Started)(H:Type)(enc:TypeId×Value→H) :
  ReturnsInHanded {} Tryz.checked os 8 .any (fun w args=>(Rows.fnDropRunsSpec.pre enc Tryz.prog Tryz.f8 [] false w args∧laidMetH Tryz.prog laidL w)∧sizedMet enc Tryz.prog Tryz.f8 (OpenSpec.ofChange Rows.fnDropRunsSpec) false w args)
   (Rows.fnDropRunsSpec.post enc Tryz.prog Tryz.f8 false true false false):=by
 refine returnsInHanded_of_change_and (C:=Tryz.checked) (X:=fun w _=>laidMetH Tryz.prog laidL w) (fun _ _ _ hh h=>h.of_heap hh) own started (by kernel_rfl) Tryz.func8
  (ChangeSpec.witness_shaped (enc:=enc) (C:=Tryz.checked) (os:=os) (X:=fun w _=>laidMetH Tryz.prog laidL w) false (World.doorLaid Tryz.prog 75 os) #[.slice none 0 0] 8 rfl (World.shaped_of_RefB (by kernel_rfl) (by kernel_rfl)) (by kernel_rfl) (by kernel_rfl) (by kernel_rfl) (door_met os _)) ?_
 intro W base args ds gs before hval0 hW _ _ hL _
 have hval:∀(j:Nat) t v,Tryz.f8.params[j]? = some t→args[j]? = some v→Value.okWide Tryz.prog W .any base t v:=hval0
 have hW':=hW
 obtain⟨p,q,hA0,hV,rfl,hfz,hnd⟩:=hW
 have hA:DataW.TrodAll enc Tryz.prog W 0 (fun _=>true) true Tryz.f8.params.toList args.toList ds p:=hA0
 rw[Tryz.params8]at hA hval
 obtain⟨v0,vs0,d0,ds0,p0,q0,hargs,rfl,rfl,h0,r0⟩:=trodAll_cons hA
 obtain⟨rfl,rfl,rfl⟩:=trodAll_nil r0
 obtain rfl:args=#[v0]:=by cases args;simp_all
 obtain⟨a0,len0,cap0,rfl⟩:=okWide_slice Tryz.underlying22 (hval 0 22 v0 rfl rfl)
 have k0:=h0
 have lt0:∀x∈p0,x.block<W.heap.size:=by obtain⟨m,hm⟩:=k0;exact DataW.trod_lt m _ _ _ hm
 obtain⟨z0,w0,hm0⟩:∃zs,Qa5k W a0 len0 cap0 zs∧len0≤maxLen:=by
  obtain⟨fuel,hf⟩:=h0
  rcases open_ints Tryz.underlying22 Tryz.underlying5 (by kernel_rfl) hf with ⟨hcs,_⟩|⟨x,l,c,zs,hcs,_,hl,hm,hz,_,hcell,hwz⟩
  ·simp[Value.cells]at hcs
   obtain⟨rfl,rfl,rfl⟩:=hcs
   exact⟨[],.inl ⟨rfl,rfl,rfl,rfl⟩,Nat.zero_le _⟩
  ·simp[Value.cells]at hcs
   obtain⟨rfl,rfl,rfl⟩:=hcs
   exact⟨zs,.inr ⟨_,rfl,hl,by simpa using hz,hcell,hwz⟩,Nat.le_trans hl hm⟩
 have hvo:=trodVars_two hV
 obtain⟨gg,gt,gcs,gf,gd,gp,gg1,gt1,gcs1,gf1,gd1,gp1,hgs,_⟩:=hvo
 clear hA0 hval0
 refine (walk a0 len0 cap0 z0 W (tabs_of hL) w0 hm0).mono fun e W' ⟨he,bel⟩=>?_
 subst he
 subst hgs
 exact⟨_,rfl,_,_,_,[],_,q,hW',trodAll_mk1 (shut_bool Tryz.underlying4 _),(trodAll_cons_mk (Below.trod laidOut (by kernel_rfl) (of_decide_eq_true (by kernel_rfl)) k0 bel lt0) trodAll_mk0),Below.trodVars laidOut bel (by kernel_rfl) hV,bel.frame _,fun h=>by cases h⟩
theorem h_named:Tryz.pinned.checked.prog.funcNamed Rows.fnDropRunsRow.func=some 8:=by kernel_rfl
theorem h_p0:((Rows.fnDropRunsRow.wf (OpenSpec.ofChange Rows.fnDropRunsSpec))&&(laidOutB Tryz.pinned.checked.prog)&&(mapsRowed Tryz.pinned.checked.prog)&&(Tryz.f8.params.all (Tryz.pinned.checked.prog.readableRec ·))&&(namedTie Tryz.pinned.checked.prog Rows.fnDropRunsRow.named Rows.fnDropRunsSpec.vars)&&(Rows.fnDropRunsRow.stops == [])&&(Tryz.pinned.checked.prog.stops == [])&&(Rows.fnDropRunsRow.knobs == [])&&(Tryz.pinned.checked.prog.stopKnobs == [])&&(Rows.fnDropRunsRow.inPlace == Tryz.pinned.checked.prog.inPlace 8)&&(Rows.fnDropRunsRow.unfollowed == Tryz.pinned.checked.prog.unfollowed 8))=true:=by kernel_rfl
theorem h_p1:((Rows.fnDropRunsRow.recurses == Tryz.pinned.checked.prog.recurses 8)&&(Rows.fnDropRunsRow.named == Tryz.pinned.checked.prog.varsNamed 8)&&(Rows.fnDropRunsRow.maps == (Tryz.f8.params.toList++Rows.fnDropRunsSpec.plain.varTypes Tryz.pinned.checked.prog).any (Tryz.pinned.checked.prog.mapsRec ·))&&(Rows.fnDropRunsRow.ifaces == (Tryz.f8.params.toList++Rows.fnDropRunsSpec.plain.varTypes Tryz.pinned.checked.prog).any (Tryz.pinned.checked.prog.ifacesRec ·))&&(Rows.fnDropRunsRow.mapsOut == Tryz.pinned.checked.prog.mapsAmong Tryz.f8.resultTypes.toList))=true:=by kernel_rfl
theorem h_p2:((Rows.fnDropRunsRow.loops == (Tryz.f8.params.toList++Rows.fnDropRunsSpec.plain.varTypes Tryz.pinned.checked.prog).any (Tryz.pinned.checked.prog.loopsFrom ·))&&(Rows.fnDropRunsRow.wideKeys == (Tryz.f8.params.toList++Rows.fnDropRunsSpec.plain.varTypes Tryz.pinned.checked.prog++Tryz.f8.resultTypes.toList).any (Tryz.pinned.checked.prog.wideKeysFrom ·))&&(Rows.fnDropRunsSpec.vars.all (Tryz.pinned.checked.prog.varReadable ·))&&(Tryz.f8.resultTypes.all (fun t=>Tryz.pinned.checked.prog.readableRec t&&decide (t<Tryz.pinned.checked.prog.types.size)))&&(Rows.fnDropRunsRow.ifacesOut == Tryz.f8.resultTypes.toList.any (Tryz.pinned.checked.prog.ifacesRec ·))&&(Rows.fnDropRunsRow.loopsOut == Tryz.f8.resultTypes.toList.any (Tryz.pinned.checked.prog.loopsFrom ·))&&(Rows.fnDropRunsRow.plainKeys == Tryz.pinned.checked.prog.plainKeys)&&(Rows.fnDropRunsRow.shortTexts.isNone)&&(Tryz.pinned.checked.prog.stopsHeard)&&(Tryz.pinned.checked.prog.mayEnter)&&(Rows.fnDropRunsRow.lifted == Tryz.pinned.checked.prog.liftsFinal)&&(Tryz.pinned.checked.prog.make == some Rows.fnDropRunsRow.make)&&(Rows.fnDropRunsRow.kinds == (if Rows.fnDropRunsRow.domain.isEmpty then []else Tryz.f8.params.toList.map fun t=>match Tryz.pinned.checked.prog.underlying t with|some (.int k)=>some k|_=>none))&&(Rows.fnDropRunsRow.pinned == Rows.fnDropRunsRow.pinnedBy)&&(Rows.fnDropRunsRow.veiled == (Tryz.f8.params.toList++Rows.fnDropRunsSpec.plain.varTypes Tryz.pinned.checked.prog++Tryz.f8.resultTypes.toList).any (Tryz.pinned.checked.prog.veiledRec ·))&&(Rows.fnDropRunsRow.veiledFits Tryz.pinned.checked.prog Tryz.f8.params.toList (Tryz.f8.params.toList++Rows.fnDropRunsSpec.plain.varTypes Tryz.pinned.checked.prog++Tryz.f8.resultTypes.toList)))=true:=by kernel_rfl
theorem h_facts:joinedFacts Tryz.pinned.checked.prog 8 Tryz.f8 Rows.fnDropRunsSpec Rows.fnDropRunsRow=true:=by
 have a0:=h_p0
 have a1:=h_p1
 have a2:=h_p2
 simp only[Bool.and_eq_true]at a0 a1 a2
 simp only[joinedFacts,Bool.and_eq_true,a0,a1,a2,and_self]
 exact⟨⟨⟨⟨trivial,by kernel_rfl⟩,trivial⟩,trivial⟩,trivial⟩
theorem h_inst:Tryz.f8.isInstance Tryz.pinned.checked.prog Rows.fnDropRunsRow.origin Rows.fnDropRunsRow.targs:=of_decide_eq_true (by kernel_rfl)
theorem h_wrap:Tryz.f8.isWrapper Tryz.pinned.checked.prog Rows.fnDropRunsRow.wrapper Rows.fnDropRunsRow.mainSum:=by
 unfold Func.isWrapper;first|(rw[if_pos (by decide +kernel)];kernel_rfl)|(rw[if_neg (by decide +kernel)];exact⟨rfl,rfl⟩)
theorem over:Rows.fnDropRunsRow.holds Tryz.pinned (OpenSpec.ofChange Rows.fnDropRunsSpec):=
 OpenClaim.holds_of_wide 8 Tryz.f8 rfl rfl rfl rfl rfl rfl rfl ⟨rfl,rfl,rfl,rfl,rfl⟩ rfl rfl rfl rfl rfl h_named Tryz.func8 h_facts h_inst h_wrap
  (fun os started H enc _=>lifted os started H enc)
theorem q_w:Rows.fnDropRunsRow.wfByText (OpenSpec.ofChange Rows.fnDropRunsSpec)=true:=by kernel_rfl
theorem q_m : Tryz.pinned.checked.prog.mainIs = some (true, "e043827108dcc887bd4d8702cc2d0929c4bc566a9d3f3c03145b71d0b3e42efb".toList) := by kernel_rfl
theorem q_looks:true=Tryz.pinned.checked.prog.looks []:=by kernel_rfl
theorem q_goes:false=Rows.fnDropRunsRow.goesBy Tryz.pinned.checked.prog:=by kernel_rfl
theorem q_all:([22].all fun u=>!Tryz.pinned.checked.prog.wantsStandIn u)=true:=by kernel_rfl
theorem q_fn:Tryz.pinned.checked.prog.funcs[8]? = some Tryz.f8:=Tryz.func8
theorem q_l (f:FuncId)(fn:Func)(hf:Tryz.pinned.checked.prog.funcNamed Rows.fnDropRunsRow.func=some f)(hfn:Tryz.pinned.checked.prog.funcs[f]? = some fn):true=Tryz.pinned.checked.prog.looks []∧∀(j:Nat) t,fn.params[j]? = some t→Tryz.pinned.checked.prog.wantsStandIn t=false:=by
 obtain rfl:f=8:=Option.some.inj (h_named.symm.trans hf) |>.symm
 obtain rfl:fn=Tryz.f8:=(Option.some.inj (q_fn.symm.trans hfn)).symm
 refine⟨q_looks,fun j t ht=>?_⟩
 rw[Tryz.params8]at ht
 have hm:t∈[22]:=by simpa using Array.mem_of_getElem? ht
 simpa using List.all_eq_true.1 q_all t hm
theorem proved:Rows.FnDropRunsCardSaid:=
 Claim7.holds_tied_plain_at .later [] [.widerDeep, .mapped] true (true, "e043827108dcc887bd4d8702cc2d0929c4bc566a9d3f3c03145b71d0b3e42efb") true over (fun _ h => by cases h) q_w (fun _ h => by cases h) fnDropRuns_row_tie rfl ⟨rfl, rfl⟩ q_m rfl q_l q_goes
end Go.Proofs.YtdlbfkfpogdiiaaGreatDoor.fnDropRunsDone

