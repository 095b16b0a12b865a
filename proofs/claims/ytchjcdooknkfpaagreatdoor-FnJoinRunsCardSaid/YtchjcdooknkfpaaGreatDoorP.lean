/- FnJoinRuns returns true for every input, and its input reads behind the call as it read before; no condition. -/
import Derived.Test.YtchjcdooknkfpaaGreatDoorRows
import Derived.Test.YtchjcdooknkfpaaGreatDoorZG
import Derived.LaidMore
import Derived.LaidOnce
import Derived.OpenVars
import Derived.SevenTiedAt
import Derived.Test.YtchjcdooknkfpaaGreatDoorCards
import Derived.Test.YtchjcdooknkfpaaGreatDoorTie
open Nat (reduceEqDiff reduceAdd reduceLeDiff reduceLT)
set_option linter.unusedVariables false
set_option linter.unusedSimpArgs false
set_option maxRecDepth 4000
namespace Go.Proofs.YtchjcdooknkfpaaGreatDoor.fnJoinRunsDone
open Go.ChangeShapes Go.WideShapes Go.ChangeAt Go.RowKit Go.AE.Y
theorem own:ownKnob Tryz.prog.godebug=none:=by kernel_rfl
theorem laidOut:laidOutB Tryz.prog=true:=by kernel_rfl
def laidL : List (String × DataW Unit) := [("loop.example/wholeway/impl.tries", Rows.laid_loop_example_wholeway_impl_tries)]
theorem gTries : Tryz.prog.globalNamed "loop.example/wholeway/impl.tries" = some 0 := by kernel_rfl
theorem tTries:(Tryz.prog.globals[0]?).map (·.type)=some 76:=by kernel_rfl
theorem door_met (os:Os)(args:Array Value):laidMetH Tryz.prog laidL ((World.doorLaid Tryz.prog 17 os).forCall (fun _ _=>0) ⟨#[],args,[]⟩).memory:=
 laidMetH_of_parts3 (fuel:=8) (laidMet_of_run' 8 (by kernel_rfl) (by kernel_rfl)) (by kernel_rfl) (by kernel_rfl)
set_option maxRecDepth 100000 in
theorem part3 {enc:TypeId×Value→Unit}{W:World}{m:Nat}{c:List Value}{a b d:Int}{p:List MemPlace}{sp:Nat→Bool}{hd:Bool}(h:DataW.trod enc Tryz.prog W 0 sp hd m 75 c=some (.agg [.lit (.int .i64 a),.lit (.int .i64 b),.lit (.int .i64 d)],p)):c=[.int .i64 a,.int .i64 b,.int .i64 d]:=by
 have c3:Tryz.prog.cellsOf 3=1:=by kernel_rfl
 have c117:Tryz.prog.cellsOf 75=3:=by kernel_rfl
 obtain⟨xs,m,_,ex,ak,hl,gJ⟩:=DataW.trod_array Tryz.underlying75 h
 rw[c117]at ak
 match c,ak with
 |[c0,c1,c2],_=>
  match xs,hl with
  |[x0,x1,x2],_=>
   have e3:=(DataW.agg.inj (Prod.mk.inj ex).1)
   simp only[List.map_cons,List.map_nil,List.cons.injEq,and_true]at e3
   have k0:=gJ 0 (by omega);have k1:=gJ 1 (by omega);have k2:=gJ 2 (by omega)
   rw[c3]at k0 k1 k2
   obtain⟨z0,a0,b0,_⟩:=DataW.trod_int Tryz.underlying3 k0
   obtain⟨z1,a1,b1,_⟩:=DataW.trod_int Tryz.underlying3 k1
   obtain⟨z2,a2,b2,_⟩:=DataW.trod_int Tryz.underlying3 k2
   simp_all
set_option maxRecDepth 100000 in
theorem tries_of {W:World}(h:laidMetH Tryz.prog laidL W):∀j,j<9→W.cell? ⟨0,j,none⟩=some (.int .i64 (tryZ.getD j 0)):=by
 rw[MakeChecks.laidMetH_plain _ _ _ (by kernel_rfl)]at h
 obtain⟨ps,⟨g,t,cs,fuel,p,q,hg,ht,hv,hd,_,_⟩,_,_⟩:=h
 obtain rfl:=Option.some.inj (gTries.symm.trans hg)
 obtain rfl:=Option.some.inj (tTries.symm.trans ht)
 have c117:Tryz.prog.cellsOf 75=3:=by kernel_rfl
 have c118:Tryz.prog.cellsOf 76=9:=by kernel_rfl
 obtain⟨xs,m,_,ex,ak,hl,gJ⟩:=DataW.trod_array Tryz.underlying76 hd
 rw[c118]at ak
 obtain⟨l⟩:=cs
 match xs,hl with
 |[x0,x1,x2],_=>
  have e3:=(DataW.agg.inj (Prod.mk.inj ex).1)
  simp only[List.map_cons,List.map_nil,List.cons.injEq,and_true]at e3
  have k0:=gJ 0 (by omega);have k1:=gJ 1 (by omega);have k2:=gJ 2 (by omega)
  rw[c117]at k0 k1 k2
  obtain⟨x0,p0⟩:=x0;obtain⟨x1,p1⟩:=x1;obtain⟨x2,p2⟩:=x2
  obtain⟨e0,e1,e2⟩:=e3
  simp only at e0 e1 e2
  subst e0;subst e1;subst e2
  have q0:=part3 k0;have q1:=part3 k1;have q2:=part3 k2
  have hl9:l.length=9:=by simpa using ak
  match l,hl9 with
  |[a0,a1,a2,a3,a4,a5,a6,a7,a8],_=>
   simp at q0 q1 q2
   intro j hj
   have:=World.var?_cell hg hv j
   rw[this]
   obtain⟨rfl,rfl,rfl⟩:=q0
   obtain⟨rfl,rfl,rfl⟩:=q1
   obtain⟨rfl,rfl,rfl⟩:=q2
   have hh:j=0∨j=1∨j=2∨j=3∨j=4∨j=5∨j=6∨j=7∨j=8:=by omega
   rcases hh with rfl|rfl|rfl|rfl|rfl|rfl|rfl|rfl|rfl <;> rfl
set_option maxRecDepth 20000 in
theorem far (a0:Option Addr)(len0 cap0:Nat)(w:World)(hl:¬len0≤1048576)(hm:len0≤maxLen) :
  Calls Tryz.prog 4 #[.slice a0 len0 cap0] w fun e w'=>e=.returned (.bool true)∧Below w.heap.size w w':=by
 have hp:(1048576:Int)<(len0:Int):=by omega
 go_enter Tryz.func4,Tryz.ntmps4
 go_wp2
 go_ret
 exact⟨rfl,Below.refl _ _⟩
theorem walk (a0:Option Addr)(len0 cap0:Nat)(z0:List Int)(w:World)(ht:∀j,j<9→w.cell? ⟨0,j,none⟩=some (.int .i64 (tryZ.getD j 0)))(h:Ie w a0 len0 cap0 z0)(hm:len0≤maxLen) :
  Calls Tryz.prog 4 #[.slice a0 len0 cap0] w fun e w'=>e=.returned (.bool true)∧Below w.heap.size w w':=by
 by_cases hl:len0≤1048576
 ·exact calls_of_acall3 (fun bs _=>FnJoinRuns_c rfl fun _=>rfl) ht h hl
 ·exact far a0 len0 cap0 w hl hm
set_option maxRecDepth 100000 in
theorem lifted (os:Os)(started:os.Started)(H:Type)(enc:TypeId×Value→H) :
  ReturnsInHanded {} Tryz.checked os 4 .any (fun w args=>(Rows.fnJoinRunsSpec.pre enc Tryz.prog Tryz.f4 [] false w args∧laidMetH Tryz.prog laidL w)∧sizedMet enc Tryz.prog Tryz.f4 (OpenSpec.ofChange Rows.fnJoinRunsSpec) false w args)
   (Rows.fnJoinRunsSpec.post enc Tryz.prog Tryz.f4 false true false false):=by
 refine returnsInHanded_of_change_and (C:=Tryz.checked) (X:=fun w _=>laidMetH Tryz.prog laidL w) (fun _ _ _ hh h=>h.of_heap hh) own started (by kernel_rfl) Tryz.func4
  (ChangeSpec.witness_shaped (enc:=enc) (C:=Tryz.checked) (os:=os) (X:=fun w _=>laidMetH Tryz.prog laidL w) false (World.doorLaid Tryz.prog 17 os) #[.slice none 0 0] 8 rfl (World.shaped_of_RefB (by kernel_rfl) (by kernel_rfl)) (by kernel_rfl) (by kernel_rfl) (by kernel_rfl) (door_met os _)) ?_
 intro W base args ds gs before pG hW _ _ hL _
 have eT:∀(j:Nat) t v,Tryz.f4.params[j]? = some t→args[j]? = some v→Value.okWide Tryz.prog W .any base t v:=pG
 have hW':=hW
 obtain⟨p,q,Ck,hV,rfl,fh,df⟩:=hW
 have hA:DataW.TrodAll enc Tryz.prog W 0 (fun _=>true) true Tryz.f4.params.toList args.toList ds p:=Ck
 rw[Tryz.params4]at hA eT
 obtain⟨v0,vs0,d0,ds0,p0,q0,kL,rfl,rfl,h0,r0⟩:=trodAll_cons hA
 obtain⟨rfl,rfl,rfl⟩:=trodAll_nil r0
 obtain rfl:args=#[v0]:=by cases args;simp_all
 obtain⟨a0,len0,cap0,rfl⟩:=okWide_slice Tryz.underlying22 (eT 0 22 v0 rfl rfl)
 have k0:=h0
 have lt0:∀x∈p0,x.block<W.heap.size:=by obtain⟨m,hm⟩:=k0;exact DataW.trod_lt m _ _ _ hm
 obtain⟨z0,w0,kh⟩:∃zs,Ie W a0 len0 cap0 zs∧len0≤maxLen:=by
  obtain⟨fuel,hf⟩:=h0
  rcases open_ints Tryz.underlying22 Tryz.underlying5 (by kernel_rfl) hf with ⟨lQ,_⟩|⟨x,l,c,zs,lQ,_,hl,hm,hz,_,cj,hwz⟩
  ·simp[Value.cells]at lQ
   obtain⟨rfl,rfl,rfl⟩:=lQ
   exact⟨[],.inl ⟨rfl,rfl,rfl,rfl⟩,Nat.zero_le _⟩
  ·simp[Value.cells]at lQ
   obtain⟨rfl,rfl,rfl⟩:=lQ
   exact⟨zs,.inr ⟨_,rfl,hl,by simpa using hz,cj,hwz⟩,Nat.le_trans hl hm⟩
 have mi:=trodVars_one hV
 obtain⟨gg,gt,gcs,gf,gd,gp,hgs,_⟩:=mi
 clear Ck pG
 refine (walk a0 len0 cap0 z0 W (tries_of hL) w0 kh).mono fun e W' ⟨he,bel⟩=>?_
 subst he
 subst hgs
 exact⟨_,rfl,_,_,_,[],_,q,hW',trodAll_mk1 (shut_bool Tryz.underlying4 _),(trodAll_cons_mk (Below.trod laidOut (by kernel_rfl) (of_decide_eq_true (by kernel_rfl)) k0 bel lt0) trodAll_mk0),Below.trodVars laidOut bel (by kernel_rfl) hV,bel.frame _,fun h=>by cases h⟩
theorem h_named:Tryz.pinned.checked.prog.funcNamed Rows.fnJoinRunsRow.func=some 4:=by kernel_rfl
theorem h_p0:((Rows.fnJoinRunsRow.wf (OpenSpec.ofChange Rows.fnJoinRunsSpec))&&(laidOutB Tryz.pinned.checked.prog)&&(mapsRowed Tryz.pinned.checked.prog)&&(Tryz.f4.params.all (Tryz.pinned.checked.prog.readableRec ·))&&(namedTie Tryz.pinned.checked.prog Rows.fnJoinRunsRow.named Rows.fnJoinRunsSpec.vars)&&(Rows.fnJoinRunsRow.stops == [])&&(Tryz.pinned.checked.prog.stops == [])&&(Rows.fnJoinRunsRow.knobs == [])&&(Tryz.pinned.checked.prog.stopKnobs == [])&&(Rows.fnJoinRunsRow.inPlace == Tryz.pinned.checked.prog.inPlace 4)&&(Rows.fnJoinRunsRow.unfollowed == Tryz.pinned.checked.prog.unfollowed 4))=true:=by kernel_rfl
theorem h_p1:((Rows.fnJoinRunsRow.recurses == Tryz.pinned.checked.prog.recurses 4)&&(Rows.fnJoinRunsRow.named == Tryz.pinned.checked.prog.varsNamed 4)&&(Rows.fnJoinRunsRow.maps == (Tryz.f4.params.toList++Rows.fnJoinRunsSpec.plain.varTypes Tryz.pinned.checked.prog).any (Tryz.pinned.checked.prog.mapsRec ·))&&(Rows.fnJoinRunsRow.ifaces == (Tryz.f4.params.toList++Rows.fnJoinRunsSpec.plain.varTypes Tryz.pinned.checked.prog).any (Tryz.pinned.checked.prog.ifacesRec ·))&&(Rows.fnJoinRunsRow.mapsOut == Tryz.pinned.checked.prog.mapsAmong Tryz.f4.resultTypes.toList))=true:=by kernel_rfl
theorem h_p2:((Rows.fnJoinRunsRow.loops == (Tryz.f4.params.toList++Rows.fnJoinRunsSpec.plain.varTypes Tryz.pinned.checked.prog).any (Tryz.pinned.checked.prog.loopsFrom ·))&&(Rows.fnJoinRunsRow.wideKeys == (Tryz.f4.params.toList++Rows.fnJoinRunsSpec.plain.varTypes Tryz.pinned.checked.prog++Tryz.f4.resultTypes.toList).any (Tryz.pinned.checked.prog.wideKeysFrom ·))&&(Rows.fnJoinRunsSpec.vars.all (Tryz.pinned.checked.prog.varReadable ·))&&(Tryz.f4.resultTypes.all (fun t=>Tryz.pinned.checked.prog.readableRec t&&decide (t<Tryz.pinned.checked.prog.types.size)))&&(Rows.fnJoinRunsRow.ifacesOut == Tryz.f4.resultTypes.toList.any (Tryz.pinned.checked.prog.ifacesRec ·))&&(Rows.fnJoinRunsRow.loopsOut == Tryz.f4.resultTypes.toList.any (Tryz.pinned.checked.prog.loopsFrom ·))&&(Rows.fnJoinRunsRow.plainKeys == Tryz.pinned.checked.prog.plainKeys)&&(Rows.fnJoinRunsRow.shortTexts.isNone)&&(Tryz.pinned.checked.prog.stopsHeard)&&(Tryz.pinned.checked.prog.mayEnter)&&(Rows.fnJoinRunsRow.lifted == Tryz.pinned.checked.prog.liftsFinal)&&(Tryz.pinned.checked.prog.make == some Rows.fnJoinRunsRow.make)&&(Rows.fnJoinRunsRow.kinds == (if Rows.fnJoinRunsRow.domain.isEmpty then []else Tryz.f4.params.toList.map fun t=>match Tryz.pinned.checked.prog.underlying t with|some (.int k)=>some k|_=>none))&&(Rows.fnJoinRunsRow.pinned == Rows.fnJoinRunsRow.pinnedBy)&&(Rows.fnJoinRunsRow.veiled == (Tryz.f4.params.toList++Rows.fnJoinRunsSpec.plain.varTypes Tryz.pinned.checked.prog++Tryz.f4.resultTypes.toList).any (Tryz.pinned.checked.prog.veiledRec ·))&&(Rows.fnJoinRunsRow.veiledFits Tryz.pinned.checked.prog Tryz.f4.params.toList (Tryz.f4.params.toList++Rows.fnJoinRunsSpec.plain.varTypes Tryz.pinned.checked.prog++Tryz.f4.resultTypes.toList)))=true:=by kernel_rfl
theorem h_facts:joinedFacts Tryz.pinned.checked.prog 4 Tryz.f4 Rows.fnJoinRunsSpec Rows.fnJoinRunsRow=true:=by
 have a0:=h_p0
 have a1:=h_p1
 have a2:=h_p2
 simp only[Bool.and_eq_true]at a0 a1 a2
 simp only[joinedFacts,Bool.and_eq_true,a0,a1,a2,and_self]
 exact⟨⟨⟨⟨trivial,by kernel_rfl⟩,trivial⟩,trivial⟩,trivial⟩
theorem h_inst:Tryz.f4.isInstance Tryz.pinned.checked.prog Rows.fnJoinRunsRow.origin Rows.fnJoinRunsRow.targs:=of_decide_eq_true (by kernel_rfl)
theorem h_wrap:Tryz.f4.isWrapper Tryz.pinned.checked.prog Rows.fnJoinRunsRow.wrapper Rows.fnJoinRunsRow.mainSum:=by
 unfold Func.isWrapper;first|(rw[if_pos (by decide +kernel)];kernel_rfl)|(rw[if_neg (by decide +kernel)];exact⟨rfl,rfl⟩)
theorem over:Rows.fnJoinRunsRow.holds Tryz.pinned (OpenSpec.ofChange Rows.fnJoinRunsSpec):=
 OpenClaim.holds_of_wide 4 Tryz.f4 rfl rfl rfl rfl rfl rfl rfl ⟨rfl,rfl,rfl,rfl,rfl⟩ rfl rfl rfl rfl rfl h_named Tryz.func4 h_facts h_inst h_wrap
  (fun os started H enc _=>lifted os started H enc)
theorem q_w:Rows.fnJoinRunsRow.wfByText (OpenSpec.ofChange Rows.fnJoinRunsSpec)=true:=by kernel_rfl
theorem q_m : Tryz.pinned.checked.prog.mainIs = some (true, "32867aed4f01803f7394347e01b76bef52de78800b2b2695c6de138b16fb97c4".toList) := by kernel_rfl
theorem q_looks:true=Tryz.pinned.checked.prog.looks []:=by kernel_rfl
theorem q_goes:false=Rows.fnJoinRunsRow.goesBy Tryz.pinned.checked.prog:=by kernel_rfl
theorem q_all:([22].all fun u=>!Tryz.pinned.checked.prog.wantsStandIn u)=true:=by kernel_rfl
theorem q_fn:Tryz.pinned.checked.prog.funcs[4]? = some Tryz.f4:=Tryz.func4
theorem q_l (f:FuncId)(fn:Func)(hf:Tryz.pinned.checked.prog.funcNamed Rows.fnJoinRunsRow.func=some f)(ib:Tryz.pinned.checked.prog.funcs[f]? = some fn):true=Tryz.pinned.checked.prog.looks []∧∀(j:Nat) t,fn.params[j]? = some t→Tryz.pinned.checked.prog.wantsStandIn t=false:=by
 obtain rfl:f=4:=Option.some.inj (h_named.symm.trans hf) |>.symm
 obtain rfl:fn=Tryz.f4:=(Option.some.inj (q_fn.symm.trans ib)).symm
 refine⟨q_looks,fun j t ht=>?_⟩
 rw[Tryz.params4]at ht
 have hm:t∈[22]:=by simpa using Array.mem_of_getElem? ht
 simpa using List.all_eq_true.1 q_all t hm
theorem proved:Rows.FnJoinRunsCardSaid:=
 Claim7.holds_tied_plain_at .later [] [.data] true (true, "32867aed4f01803f7394347e01b76bef52de78800b2b2695c6de138b16fb97c4") true over (fun _ h => by cases h) q_w (fun _ h => by cases h) fnJoinRuns_row_tie rfl ⟨rfl, rfl⟩ q_m rfl q_l q_goes
end Go.Proofs.YtchjcdooknkfpaaGreatDoor.fnJoinRunsDone

