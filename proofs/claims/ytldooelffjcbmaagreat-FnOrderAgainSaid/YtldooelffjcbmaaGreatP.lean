/- FnOrderAgain returns true for every input, and its input reads behind the call as it read before; no condition. -/
import Derived.Test.YtldooelffjcbmaaGreatRows
import Derived.Test.YtldooelffjcbmaaGreatZF
open Nat (reduceEqDiff reduceAdd reduceLeDiff reduceLT)
set_option linter.unusedVariables false
set_option linter.unusedSimpArgs false
set_option maxRecDepth 4000
namespace Go.Proofs.YtldooelffjcbmaaGreat.fnOrderAgainDone
open Go.ChangeShapes Go.WideShapes Go.ChangeAt Go.RowKit Go.AE.Y
theorem own:ownKnob Tryz.prog.godebug=none:=by kernel_rfl
theorem laidOut:laidOutB Tryz.prog=true:=by kernel_rfl
set_option maxRecDepth 20000 in
theorem far (a0:Option Addr)(len0 cap0:Nat)(w:World)(hl:¬len0≤1048576)(hm:len0≤maxLen) :
  Calls Tryz.prog 10 #[.slice a0 len0 cap0] w fun e w'=>e=.returned (.bool true)∧Below w.heap.size w w':=by
 have hp:(1048576:Int)<(len0:Int):=by omega
 go_enter Tryz.func10,Tryz.ntmps10
 go_wp2
 go_ret
 exact⟨rfl,Below.refl _ _⟩
theorem walk (a0:Option Addr)(len0 cap0:Nat)(z0:List Int)(w:World)(h:Qbkk w a0 len0 cap0 z0)(hm:len0≤maxLen) :
  Calls Tryz.prog 10 #[.slice a0 len0 cap0] w fun e w'=>e=.returned (.bool true)∧Below w.heap.size w w':=by
 by_cases hl:len0≤1048576
 ·exact calls_of_acall (fun bs _=>FnOrderAgain_c fun _=>rfl) h hl
 ·exact far a0 len0 cap0 w hl hm
set_option maxRecDepth 100000 in
theorem lifted (os:Os)(started:os.Started)(H:Type)(enc:TypeId×Value→H) :
  ReturnsInHanded {} Tryz.checked os 10 .any (Rows.fnOrderAgainSpec.pre6 enc Tryz.prog Tryz.f10 Rows.fnOrderAgainRow.domain false) (Rows.fnOrderAgainSpec.post enc Tryz.prog Tryz.f10 false true false false):=by
 refine returnsInHanded_of_change (C:=Tryz.checked) own started (by kernel_rfl) Tryz.func10
  (ChangeSpec.witness6 (enc:=enc) (C:=Tryz.checked) false ⟨#[],#[.slice none 0 0],[]⟩ 10 (by kernel_rfl) (by kernel_rfl) (by kernel_rfl) (by kernel_rfl)) ?_
 intro W base args ds gs before hval0 hW hcnd _
 have hval:∀(j:Nat) t v,Tryz.f10.params[j]? = some t→args[j]? = some v→Value.okWide Tryz.prog W .any base t v:=hval0
 have hW':=hW
 obtain⟨p,q,hA0,hV,rfl,hfz,hnd⟩:=hW
 have hA:DataW.TrodAll enc Tryz.prog W 0 (fun _=>true) true Tryz.f10.params.toList args.toList ds p:=hA0
 rw[Tryz.params10]at hA hval
 obtain⟨v0,vs0,d0,ds0,p0,q0,hargs,rfl,rfl,h0,r0⟩:=trodAll_cons hA
 obtain⟨rfl,rfl,rfl⟩:=trodAll_nil r0
 obtain rfl:args=#[v0]:=by cases args;simp_all
 obtain⟨rfl,rfl⟩:=trodVars_none hV
 obtain⟨a0,len0,cap0,rfl⟩:=okWide_slice Tryz.underlying22 (hval 0 22 v0 rfl rfl)
 have k0:=h0
 have lt0:∀x∈p0,x.block<W.heap.size:=by obtain⟨m,hm⟩:=k0;exact DataW.trod_lt m _ _ _ hm
 obtain⟨z0,w0,hm0⟩:∃zs,Qbkk W a0 len0 cap0 zs∧len0≤maxLen:=by
  obtain⟨fuel,hf⟩:=h0
  rcases open_ints Tryz.underlying22 Tryz.underlying5 (by kernel_rfl) hf with ⟨hcs,_⟩|⟨x,l,c,zs,hcs,_,hl,hm,hz,_,hcell,hwz⟩
  ·simp[Value.cells]at hcs
   obtain⟨rfl,rfl,rfl⟩:=hcs
   exact⟨[],.inl ⟨rfl,rfl,rfl,rfl⟩,Nat.zero_le _⟩
  ·simp[Value.cells]at hcs
   obtain⟨rfl,rfl,rfl⟩:=hcs
   exact⟨zs,.inr ⟨_,rfl,hl,by simpa using hz,hcell,hwz⟩,Nat.le_trans hl hm⟩
 clear hA0 hval0
 refine (walk a0 len0 cap0 z0 W w0 hm0).mono fun e W' ⟨he,bel⟩=>?_
 subst he
 exact⟨_,rfl,_,_,_,[],_,[],hW',trodAll_mk1 (shut_bool Tryz.underlying4 _),(trodAll_cons_mk (Below.trod laidOut (by kernel_rfl) (of_decide_eq_true (by kernel_rfl)) k0 bel lt0) trodAll_mk0),rfl,bel.frame _,fun h=>by cases h⟩
theorem h_named:Tryz.pinned.checked.prog.funcNamed Rows.fnOrderAgainRow.func=some 10:=by kernel_rfl
theorem h_p0:((Rows.fnOrderAgainRow.wf (OpenSpec.ofChange Rows.fnOrderAgainSpec))&&(laidOutB Tryz.pinned.checked.prog)&&(mapsRowed Tryz.pinned.checked.prog)&&(Tryz.f10.params.all (Tryz.pinned.checked.prog.readableRec ·))&&(namedTie Tryz.pinned.checked.prog Rows.fnOrderAgainRow.named Rows.fnOrderAgainSpec.vars)&&(Rows.fnOrderAgainRow.stops == [])&&(Tryz.pinned.checked.prog.stops == [])&&(Rows.fnOrderAgainRow.knobs == [])&&(Tryz.pinned.checked.prog.stopKnobs == [])&&(Rows.fnOrderAgainRow.inPlace == Tryz.pinned.checked.prog.inPlace 10)&&(Rows.fnOrderAgainRow.unfollowed == Tryz.pinned.checked.prog.unfollowed 10))=true:=by kernel_rfl
theorem h_p1:((Rows.fnOrderAgainRow.recurses == Tryz.pinned.checked.prog.recurses 10)&&(Rows.fnOrderAgainRow.named == Tryz.pinned.checked.prog.varsNamed 10)&&(Rows.fnOrderAgainRow.maps == (Tryz.f10.params.toList++Rows.fnOrderAgainSpec.plain.varTypes Tryz.pinned.checked.prog).any (Tryz.pinned.checked.prog.mapsRec ·))&&(Rows.fnOrderAgainRow.ifaces == (Tryz.f10.params.toList++Rows.fnOrderAgainSpec.plain.varTypes Tryz.pinned.checked.prog).any (Tryz.pinned.checked.prog.ifacesRec ·))&&(Rows.fnOrderAgainRow.mapsOut == Tryz.pinned.checked.prog.mapsAmong Tryz.f10.resultTypes.toList))=true:=by kernel_rfl
theorem h_p2:((Rows.fnOrderAgainRow.loops == (Tryz.f10.params.toList++Rows.fnOrderAgainSpec.plain.varTypes Tryz.pinned.checked.prog).any (Tryz.pinned.checked.prog.loopsFrom ·))&&(Rows.fnOrderAgainRow.wideKeys == (Tryz.f10.params.toList++Rows.fnOrderAgainSpec.plain.varTypes Tryz.pinned.checked.prog++Tryz.f10.resultTypes.toList).any (Tryz.pinned.checked.prog.wideKeysFrom ·))&&(Rows.fnOrderAgainSpec.vars.all (Tryz.pinned.checked.prog.varReadable ·))&&(Tryz.f10.resultTypes.all (fun t=>Tryz.pinned.checked.prog.readableRec t&&decide (t<Tryz.pinned.checked.prog.types.size)))&&(Rows.fnOrderAgainRow.ifacesOut == Tryz.f10.resultTypes.toList.any (Tryz.pinned.checked.prog.ifacesRec ·))&&(Rows.fnOrderAgainRow.loopsOut == Tryz.f10.resultTypes.toList.any (Tryz.pinned.checked.prog.loopsFrom ·))&&(Rows.fnOrderAgainRow.plainKeys == Tryz.pinned.checked.prog.plainKeys)&&(Rows.fnOrderAgainRow.shortTexts.isNone)&&(Tryz.pinned.checked.prog.stopsHeard)&&(Tryz.pinned.checked.prog.mayEnter)&&(Rows.fnOrderAgainRow.lifted == Tryz.pinned.checked.prog.liftsFinal)&&(Tryz.pinned.checked.prog.make == some Rows.fnOrderAgainRow.make)&&(Rows.fnOrderAgainRow.kinds == (if Rows.fnOrderAgainRow.domain.isEmpty then []else Tryz.f10.params.toList.map fun t=>match Tryz.pinned.checked.prog.underlying t with|some (.int k)=>some k|_=>none))&&(Rows.fnOrderAgainRow.pinned == Rows.fnOrderAgainRow.pinnedBy)&&(Rows.fnOrderAgainRow.veiled == (Tryz.f10.params.toList++Rows.fnOrderAgainSpec.plain.varTypes Tryz.pinned.checked.prog++Tryz.f10.resultTypes.toList).any (Tryz.pinned.checked.prog.veiledRec ·))&&(Rows.fnOrderAgainRow.veiledFits Tryz.pinned.checked.prog Tryz.f10.params.toList (Tryz.f10.params.toList++Rows.fnOrderAgainSpec.plain.varTypes Tryz.pinned.checked.prog++Tryz.f10.resultTypes.toList)))=true:=by kernel_rfl
theorem h_facts:joinedFacts Tryz.pinned.checked.prog 10 Tryz.f10 Rows.fnOrderAgainSpec Rows.fnOrderAgainRow=true:=by
 have a0:=h_p0
 have a1:=h_p1
 have a2:=h_p2
 simp only[Bool.and_eq_true]at a0 a1 a2
 simp only[joinedFacts,Bool.and_eq_true,a0,a1,a2,and_self]
 exact⟨⟨⟨⟨trivial,by kernel_rfl⟩,trivial⟩,trivial⟩,trivial⟩
theorem h_inst:Tryz.f10.isInstance Tryz.pinned.checked.prog Rows.fnOrderAgainRow.origin Rows.fnOrderAgainRow.targs:=of_decide_eq_true (by kernel_rfl)
theorem h_wrap:Tryz.f10.isWrapper Tryz.pinned.checked.prog Rows.fnOrderAgainRow.wrapper Rows.fnOrderAgainRow.mainSum:=by
 unfold Func.isWrapper;first|(rw[if_pos (by decide +kernel)];kernel_rfl)|(rw[if_neg (by decide +kernel)];exact⟨rfl,rfl⟩)
theorem over:Rows.fnOrderAgainRow.holds Tryz.pinned (OpenSpec.ofChange Rows.fnOrderAgainSpec):=
 OpenClaim.holds_of_wide 10 Tryz.f10 rfl rfl rfl rfl rfl rfl rfl ⟨rfl,rfl,rfl,rfl,rfl⟩ rfl rfl rfl rfl rfl h_named Tryz.func10 h_facts h_inst h_wrap
  (fun os started H enc _=>lifted os started H enc)
theorem proved:Rows.FnOrderAgainSaid:=over
end Go.Proofs.YtldooelffjcbmaaGreat.fnOrderAgainDone

