/- FnJoinedNone returns true for every input, and its input reads behind the call as it read before; no condition. -/
import Derived.Test.YtchjcdooknkfpaaGreatRows
import Derived.Test.YtchjcdooknkfpaaGreatZG
open Nat (reduceEqDiff reduceAdd reduceLeDiff reduceLT)
set_option linter.unusedVariables false
set_option linter.unusedSimpArgs false
set_option maxRecDepth 4000
namespace Go.Proofs.YtchjcdooknkfpaaGreat.fnJoinedNoneDone
open Go.ChangeShapes Go.WideShapes Go.ChangeAt Go.RowKit Go.AE.Y
theorem own:ownKnob Tryz.prog.godebug=none:=by kernel_rfl
theorem laidOut:laidOutB Tryz.prog=true:=by kernel_rfl
set_option maxRecDepth 20000 in
theorem far (a0:Option Addr)(len0 cap0:Nat)(w:World)(hl:¬len0≤1048576)(hm:len0≤maxLen) :
  Calls Tryz.prog 3 #[.slice a0 len0 cap0] w fun e w'=>e=.returned (.bool true)∧Below w.heap.size w w':=by
 have hp:(1048576:Int)<(len0:Int):=by omega
 go_enter Tryz.func3,Tryz.ntmps3
 go_wp2
 go_ret
 exact⟨rfl,Below.refl _ _⟩
theorem walk (a0:Option Addr)(len0 cap0:Nat)(z0:List Int)(w:World)(h:Fg w a0 len0 cap0 z0)(hm:len0≤maxLen) :
  Calls Tryz.prog 3 #[.slice a0 len0 cap0] w fun e w'=>e=.returned (.bool true)∧Below w.heap.size w w':=by
 by_cases hl:len0≤1048576
 ·exact calls_of_acall (fun bs _=>FnJoinedNone_c fun _=>rfl) h hl
 ·exact far a0 len0 cap0 w hl hm
set_option maxRecDepth 100000 in
theorem lifted (os:Os)(started:os.Started)(H:Type)(enc:TypeId×Value→H) :
  ReturnsInHanded {} Tryz.checked os 3 .any (Rows.fnJoinedNoneSpec.pre6 enc Tryz.prog Tryz.f3 Rows.fnJoinedNoneRow.domain false) (Rows.fnJoinedNoneSpec.post enc Tryz.prog Tryz.f3 false true false false):=by
 refine returnsInHanded_of_change (C:=Tryz.checked) own started (by kernel_rfl) Tryz.func3
  (ChangeSpec.witness6 (enc:=enc) (C:=Tryz.checked) false ⟨#[],#[.slice none 0 0],[]⟩ 3 (by kernel_rfl) (by kernel_rfl) (by kernel_rfl) (by kernel_rfl)) ?_
 intro W base args ds gs before oA hW hcnd _
 have fw:∀(j:Nat) t v,Tryz.f3.params[j]? = some t→args[j]? = some v→Value.okWide Tryz.prog W .any base t v:=oA
 have hW':=hW
 obtain⟨p,q,A2,hV,rfl,eK,cM⟩:=hW
 have hA:DataW.TrodAll enc Tryz.prog W 0 (fun _=>true) true Tryz.f3.params.toList args.toList ds p:=A2
 rw[Tryz.params3]at hA fw
 obtain⟨v0,vs0,d0,ds0,p0,q0,Ag,rfl,rfl,h0,r0⟩:=trodAll_cons hA
 obtain⟨rfl,rfl,rfl⟩:=trodAll_nil r0
 obtain rfl:args=#[v0]:=by cases args;simp_all
 obtain⟨rfl,rfl⟩:=trodVars_none hV
 obtain⟨a0,len0,cap0,rfl⟩:=okWide_slice Tryz.underlying22 (fw 0 22 v0 rfl rfl)
 have k0:=h0
 have lt0:∀x∈p0,x.block<W.heap.size:=by obtain⟨m,hm⟩:=k0;exact DataW.trod_lt m _ _ _ hm
 obtain⟨z0,w0,jU⟩:∃zs,Fg W a0 len0 cap0 zs∧len0≤maxLen:=by
  obtain⟨fuel,hf⟩:=h0
  rcases open_ints Tryz.underlying22 Tryz.underlying5 (by kernel_rfl) hf with ⟨lh,_⟩|⟨x,l,c,zs,lh,_,hl,hm,hz,_,bX,hwz⟩
  ·simp[Value.cells]at lh
   obtain⟨rfl,rfl,rfl⟩:=lh
   exact⟨[],.inl ⟨rfl,rfl,rfl,rfl⟩,Nat.zero_le _⟩
  ·simp[Value.cells]at lh
   obtain⟨rfl,rfl,rfl⟩:=lh
   exact⟨zs,.inr ⟨_,rfl,hl,by simpa using hz,bX,hwz⟩,Nat.le_trans hl hm⟩
 clear A2 oA
 refine (walk a0 len0 cap0 z0 W w0 jU).mono fun e W' ⟨he,bel⟩=>?_
 subst he
 exact⟨_,rfl,_,_,_,[],_,[],hW',trodAll_mk1 (shut_bool Tryz.underlying4 _),(trodAll_cons_mk (Below.trod laidOut (by kernel_rfl) (of_decide_eq_true (by kernel_rfl)) k0 bel lt0) trodAll_mk0),rfl,bel.frame _,fun h=>by cases h⟩
theorem h_named:Tryz.pinned.checked.prog.funcNamed Rows.fnJoinedNoneRow.func=some 3:=by kernel_rfl
theorem h_p0:((Rows.fnJoinedNoneRow.wf (OpenSpec.ofChange Rows.fnJoinedNoneSpec))&&(laidOutB Tryz.pinned.checked.prog)&&(mapsRowed Tryz.pinned.checked.prog)&&(Tryz.f3.params.all (Tryz.pinned.checked.prog.readableRec ·))&&(namedTie Tryz.pinned.checked.prog Rows.fnJoinedNoneRow.named Rows.fnJoinedNoneSpec.vars)&&(Rows.fnJoinedNoneRow.stops == [])&&(Tryz.pinned.checked.prog.stops == [])&&(Rows.fnJoinedNoneRow.knobs == [])&&(Tryz.pinned.checked.prog.stopKnobs == [])&&(Rows.fnJoinedNoneRow.inPlace == Tryz.pinned.checked.prog.inPlace 3)&&(Rows.fnJoinedNoneRow.unfollowed == Tryz.pinned.checked.prog.unfollowed 3))=true:=by kernel_rfl
theorem h_p1:((Rows.fnJoinedNoneRow.recurses == Tryz.pinned.checked.prog.recurses 3)&&(Rows.fnJoinedNoneRow.named == Tryz.pinned.checked.prog.varsNamed 3)&&(Rows.fnJoinedNoneRow.maps == (Tryz.f3.params.toList++Rows.fnJoinedNoneSpec.plain.varTypes Tryz.pinned.checked.prog).any (Tryz.pinned.checked.prog.mapsRec ·))&&(Rows.fnJoinedNoneRow.ifaces == (Tryz.f3.params.toList++Rows.fnJoinedNoneSpec.plain.varTypes Tryz.pinned.checked.prog).any (Tryz.pinned.checked.prog.ifacesRec ·))&&(Rows.fnJoinedNoneRow.mapsOut == Tryz.pinned.checked.prog.mapsAmong Tryz.f3.resultTypes.toList))=true:=by kernel_rfl
theorem h_p2:((Rows.fnJoinedNoneRow.loops == (Tryz.f3.params.toList++Rows.fnJoinedNoneSpec.plain.varTypes Tryz.pinned.checked.prog).any (Tryz.pinned.checked.prog.loopsFrom ·))&&(Rows.fnJoinedNoneRow.wideKeys == (Tryz.f3.params.toList++Rows.fnJoinedNoneSpec.plain.varTypes Tryz.pinned.checked.prog++Tryz.f3.resultTypes.toList).any (Tryz.pinned.checked.prog.wideKeysFrom ·))&&(Rows.fnJoinedNoneSpec.vars.all (Tryz.pinned.checked.prog.varReadable ·))&&(Tryz.f3.resultTypes.all (fun t=>Tryz.pinned.checked.prog.readableRec t&&decide (t<Tryz.pinned.checked.prog.types.size)))&&(Rows.fnJoinedNoneRow.ifacesOut == Tryz.f3.resultTypes.toList.any (Tryz.pinned.checked.prog.ifacesRec ·))&&(Rows.fnJoinedNoneRow.loopsOut == Tryz.f3.resultTypes.toList.any (Tryz.pinned.checked.prog.loopsFrom ·))&&(Rows.fnJoinedNoneRow.plainKeys == Tryz.pinned.checked.prog.plainKeys)&&(Rows.fnJoinedNoneRow.shortTexts.isNone)&&(Tryz.pinned.checked.prog.stopsHeard)&&(Tryz.pinned.checked.prog.mayEnter)&&(Rows.fnJoinedNoneRow.lifted == Tryz.pinned.checked.prog.liftsFinal)&&(Tryz.pinned.checked.prog.make == some Rows.fnJoinedNoneRow.make)&&(Rows.fnJoinedNoneRow.kinds == (if Rows.fnJoinedNoneRow.domain.isEmpty then []else Tryz.f3.params.toList.map fun t=>match Tryz.pinned.checked.prog.underlying t with|some (.int k)=>some k|_=>none))&&(Rows.fnJoinedNoneRow.pinned == Rows.fnJoinedNoneRow.pinnedBy)&&(Rows.fnJoinedNoneRow.veiled == (Tryz.f3.params.toList++Rows.fnJoinedNoneSpec.plain.varTypes Tryz.pinned.checked.prog++Tryz.f3.resultTypes.toList).any (Tryz.pinned.checked.prog.veiledRec ·))&&(Rows.fnJoinedNoneRow.veiledFits Tryz.pinned.checked.prog Tryz.f3.params.toList (Tryz.f3.params.toList++Rows.fnJoinedNoneSpec.plain.varTypes Tryz.pinned.checked.prog++Tryz.f3.resultTypes.toList)))=true:=by kernel_rfl
theorem h_facts:joinedFacts Tryz.pinned.checked.prog 3 Tryz.f3 Rows.fnJoinedNoneSpec Rows.fnJoinedNoneRow=true:=by
 have a0:=h_p0
 have a1:=h_p1
 have a2:=h_p2
 simp only[Bool.and_eq_true]at a0 a1 a2
 simp only[joinedFacts,Bool.and_eq_true,a0,a1,a2,and_self]
 exact⟨⟨⟨⟨trivial,by kernel_rfl⟩,trivial⟩,trivial⟩,trivial⟩
theorem h_inst:Tryz.f3.isInstance Tryz.pinned.checked.prog Rows.fnJoinedNoneRow.origin Rows.fnJoinedNoneRow.targs:=of_decide_eq_true (by kernel_rfl)
theorem h_wrap:Tryz.f3.isWrapper Tryz.pinned.checked.prog Rows.fnJoinedNoneRow.wrapper Rows.fnJoinedNoneRow.mainSum:=by
 unfold Func.isWrapper;first|(rw[if_pos (by decide +kernel)];kernel_rfl)|(rw[if_neg (by decide +kernel)];exact⟨rfl,rfl⟩)
theorem over:Rows.fnJoinedNoneRow.holds Tryz.pinned (OpenSpec.ofChange Rows.fnJoinedNoneSpec):=
 OpenClaim.holds_of_wide 3 Tryz.f3 rfl rfl rfl rfl rfl rfl rfl ⟨rfl,rfl,rfl,rfl,rfl⟩ rfl rfl rfl rfl rfl h_named Tryz.func3 h_facts h_inst h_wrap
  (fun os started H enc _=>lifted os started H enc)
theorem proved:Rows.FnJoinedNoneSaid:=over
end Go.Proofs.YtchjcdooknkfpaaGreat.fnJoinedNoneDone

