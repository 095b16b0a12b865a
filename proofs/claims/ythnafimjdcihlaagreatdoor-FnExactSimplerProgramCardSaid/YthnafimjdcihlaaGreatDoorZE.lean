/- Part 5 of the proof: the engine, codes, walks and plain laws, each named where it stands. -/
import Derived.Test.YthnafimjdcihlaaGreatDoorZD
open Nat (reduceEqDiff reduceAdd reduceLeDiff reduceLT)
set_option linter.unusedVariables false
set_option linter.unusedSimpArgs false
set_option maxRecDepth 4000
set_option maxHeartbeats 8000000
namespace Go.AE.Y
open Go.Proofs.Tryz
def Qhe:List Item:=[fB 3 false]
def Qhf:List Item:=[oJ 9 8]
def Qhg:List Item:=[fB 3 false]
def Quu:SC:=cT 9 (sR (fI 10 (.bld [.sl true 3 []] [])::sJ 1 2 10::Qhg) [2,3] .ret) .skip
def Qhh:List Item:=[sJ 1 4 12]
def Qhi:List Item:=eI 4 (.alloc [.sl true 3 []])::Qhh
def Qhj:List Item:=[mJ 6 17]
def Qhk:List Item:=sJ 1 5 16::Qhj
def Qhl:List Item:=mJ 13 15::fI 16 (.ext (.t 13) 0)::fI 17 (.ext (.t 13) 1)::eI 5 (.alloc [.sl true 3 []])::Qhk
def Qhm:List Item:=[mJ 6 23]
def Qg0:List Item:=mJ 19 21::fI 22 (.ext (.t 19) 0)::fI 23 (.ext (.t 19) 1)::sJ 1 5 22::Qhm
def Qs0:SC:=cT 18 (.reg (tJ 20 1 5::aJ 21 Qe9 [.t 20]::Qg0) [2,4,5,6]) .skip
def Qg1:List Item:=[pT 30 26 29]
def Qg2:List Item:=[mJ 3 32]
def Qs1:SC:=cT 30 (sR (tJ 31 1 4::mJ 32 6::sJ 1 2 31::Qg2) [2,3] .ret) .skip
def Qs2:SC:=.reg [tJ 33 1 5,sJ 1 4 33] [2,4]
def Qs3:SC:=.seq (sR (mJ 24 6::oJ 25 24::mJ 26 25::gF 27 26 (.ld 1 true (.t 5))::gF 28 26 (.ld 1 true (.t 4))::.e (some 29) (some (26,false)) (.call Qga [.t 27,.t 28])::Qg1) [2,4,5,6,30] Qs1) Qs2
def Qs4:SC:=.seq (sR [mJ 18 6] [2,4,5,6,18] Qs0) Qs3
def Qg3:List Item:=[sJ 1 4 34]
def Qs5:SC:=.reg (eI 4 (.alloc [.sl true 3 []])::Qg3) [2,4]
def Qs6:SC:=sR [tJ 34 1 4] [2,34] Qs5
def Qq6:SC:=.seq (.block 1 (sR (tJ 14 1 4::aJ 15 Qej [.t 14]::Qhl) [2,4,5,6] Qs4)) Qs6
def Qs7:SC:=sR (tJ 11 1 1::aJ 12 Qgd [.t 11]::Qhi) [2,4] (bL 0 Qq6)
def Qs8:SC:=.seq (sR (tJ 7 1 1::aJ 8 Qoj [.t 7]::Qhf) [1,2,9] Quu) Qs7
def Q0u:SC:=sR (vJ 1 0::eI 2 (.alloc [.sl true 3 []])::Qhe) [1,2] Qs8
def Qfh:List RS:=[.cell 2 1 true,.tmp 3]
theorem Qz8:mFn prog Qbe 1 35 Q0u Qfh=true:=by kernel_rfl
def Qhv:List Item:=[fB 3 false]
def Qhw:List Item:=eI 2 (.alloc [.sl true 3 []])::Qhv
def Qhx:List Item:=[oJ 7 6]
def Qhy:List Item:=[fB 3 false]
def Qwq:SC:=cT 7 (sR (fI 8 (.bld [.sl true 3 []] [])::sJ 1 2 8::Qhy) [2,3] .ret) .skip
def Qhz:List Item:=[sJ 1 4 11]
def Qh0:List Item:=eI 4 (.alloc [.sl true 3 []])::Qhz
def Qh1:List Item:=aJ 11 Qi2 [.t 10,.k (.c (.bool true))]::Qh0
def Qh2:List Item:=[oJ 15 14]
def Qh3:List Item:=[sJ 1 4 19]
def Qg7:List Item:=aJ 19 Qi2 [.t 18,.k (.c (.bool true))]::Qh3
def Qtt:SC:=.reg (tJ 17 1 1::aJ 18 Qi2 [.t 17,.k (.c (.bool false))]::Qg7) [1,2,4]
def Qtu:SC:=.block 1 (sR [tJ 16 1 4,sJ 1 1 16] [1,2,4] Qtt)
def Qru:SC:=.seq (sR (tJ 12 1 4::tJ 13 1 1::aJ 14 Qgq [.t 12,.t 13]::Qh2) [1,2,4,15] (cT 15 .skip (.exit 0))) Qtu
def Qg8:List Item:=[fB 3 true]
def Qtv:SC:=sR (tJ 20 1 4::sJ 1 2 20::Qg8) [2,3] .ret
def Qtw:SC:=sR (tJ 9 1 1::aJ 10 Qi2 [.t 9,.k (.c (.bool false))]::Qh1) [1,2,4] (.seq (bL 0 Qru) Qtv)
def Qtx:SC:=.seq (sR (tJ 5 1 1::aJ 6 Qaev [.t 5]::Qhx) [1,2,7] Qwq) Qtw
def Q2p:SC:=sR (eI 1 (.boxm (.t 0))::Qhw) [1,2] Qtx
theorem Q0c:mFn prog Qez 1 21 Q2p Qfh=true:=by kernel_rfl
def Qms:List Item:=[fB 3 false]
def Qfm:List Item:=[oJ 6 5]
def Q0p:List Item:=[fB 3 false]
def Q3p:SC:=cT 6 (sR (fI 7 (.bld [.sl true 3 []] [])::sJ 1 2 7::Q0p) [2,3] .ret) .skip
def Qmt:List Item:=[fB 3 true]
def Qmu:List Item:=sJ 1 2 9::Qmt
def Q3q:SC:=sR (tJ 8 1 1::eI 9 (.call Qls [.t 8,.k (.c (.fn Qex []))])::Qmu) [2,3] .ret
def Q3r:SC:=.seq (sR (tJ 4 1 1::aJ 5 Qoj [.t 4]::Qfm) [1,2,6] Q3p) Q3q
def Qaal:SC:=sR (vJ 1 0::eI 2 (.alloc [.sl true 3 []])::Qms) [1,2] Q3r
theorem Qaad:mFn prog Qej 1 10 Qaal Qfh=true:=by kernel_rfl
def Qah8:List Item:=[sJ 1 5 8]
def Qah9:List Item:=eI 5 (.alloc [.sl true 3 []])::Qah8
def Qaia:List Item:=[hJ 18 17,iJ 27 3 18 19,fJ 28 2 27,sJ 1 28 26]
def Qaib:List Item:=[hJ 30 29,iJ 39 3 30 31,fJ 40 2 39,sJ 1 40 38]
def Qa6q:SC:=cT 16 (.dreg 13 [0,1,2,3,4,5,6,7,8,9,1,10,11,12] ( fJ 17 0 5::lJ 18 17::mJ 19 6::fJ 20 0 5::lJ 21 20::mJ 22 6::iJ 23 3 21 22::fJ 24 2 23::lJ 25 24::aJ 26 Qt3 [.t 25]::Qaia) [1,4,5,6]) (.dreg 13 [0,1,2,3,4,5,6,7,8,9,1,10,11,12] ( fJ 29 0 5::lJ 30 29::mJ 31 6::fJ 32 0 5::lJ 33 32::mJ 34 6::iJ 35 3 33 34::fJ 36 2 35::lJ 37 36::aJ 38 Qon [.t 37]::Qaib) [1,4,5,6])
def Qa6r:SC:=.reg [mJ 14 6,cJ 15 .add 14 1,mJ 6 15] [1,4,5,6]
def Qa6s:SC:=.seq (.block 1 (sR [mJ 16 1] [1,4,5,6,16] Qa6q)) Qa6r
def Qa1a:SC:=.seq (sR [mJ 9 6,fJ 10 0 5,lJ 11 10,nJ 12 11,bJ 13 .lss 9 12] [1,4,5,6,13] (cT 13 .skip (.exit 0))) Qa6s
def Qa6t:SC:=sR [tJ 41 1 5,sJ 1 4 41] [4] .ret
def Qa6u:SC:=.seq (sR [zJ 6 0] [1,4,5,6] (bL 0 Qa1a)) Qa6t
def Qa09:SC:=sR (tJ 7 1 2::aJ 8 Q22 [.t 7]::Qah9) [1,4,5] Qa6u
def Qbfi:SC:=sR [vJ 2 0,eI 4 (.alloc [.sl true 3 []])] [1,2,4] Qa09
def Qa3x:List RS:=[.cell 4 1 true]
theorem Qbes:mFn prog Qi2 2 42 Qbfi Qa3x=true:=by kernel_rfl
def Qbbv:SC:=sR [mJ 3 0,fI 4 (.bld [.int .i64 0,.int .i64 0,.str [],.sl true 4 []] [(0,1,kI 1),(1,1,.t 3)]),sJ 4 2 4] [2] .ret
def Qbin:SC:=sR [eI 2 (.alloc [.int .i64 0,.int .i64 0,.str [],.sl true 4 []])] [0,2] Qbbv
theorem Qbid:mFn prog Qxf 1 5 Qbin Qy7=true:=by kernel_rfl
def Quy:List Item:=[fI 11 (.bld [.sl true 3 []] [(0,1,.t 10)]),sJ 1 4 11]
def Qaj9:SC:=sR (fJ 7 0 2::lJ 8 7::fI 9 (.mkf Qjm [.t 5])::aJ 10 Qdu [.t 8,.t 9]::Quy) [4] .ret
def Qaka:SC:=sR [fI 6 (.mkf Qa0 [.t 3,.t 5]),sJ 1 5 6] [2,4,5] Qaj9
def Qakb:SC:=sR [eI 5 (.alloc [.fnil])] [2,3,4,5] Qaka
def Qauo:SC:=sR [vJ 2 0,vJ 3 1,eI 4 (.alloc [.sl true 3 []])] [2,3,4] Qakb
theorem Qatk:mFn prog Qls 2 12 Qauo Qa3x=true:=by kernel_rfl
def Qhd:List Item:=[iJ 17 5 9 10,fJ 18 2 17,sJ 1 18 16]
def Quo:SC:=.reg (mJ 9 0::mJ 10 3::mJ 11 0::mJ 12 3::iJ 13 5 11 12::fJ 14 2 13::lJ 15 14::eI 16 (.call Qap [.t 15,.k (.c (.fn Qok []))])::Qhd) [0,5,6]
def Qup:SC:=.reg [cJ 19 .add 6 1,mJ 6 19] [0,5,6]
def Quq:SC:=.seq (.block 1 (sR [mJ 8 6,mJ 3 8] [0,3,5,6] Quo)) Qup
def Qsx:SC:=sR [bJ 7 .lss 6 5] [0,5,6,7] (cX 7 0 Quq)
def Qur:SC:=sR [mJ 20 0,mJ 2 20] [2] .ret
def Qus:SC:=.seq (sR [mJ 4 0,nJ 5 4,zJ 6 0] [0,5,6] (bL 0 Qsx)) Qur
def Q0o:SC:=sR [fI 2 (.mv (.k (.c (.sl true 5 []))))] [0] Qus
theorem Qml:mFn prog Qex 1 21 Q0o Qic=true:=by kernel_rfl
def Q88:List Item:=[eI 2 (.alloc [.int .i64 0,.int .i64 0,.str [],.sl true 4 []])]
def Q89:List Item:=[fJ 6 3 1,sJ 1 6 5]
def Q9a:List Item:=[sJ 4 2 8]
def Qayw:SC:=sR (tJ 7 4 1::aJ 8 Qdo [.t 7]::Q9a) [2] .ret
def Qayx:SC:=sR (fJ 3 3 1::lJ 4 3::eI 5 (.call Qap [.t 4,.k (.c (.fn Qok []))])::Q89) [1,2] Qayw
def Qbao:SC:=sR (eI 1 (.boxm (.t 0))::Q88) [1,2] Qayx
theorem Qa9q:mFn prog Qok 1 9 Qbao Qy7=true:=by kernel_rfl
def Qsg:List Item:=[sJ 5 5 11]
def Qjq:List Item:=[pF 22 16 21,mJ 12 22]
def Qfc:List Item:=[pF 33 27 32,mJ 23 33]
def Qage:SC:=cT 35 (.reg [fJ 47 4 5,.e none none (.sto 1 (.t 47) (.k (.c (.sl true 5 []))))] [3,5,6,7,8]) .skip
def Qagf:SC:=cT 23 (.reg [fJ 34 3 5,.e none none (.sto 1 (.t 34) (.k (.c (.sl true 5 []))))] [3,5,6,7,8]) (sR [fJ 36 0 5,lJ 37 36,cJ 38 .eql 37 5,mJ 39 38,gTf 40 39 2 5,gTl 41 39 40,gT 42 39 (.iad 4 (.t 41) (kI 0)),gTf 43 39 0 42,gTl 44 39 43,gT 45 39 (.bin 0 .eql (.t 44) (kI 1)),pF 46 39 45,mJ 35 46] [3,5,6,7,8,35] Qage)
def Qagg:SC:=cT 12 (.exit 1) (sR (fJ 24 0 5::lJ 25 24::cJ 26 .eql 25 5::mJ 27 26::gTf 28 27 2 5::gTl 29 27 28::gT 30 27 (.iad 4 (.t 29) (kI 0))::gT 31 27 (.ld 4 true (.t 30))::.e (some 32) (some (27,true)) (.call Qa7 [.t 31,kI 0])::Qfc) [3,5,6,7,8,23] Qagf)
def Qbz:List Item:=[mJ 3 51]
def Qagh:SC:=sR [fJ 52 0 5,lJ 53 52,cJ 54 .eql 53 7] [3,6,7,8,54] (cT 54 (.exit 0) .skip)
def Qagi:SC:=sR (mJ 48 3::tJ 49 5 5::fI 50 (.bsl 5 [.t 49])::xJ 51 5 48 50::Qbz) [3,5,6,7,8] Qagh
def Qagj:SC:=.seq (.block 2 (sR (fJ 13 0 5::lJ 14 13::cJ 15 .eql 14 6::mJ 16 15::gTf 17 16 2 5::gTl 18 16 17::gT 19 16 (.iad 4 (.t 18) (kI 0))::gT 20 16 (.ld 4 true (.t 19))::.e (some 21) (some (16,true)) (.call Qa7 [.t 20,kI 0])::Qjq) [3,5,6,7,8,12] Qagg)) Qagi
def Qaav:SC:=.reg [cJ 55 .add 8 1,mJ 8 55] [3,6,7,8]
def Qaaw:SC:=.seq (.block 1 (sR (iJ 10 5 6 8::tJ 11 5 10::eI 5 (.alloc [.int .i64 0,.str [],.sl true 4 [],.sl true 5 [],.sl true 5 []])::Qsg) [3,5,6,7,8] Qagj)) Qaav
def Q6o:SC:=sR [bJ 9 .lss 8 7] [3,6,7,8,9] (cX 9 0 Qaaw)
def Qaax:SC:=sR [mJ 56 3,mJ 2 56] [2] .ret
def Qaay:SC:=.seq (sR [mJ 6 0,nJ 7 6,zJ 8 0] [3,6,7,8] (bL 0 Q6o)) Qaax
def Qaaz:SC:=sR [fI 3 (.mv (.k (.c (.sl true 5 []))))] [0,3] Qaay
def Qaql:SC:=sR [fI 2 (.mv (.k (.c (.sl true 5 []))))] [0] Qaaz
theorem Qapr:mFn prog Qn7 1 57 Qaql Qic=true:=by kernel_rfl
def Qah4:List Item:=[sJ 5 5 17]
def Qah5:List Item:=[sJ 4 6 21]
def Qah6:List Item:=[fJ 25 3 5,sJ 1 25 24]
def Qah7:List Item:=[fJ 29 4 5,sJ 1 29 28]
def Qrn:List Item:=[pF 36 33 35]
def Qa6m:SC:=cT 47 (.reg [fI 48 (.bsl 5 []),fJ 49 4 5,sJ 1 49 48] [0,3,4,5]) (.reg [fI 50 (.bsl 5 []),fJ 51 3 5,sJ 1 51 50] [0,3,4,5])
def Qa6n:SC:=cT 44 (sR [fJ 45 1 6,lJ 46 45,cJ 47 .neq 46 0] [0,3,4,5,47] Qa6m) .skip
def Qfn:List Item:=[mJ 3 55]
def Qa6o:SC:=sR [fJ 56 0 5,lJ 57 56,cJ 58 .eql 57 7] [0,3,4,58] (cT 58 (.exit 0) .skip)
def Qa6p:SC:=sR (mJ 52 3::tJ 53 5 5::fI 54 (.bsl 5 [.t 53])::xJ 55 5 52 54::Qfn) [0,3,4,5] Qa6o
def Qa00:SC:=.seq (sR [fJ 37 0 5,lJ 38 37,cJ 39 .eql 38 5,mJ 40 39,gTf 41 40 0 6,gTl 42 40 41,gT 43 40 (.bin 0 .eql (.t 42) (kI 1)),pF 44 40 43] [0,3,4,5,6,44] Qa6n) Qa6p
def Qa01:SC:=.seq (sR (fJ 30 0 5::lJ 31 30::cJ 32 .eql 31 6::mJ 33 32::gT 34 33 (.ld 4 true (.t 6))::.e (some 35) (some (33,true)) (.call Qmf [.t 34,kI 0])::Qrn) [0,3,4,5,6,36] (cT 36 (.exit 1) .skip)) Qa00
def Qa02:SC:=sR (fJ 26 4 5::lJ 27 26::aJ 28 Qt3 [.t 27]::Qah7) [0,3,4,5,6] Qa01
def Qa03:SC:=sR (fJ 22 3 5::lJ 23 22::aJ 24 Qt3 [.t 23]::Qah6) [0,3,4,5,6] Qa02
def Qa04:SC:=sR (fJ 18 2 5::lJ 19 18::fI 20 (.iad 4 (.t 19) (kI 0))::tJ 21 4 20::eI 6 (.alloc [.int .i64 0,.int .i64 0,.str [],.sl true 4 []])::Qah5) [0,3,4,5,6] Qa03
def Qa05:SC:=.reg [mJ 12 4,cJ 13 .add 12 1,mJ 4 13] [0,3,4]
def Qa06:SC:=.seq (.block 1 (sR (mJ 14 0::mJ 15 4::iJ 16 5 14 15::tJ 17 5 16::eI 5 (.alloc [.int .i64 0,.str [],.sl true 4 [],.sl true 5 [],.sl true 5 []])::Qah4) [0,3,4,5] Qa04)) Qa05
def Qavu:SC:=.seq (sR [mJ 8 4,mJ 9 0,nJ 10 9,bJ 11 .lss 8 10] [0,3,4,11] (cT 11 .skip (.exit 0))) Qa06
def Qah3:SC:=sR [mJ 59 3,mJ 2 59] [2] .ret
def Qa07:SC:=.seq (sR [zJ 4 0] [0,3,4] (bL 0 Qavu)) Qah3
def Qa08:SC:=sR [fI 7 (.bsl 5 []),mJ 3 7] [0,3] Qa07
def Qbfh:SC:=sR [fI 2 (.mv (.k (.c (.sl true 5 []))))] [0] Qa08
theorem Qber:mFn prog Qt3 1 60 Qbfh Qic=true:=by kernel_rfl
def Q9q:List Item:=[sJ 5 5 18]
def Q9r:List Item:=[mJ 6 35]
def Q9s:List Item:=fI 34 (.bsl 4 [.t 33])::xJ 35 4 27 34::Q9r
def Qa1d:SC:=.reg [mJ 25 7,cJ 26 .add 25 1,mJ 7 26] [0,3,4,5,6,7]
def Qa1e:SC:=.seq (.block 3 (.reg (mJ 27 6::fJ 28 2 5::lJ 29 28::mJ 30 7::iJ 31 4 29 30::tJ 32 4 31::aJ 33 Q24 [.t 32]::Q9s) [0,3,4,5,6,7])) Qa1d
def Qav5:SC:=.seq (sR [mJ 20 7,fJ 21 2 5,lJ 22 21,nJ 23 22,bJ 24 .lss 20 23] [0,3,4,5,6,7,24] (cT 24 .skip (.exit 2))) Qa1e
def Q9t:List Item:=[fJ 41 3 5,sJ 1 41 40]
def Q9u:List Item:=[fJ 45 4 5,sJ 1 45 44]
def Q9v:List Item:=[mJ 3 49]
def Qa1f:SC:=.reg (mJ 46 3::tJ 47 5 5::fI 48 (.bsl 5 [.t 47])::xJ 49 5 46 48::Q9v) [0,3,4]
def Qavv:SC:=sR (fJ 42 4 5::lJ 43 42::aJ 44 Qon [.t 43]::Q9u) [0,3,4,5] Qa1f
def Qavw:SC:=sR (fJ 38 3 5::lJ 39 38::aJ 40 Qon [.t 39]::Q9t) [0,3,4,5] Qavv
def Qavx:SC:=sR [mJ 36 6,fJ 37 2 5,sJ 1 37 36] [0,3,4,5] Qavw
def Qavy:SC:=.seq (sR [zJ 7 0] [0,3,4,5,6,7] (bL 2 Qav5)) Qavx
def Qavz:SC:=sR [fI 19 (.bsl 4 []),mJ 6 19] [0,3,4,5,6] Qavy
def Qav0:SC:=.reg [mJ 13 4,cJ 14 .add 13 1,mJ 4 14] [0,3,4]
def Qav1:SC:=.seq (.block 1 (sR (mJ 15 0::mJ 16 4::iJ 17 5 15 16::tJ 18 5 17::eI 5 (.alloc [.int .i64 0,.str [],.sl true 4 [],.sl true 5 [],.sl true 5 []])::Q9q) [0,3,4,5] Qavz)) Qav0
def Qaq2:SC:=.seq (sR [mJ 9 4,mJ 10 0,nJ 11 10,bJ 12 .lss 9 11] [0,3,4,12] (cT 12 .skip (.exit 0))) Qav1
def Qav2:SC:=sR [mJ 50 3,mJ 2 50] [2] .ret
def Qav3:SC:=.seq (sR [zJ 4 0] [0,3,4] (bL 0 Qaq2)) Qav2
def Qav4:SC:=sR [fI 8 (.bsl 5 []),mJ 3 8] [0,3] Qav3
def Qbbu:SC:=sR [fI 2 (.mv (.k (.c (.sl true 5 []))))] [0] Qav4
theorem Qa9z:mFn prog Qon 1 51 Qbbu Qic=true:=by kernel_rfl
def Qnr:List Item:=[mJ 4 9]
def Qns:List Item:=hJ 5 1::eI 9 (.callv (.t 5) [.t 8])::Qnr
def Q6h:SC:=.seq (.dreg 6 [0,1,2,3,0,4,5] ( lJ 5 1::mJ 6 0::fI 7 (.mkf Qff [.t 2])::aJ 8 Qau [.t 6,.t 7]::Qns) [4]) .ret
def Qagc:SC:=sR [fI 4 (.mv (.k (.c (.sl true 5 []))))] [0,1,2] Q6h
theorem Qae7:mFn prog Qa0 3 10 Qagc Qat4=true:=by kernel_rfl
def Qjb:List Item:=[eI 3 (.alloc [.int .i64 0,.str [],.sl true 4 [],.sl true 5 [],.sl true 5 []])]
def Qjc:List Item:=[fJ 7 2 2,sJ 1 7 6]
def Qjd:List Item:=[fJ 12 3 2,sJ 1 12 11]
def Qje:List Item:=[fJ 17 4 2,sJ 1 17 16]
def Qyb:SC:=sR [tJ 18 5 2,sJ 5 3 18] [3] .ret
def Qyc:SC:=sR (lJ 13 1::fJ 14 4 2::lJ 15 14::eI 16 (.callv (.t 13) [.t 15])::Qje) [2,3] Qyb
def Qyd:SC:=sR (lJ 8 1::fJ 9 3 2::lJ 10 9::eI 11 (.callv (.t 8) [.t 10])::Qjd) [1,2,3] Qyc
def Qye:SC:=sR (fJ 4 2 2::lJ 5 4::eI 6 (.call Qap [.t 5,.k (.c (.fn Qd2 []))])::Qjc) [1,2,3] Qyd
def Q3y:SC:=sR (eI 2 (.boxm (.t 0))::Qjb) [1,2,3] Qye
def Qnm:List RS:=[.cell 3 5 true]
theorem Q3c:mFn prog Qff 2 19 Q3y Qnm=true:=by kernel_rfl
def Qnt:List Item:=[eI 3 (.alloc [.str [],.sl true 1 [],.sl true 5 []])]
def Qnu:List Item:=[fJ 7 1 2,sJ 1 7 6]
def Qnv:List Item:=[fJ 12 2 2,sJ 1 12 11]
def Q6i:SC:=sR [tJ 13 3 2,sJ 3 3 13] [3] .ret
def Q6j:SC:=sR (lJ 8 1::fJ 9 2 2::lJ 10 9::eI 11 (.callv (.t 8) [.t 10])::Qnv) [2,3] Q6i
def Q6k:SC:=sR (fJ 4 1 2::lJ 5 4::aJ 6 Qdv [.t 5]::Qnu) [1,2,3] Q6j
def Qagd:SC:=sR (eI 2 (.boxm (.t 0))::Qnt) [1,2,3] Q6k
def Quf:List RS:=[.cell 3 3 true]
theorem Qae8:mFn prog Qjm 2 14 Qagd Quf=true:=by kernel_rfl
def Qagr:SC:=cT 20 (sR [tJ 21 4 1,sJ 4 2 21] [2] .ret) .skip
def Qjr:List Item:=[hJ 27 26,hJ 29 28,.chk 30 none (.len (.t 29)),.chk 32 none (.iad 4 (.t 27) (.t 31)),.chk 33 none (.ld 4 true (.t 32)),sJ 4 4 33]
def Qjs:List Item:=hJ 23 22::.chk 24 none (.iad 4 (.t 23) (kI 0))::.chk 25 none (.ld 4 true (.t 24))::hJ 27 26::hJ 29 28::.chk 30 none (.len (.t 29))::.chk 32 none (.iad 4 (.t 27) (.t 31))::.chk 33 none (.ld 4 true (.t 32))::sJ 4 3 25::Qjr
def Qjt:List Item:=hJ 23 22::.chk 24 none (.iad 4 (.t 23) (kI 0))::.chk 25 none (.ld 4 true (.t 24))::hJ 27 26::hJ 29 28::.chk 30 none (.len (.t 29))::.chk 32 none (.iad 4 (.t 27) (.t 31))::.chk 33 none (.ld 4 true (.t 32))::eI 4 (.alloc [.int .i64 0,.int .i64 0,.str [],.sl true 4 []])::Qjs
def Qju:List Item:=[mJ 42 49,fI 50 (.ext (.t 42) 0),fI 51 (.ext (.t 42) 1),mJ 5 50,mJ 6 51]
def Qjv:List Item:=[sJ 4 2 54]
def Qags:SC:=cT 52 (sR (mJ 53 5::aJ 54 Qge [.t 53]::Qjv) [2] .ret) .skip
def Qagt:SC:=sR [mJ 52 6] [1,2,3,4,5,52] Qags
def Qagu:SC:=cT 41 (sR (fJ 43 0 1::lJ 44 43::fJ 45 1 3::lJ 46 45::fJ 47 1 4::lJ 48 47::aJ 49 Qh6 [.t 44,.t 46,.t 48]::Qju) [1,2,3,4,5,6] Qagt) .skip
def Qvb:SC:=cT 69 (sR [fJ 70 3 3,lJ 71 70,fI 72 (.iad 4 (.t 71) (kI 0)),tJ 73 4 72,sJ 4 2 73] [2] .ret) .skip
def Qpd:List Item:=[sJ 4 2 78]
def Qabd:SC:=cT 77 (sR (aJ 78 Qge [kI 0]::Qpd) [2] .ret) .skip
def Qabe:SC:=cT 82 (sR [tJ 83 4 3,sJ 4 2 83] [2] .ret) .skip
def Qabf:SC:=cT 85 (sR [tJ 86 4 4,sJ 4 2 86] [2] .ret) .skip
def Qabg:SC:=sR [tJ 84 4 3,aJ 85 Qa7 [.t 84,kI 0]] [1,2,4,85] Qabf
def Qabh:SC:=cT 90 (sR [tJ 91 4 3,sJ 4 2 91] [2] .ret) .skip
def Qpe:List Item:=[mJ 94 96]
def Qpf:List Item:=[mJ 98 100]
def Qil:List Item:=[pF 108 105 107,mJ 102 108]
def Qim:List Item:=mJ 105 104::gT 106 105 (.ld 4 true (.t 3))::.e (some 107) (some (105,true)) (.call Qis [.t 106])::Qil
def Qcj:List Item:=[pF 114 111 113,mJ 102 114]
def Qck:List Item:=mJ 111 110::gT 112 111 (.ld 4 true (.t 4))::.e (some 113) (some (111,true)) (.call Qis [.t 112])::Qcj
def Qabi:SC:=cT 102 .skip (.reg (tJ 109 4 3::aJ 110 Qa7 [.t 109,kI 0]::Qck) [1,2,102])
def Qeu:List Item:=[sJ 4 2 115]
def Qabj:SC:=cT 102 (sR (aJ 115 Qge [kI 0]::Qeu) [2] .ret) .skip
def Qabk:SC:=cT 98 (sR [tJ 101 4 4,sJ 4 2 101] [2] .ret) (.seq (sR (tJ 103 4 4::aJ 104 Qa7 [.t 103,kI 0]::Qim) [1,2,3,4,102] Qabi) Qabj)
def Qabl:SC:=cT 94 (sR [tJ 97 4 3,sJ 4 2 97] [2] .ret) (sR (tJ 99 4 3::aJ 100 Qa7 [.t 99,kI 1]::Qpf) [1,2,3,4,98] Qabk)
def Qabm:SC:=cT 119 (sR [tJ 120 4 3,sJ 4 2 120] [2] .ret) .skip
def Qabn:SC:=cT 116 (sR [tJ 118 4 4,aJ 119 Qa7 [.t 118,kI 1]] [1,2,3,119] Qabm) .skip
def Qabo:SC:=cT 92 (.block 1 (sR (tJ 95 4 4::aJ 96 Qa7 [.t 95,kI 1]::Qpe) [1,2,3,4,94] Qabl)) (sR [cJ 117 .eql 56 6,mJ 116 117] [1,2,3,4,116] Qabn)
def Qabp:SC:=cT 87 (sR [tJ 89 4 4,aJ 90 Qa7 [.t 89,kI 0]] [1,2,3,90] Qabh) (sR [cJ 93 .eql 56 5,mJ 92 93] [1,2,3,4,56,92] Qabo)
def Qabq:SC:=cT 79 (.seq (sR [tJ 81 4 4,aJ 82 Qa7 [.t 81,kI 0]] [1,2,3,4,82] Qabe) Qabg) (sR [cJ 88 .eql 56 4,mJ 87 88] [1,2,3,4,56,87] Qabp)
def Qabr:SC:=cT 74 (sR [tJ 76 4 3,aJ 77 Qa7 [.t 76,kI 0]] [1,2,77] Qabd) (sR [cJ 80 .eql 56 3,mJ 79 80] [1,2,3,4,56,79] Qabq)
def Qabs:SC:=cT 57 (sR [fJ 59 0 3,lJ 60 59,cJ 61 .eql 60 11,mJ 62 61,gTf 63 62 3 3,gTl 64 62 63,gT 65 62 (.iad 4 (.t 64) (kI 0)),gTf 66 62 0 65,gTl 67 62 66,gT 68 62 (.bin 0 .eql (.t 67) (kI 11)),pF 69 62 68] [1,2,3,69] Qvb) (sR [cJ 75 .eql 56 10,mJ 74 75] [1,2,3,4,56,74] Qabr)
def Qabt:SC:=.block 0 (sR [cJ 58 .eql 56 11,mJ 57 58] [1,2,3,4,56,57] Qabs)
def Qfd:SC:=sR [tJ 121 4 1,sJ 4 2 121] [2] .ret
def Qsm:SC:=.seq (sR [fJ 55 0 1,lJ 56 55] [1,2,3,4,56] Qabt) Qfd
def Qabu:SC:=.seq (sR [fJ 34 0 3,lJ 35 34,cJ 36 .eql 35 1,mJ 37 36,gTf 38 37 0 4,gTl 39 37 38,gT 40 37 (.bin 0 .eql (.t 39) (kI 1)),pF 41 37 40] [1,2,3,4,41] Qagu) Qsm
def Qabv:SC:=.seq (.dreg 13 [0,1,2,3,4,5,6,7,8,9,10,11,12,1,2,3,5,7,8,10,11,13,1,2,3,5,7,8,10,11,14,5,7,8,10,11,15] ( fJ 22 3 1::lJ 23 22::fI 24 (.iad 4 (.t 23) (kI 0))::tJ 25 4 24::fJ 26 3 1::lJ 27 26::fJ 28 3 1::lJ 29 28::nJ 30 29::cJ 31 .sub 30 1::iJ 32 4 27 31::tJ 33 4 32::eI 3 (.alloc [.int .i64 0,.int .i64 0,.str [],.sl true 4 []])::Qjt) [1,2,3,4]) Qabu
def Qabw:SC:=.seq (sR [fJ 7 3 1,lJ 8 7,nJ 9 8,cJ 10 .eql 9 0,mJ 11 10,gFf 12 11 0 1,gFl 13 11 12,gF 14 11 (.bin 0 .eql (.t 13) (kI 13)),pT 15 11 14,mJ 16 15,gFf 17 16 0 1,gFl 18 16 17,gF 19 16 (.bin 0 .eql (.t 18) (kI 12)),pT 20 16 19] [1,2,20] Qagr) Qabv
def Qaqn:SC:=sR [vJ 1 0,eI 2 (.alloc [.int .i64 0,.int .i64 0,.str [],.sl true 4 []])] [1,2] Qabw
theorem Qqx:mFn prog Qdo 1 122 Qaqn Qy7=true:=by kernel_rfl
def Qauq:SC:=sR [fJ 5 0 2,lJ 6 5,cJ 7 .eql 6 1,mJ 8 7,gTf 9 8 1 2,gTl 10 8 9,gTm 11 8 1,gT 12 8 (.bin 0 .eql (.t 10) (.t 11)),pF 13 8 12,mJ 4 13] [4] .ret
def Qa5e:SC:=sR [vJ 2 0,fB 4 false] [1,2] Qauq
theorem Qa42:mFn prog Qa7 2 14 Qa5e Qat4=true:=by kernel_rfl
def Qbfk:SC:=sR [fJ 5 0 2,lJ 6 5,cJ 7 .eql 6 1,mJ 8 7,gTf 9 8 1 2,gTl 10 8 9,gTm 11 8 1,gT 12 8 (.bin 0 .eql (.t 10) (.t 11)),pF 13 8 12,mJ 4 13] [4] .ret
def Qbkf:SC:=sR [vJ 2 0,fB 4 false] [1,2] Qbfk
theorem Qbj6:mFn prog Qmf 2 14 Qbkf Qat4=true:=by kernel_rfl
def Qaic:List Item:=[eI 2 (.alloc [.int .i64 0,.int .i64 0,.str [],.sl true 4 []])]
def Qaid:List Item:=[mJ 3 21]
def Qaie:List Item:=fI 20 (.bsl 4 [.t 19])::xJ 21 4 13 20::Qaid
def Qa6v:SC:=.reg [mJ 11 4,cJ 12 .add 11 1,mJ 4 12] [1,2,3,4]
def Qa6w:SC:=.seq (.block 1 (.reg (mJ 13 3::fJ 14 3 1::lJ 15 14::mJ 16 4::iJ 17 4 15 16::tJ 18 4 17::aJ 19 Q24 [.t 18]::Qaie) [1,2,3,4])) Qa6v
def Qa1c:SC:=.seq (sR [mJ 6 4,fJ 7 3 1,lJ 8 7,nJ 9 8,bJ 10 .lss 6 9] [1,2,3,4,10] (cT 10 .skip (.exit 0))) Qa6w
def Qaif:List Item:=[sJ 4 2 25]
def Qa6x:SC:=sR (tJ 24 4 1::aJ 25 Qoo [.t 24]::Qaif) [2] .ret
def Qa6y:SC:=sR [mJ 22 3,fJ 23 3 1,sJ 1 23 22] [1,2] Qa6x
def Qa6z:SC:=.seq (sR [zJ 4 0] [1,2,3,4] (bL 0 Qa1c)) Qa6y
def Qa1b:SC:=sR [fI 5 (.bsl 4 []),mJ 3 5] [1,2,3] Qa6z
def Qbfj:SC:=sR (eI 1 (.boxm (.t 0))::Qaic) [1,2] Qa1b
theorem Qbet:mFn prog Q24 1 26 Qbfj Qy7=true:=by kernel_rfl
def Qakq:SC:=sR [mJ 3 0,fI 4 (.bld [.int .i64 0,.int .i64 0,.str [],.sl true 4 []] [(0,1,kI 1),(1,1,.t 3)]),sJ 4 2 4] [2] .ret
def Qaut:SC:=sR [eI 2 (.alloc [.int .i64 0,.int .i64 0,.str [],.sl true 4 []])] [0,2] Qakq
theorem Qato:mFn prog Qge 1 5 Qaut Qy7=true:=by kernel_rfl
def Qse:List Item:=[sJ 1 3 5]
def Qsf:List Item:=eI 3 (.alloc [.bool false])::Qse
def Qafw:SC:=cT 6 (.reg [tJ 7 4 1,fI 8 (.mkf Qek [.t 3]),aJ 9 Qh7 [.t 7,.t 8]] [3]) .skip
def Qafx:SC:=sR [lJ 10 3,mJ 2 10] [2] .ret
def Qafy:SC:=.seq (sR [lJ 6 3] [1,3,6] Qafw) Qafx
def Qafz:SC:=sR (tJ 4 4 1::aJ 5 Qf7 [.t 4]::Qsf) [1,3] Qafy
def Qaqa:SC:=sR [vJ 1 0,fB 2 false] [1] Qafz
theorem Qapn:mFn prog Qis 1 11 Qaqa Qic=true:=by kernel_rfl
def Qaij:List Item:=[sJ 4 3 20]
def Qaik:List Item:=[sJ 4 2 28]
def Qail:List Item:=aJ 28 Qxf [.t 27]::Qaik
def Qa60:SC:=cT 23 (sR (fJ 24 1 3::lJ 25 24::cJ 26 .eql 25 0::aJ 27 Qh8 [.t 26]::Qail) [2] .ret) .skip
def Qa61:SC:=cT 39 (sR [fJ 40 3 3,lJ 41 40,fI 42 (.iad 4 (.t 41) (kI 0)),tJ 43 4 42,sJ 4 2 43] [2] .ret) .skip
def Qaom:SC:=sR [tJ 44 4 1,sJ 4 2 44] [2] .ret
def Qa62:SC:=.seq (sR [fJ 29 0 3,lJ 30 29,cJ 31 .eql 30 11,mJ 32 31,gTf 33 32 3 3,gTl 34 32 33,gT 35 32 (.iad 4 (.t 34) (kI 0)),gTf 36 32 0 35,gTl 37 32 36,gT 38 32 (.bin 0 .eql (.t 37) (kI 11)),pF 39 32 38] [1,2,3,39] Qa61) Qaom
def Qa63:SC:=.seq (sR [fJ 21 0 3,lJ 22 21,cJ 23 .eql 22 1] [1,2,3,23] Qa60) Qa62
def Qa64:SC:=cT 16 (sR (fJ 17 3 1::lJ 18 17::fI 19 (.iad 4 (.t 18) (kI 0))::tJ 20 4 19::eI 3 (.alloc [.int .i64 0,.int .i64 0,.str [],.sl true 4 []])::Qaij) [1,2,3] Qa63) .skip
def Q08:List Item:=[oJ 48 47]
def Qa1g:SC:=cT 48 (sR [tJ 49 4 1,sJ 4 2 49] [2] .ret) .skip
def Q9w:List Item:=[sJ 4 4 53]
def Q9x:List Item:=[sJ 4 5 57]
def Q9y:List Item:=[mJ 66 68,fI 69 (.ext (.t 66) 0),fI 70 (.ext (.t 66) 1),mJ 6 69,mJ 7 70]
def Q9z:List Item:=[sJ 4 2 74]
def Qa1h:SC:=cT 72 (sR (mJ 73 6::aJ 74 Qxf [.t 73]::Q9z) [2] .ret) .skip
def Qa1i:SC:=sR [mJ 71 7,cJ 72 .eql 71 0] [1,2,4,5,6,72] Qa1h
def Qa1j:SC:=cT 65 (sR (tJ 67 4 1::eI 68 (.call Qme [.t 67,.k (.c (.sl true 1 [])),.k (.c (.sl true 1 []))])::Q9y) [1,2,4,5,6,7] Qa1i) .skip
def Qn0:List Item:=[pF 82 79 81,mJ 75 82]
def Q90:List Item:=[sJ 4 2 83]
def Qvq:List Item:=[mJ 87 86,gTf 88 87 0 1,gTl 89 87 88,gT 90 87 (.bin 0 .eql (.t 89) (kI 3)),gTm 91 87 90,gFf 92 91 0 1,gFl 93 91 92,gF 94 91 (.bin 0 .eql (.t 93) (kI 4)),gT 95 87 (.pick (.t 91) (.k (.c (.bool true))) (.t 94)),pF 96 87 95,mJ 84 96]
def Qvr:List Item:=[mJ 99 98,gTf 100 99 0 1,gTl 101 99 100,gT 102 99 (.bin 0 .eql (.t 101) (kI 5)),gTm 103 99 102,gFf 104 103 0 1,gFl 105 103 104,gF 106 103 (.bin 0 .eql (.t 105) (kI 6)),gT 107 99 (.pick (.t 103) (.k (.c (.bool true))) (.t 106)),pF 108 99 107,mJ 84 108]
def Qa1k:SC:=cT 84 .skip (.reg (tJ 97 4 5::aJ 98 Qmf [.t 97,kI 1]::Qvr) [1,2,4,5,84])
def Qvs:List Item:=[mJ 113 112,gTf 114 113 0 1,gTl 115 113 114,gT 116 113 (.bin 0 .eql (.t 115) (kI 3)),pF 117 113 116,mJ 110 117]
def Q91:List Item:=[mJ 120 119,gTf 121 120 0 1,gTl 122 120 121,gT 123 120 (.bin 0 .eql (.t 122) (kI 5)),pF 124 120 123,mJ 110 124]
def Qa1l:SC:=cT 110 .skip (.reg (tJ 118 4 4::aJ 119 Qmf [.t 118,kI 1]::Q91) [1,2,4,5,110])
def Qb6:List Item:=[gF 143 137 (.pick (.t 140) (.t 142) (.k (.c (.bool false)))),gT 144 130 (.pick (.t 137) (.k (.c (.bool true))) (.t 143)),pF 145 130 144,mJ 126 145]
def Qed:List Item:=gFm 140 137 139::gT 141 140 (.ld 4 true (.t 5))::.e (some 142) (some (140,true)) (.call Qop [.t 141])::Qb6
def Qjk:List Item:=gT 136 130 (.pick (.t 133) (.t 135) (.k (.c (.bool false))))::gTm 137 130 136::gF 138 137 (.ld 4 true (.t 4))::.e (some 139) (some (137,false)) (.call Qmf [.t 138,kI 0])::Qed
def Qn1:List Item:=gTm 133 130 132::gT 134 133 (.ld 4 true (.t 4))::.e (some 135) (some (133,true)) (.call Qop [.t 134])::Qjk
def Qn2:List Item:=[sJ 4 2 146]
def Qa1m:SC:=cT 126 (sR (aJ 146 Qxf [kI 0]::Qn2) [2] .ret) .skip
def Qaig:SC:=cT 110 (sR [tJ 125 4 5,sJ 4 2 125] [2] .ret) (sR (fJ 127 0 1::lJ 128 127::cJ 129 .eql 128 5::mJ 130 129::gT 131 130 (.ld 4 true (.t 5))::.e (some 132) (some (130,true)) (.call Qmf [.t 131,kI 0])::Qn1) [1,2,126] Qa1m)
def Q07:SC:=cT 84 (sR [tJ 109 4 4,sJ 4 2 109] [2] .ret) (.seq (sR (tJ 111 4 4::aJ 112 Qmf [.t 111,kI 0]::Qvs) [1,2,4,5,110] Qa1l) Qaig)
def Qaih:SC:=cT 75 (sR (aJ 83 Qxf [kI 0]::Q90) [2] .ret) (.seq (sR (tJ 85 4 5::aJ 86 Qmf [.t 85,kI 0]::Qvq) [1,2,4,5,84] Qa1k) Q07)
def Qio:SC:=sR [tJ 147 4 1,sJ 4 2 147] [2] .ret
def Qaii:SC:=.seq (.block 0 (sR (fJ 76 0 1::lJ 77 76::cJ 78 .eql 77 10::mJ 79 78::gT 80 79 (.ld 4 true (.t 4))::.e (some 81) (some (79,true)) (.call Qmf [.t 80,kI 0])::Qn0) [1,2,4,5,75] Qaih)) Qio
def Qa1n:SC:=.seq (sR [fJ 58 0 4,lJ 59 58,cJ 60 .eql 59 1,mJ 61 60,gTf 62 61 0 5,gTl 63 61 62,gT 64 61 (.bin 0 .eql (.t 63) (kI 1)),pF 65 61 64] [1,2,4,5,65] Qa1j) Qaii
def Qa1o:SC:=sR (fJ 54 3 1::lJ 55 54::fI 56 (.iad 4 (.t 55) (kI 1))::tJ 57 4 56::eI 5 (.alloc [.int .i64 0,.int .i64 0,.str [],.sl true 4 []])::Q9x) [1,2,4,5] Qa1n
def Qa1p:SC:=sR (fJ 50 3 1::lJ 51 50::fI 52 (.iad 4 (.t 51) (kI 0))::tJ 53 4 52::eI 4 (.alloc [.int .i64 0,.int .i64 0,.str [],.sl true 4 []])::Q9w) [1,2,4] Qa1o
def Qa1q:SC:=.seq (sR (fJ 45 0 1::lJ 46 45::aJ 47 Qt2 [.t 46,kI 3,kI 10]::Q08) [1,2,48] Qa1g) Qa1p
def Qa1r:SC:=.seq (sR [fJ 8 3 1,lJ 9 8,nJ 10 9,cJ 11 .eql 10 1,mJ 12 11,gTf 13 12 0 1,gTl 14 12 13,gT 15 12 (.bin 0 .eql (.t 14) (kI 11)),pF 16 12 15] [1,2,16] Qa64) Qa1q
def Qbfl:SC:=sR [vJ 1 0,eI 2 (.alloc [.int .i64 0,.int .i64 0,.str [],.sl true 4 []])] [1,2] Qa1r
theorem Qapx:mFn prog Qoo 1 148 Qbfl Qy7=true:=by kernel_rfl
def Q3s:SC:=.reg [lJ 3 1,mJ 4 3,gTf 5 4 0 2,gTl 6 4 5,gT 7 4 (.bin 0 .neq (.t 6) (kI 12)),pF 8 4 7,mJ 9 8,gTf 10 9 0 2,gTl 11 9 10,gT 12 9 (.bin 0 .neq (.t 11) (kI 13)),pF 13 9 12,mJ 14 13,gTf 15 14 0 2,gTl 16 14 15,gT 17 14 (.bin 0 .neq (.t 16) (kI 6)),gTm 18 14 17,gTf 19 18 0 2,gTl 20 18 19,gT 21 18 (.bin 0 .neq (.t 20) (kI 7)),gT 22 14 (.pick (.t 18) (.t 21) (.k (.c (.bool false)))),gTm 23 14 22,gFf 24 23 3 2,gFl 25 23 24,gF 26 23 (.iad 4 (.t 25) (kI 1)),gFf 27 23 0 26,gFl 28 23 27,gF 29 23 (.bin 0 .eql (.t 28) (kI 1)),gFm 30 23 29,gTf 31 30 3 2,gTl 32 30 31,gT 33 30 (.iad 4 (.t 32) (kI 1)),gTf 34 30 1 33,gTl 35 30 34,gT 36 30 (.bin 0 .neq (.t 35) (kI 0)),gF 37 23 (.pick (.t 30) (.t 36) (.k (.c (.bool false)))),gT 38 14 (.pick (.t 23) (.k (.c (.bool true))) (.t 37)),pF 39 14 38,sJ 1 1 39] []
def Qaan:SC:=sR [vJ 2 0] [1,2] Q3s
theorem Qaae:mFn prog Qek 2 40 Qaan Qgv=true:=by kernel_rfl
def Qa65:SC:=cT 11 (sR [fB 2 false] [2] .ret) .skip
def Qa66:SC:=cT 35 (sR [fB 2 false] [2] .ret) .skip
def Qaim:List Item:=[oJ 49 48]
def Qa67:SC:=cT 49 (sR [fB 2 false] [2] .ret) .skip
def Qa68:SC:=.reg [mJ 41 3,cJ 42 .add 41 1,mJ 3 42] [1,3]
def Qa69:SC:=.seq (.block 1 (sR (fJ 43 3 1::lJ 44 43::mJ 45 3::iJ 46 4 44 45::tJ 47 4 46::aJ 48 Qop [.t 47]::Qaim) [1,3,49] Qa67)) Qa68
def Qa1t:SC:=.seq (sR [mJ 36 3,fJ 37 3 1,lJ 38 37,nJ 39 38,bJ 40 .lss 36 39] [1,3,40] (cT 40 .skip (.exit 0))) Qa69
def Qa7a:SC:=sR [fB 2 true] [2] .ret
def Qaon:SC:=.seq (sR [zJ 3 0] [1,3] (bL 0 Qa1t)) Qa7a
def Qa7b:SC:=.seq (sR [fJ 12 0 1,lJ 13 12,cJ 14 .eql 13 6,mJ 15 14,gFf 16 15 0 1,gFl 17 15 16,gF 18 15 (.bin 0 .eql (.t 17) (kI 7)),pT 19 15 18,mJ 20 19,gTf 21 20 3 1,gTl 22 20 21,gT 23 20 (.iad 4 (.t 22) (kI 1)),gTf 24 20 0 23,gTl 25 20 24,gT 26 20 (.bin 0 .neq (.t 25) (kI 1)),gTm 27 20 26,gFf 28 27 3 1,gFl 29 27 28,gF 30 27 (.iad 4 (.t 29) (kI 1)),gFf 31 27 1 30,gFl 32 27 31,gF 33 27 (.bin 0 .eql (.t 32) (kI 0)),gT 34 20 (.pick (.t 27) (.k (.c (.bool true))) (.t 33)),pF 35 20 34] [1,35] Qa66) Qaon
def Qa1s:SC:=.seq (sR [fJ 4 0 1,lJ 5 4,cJ 6 .eql 5 12,mJ 7 6,gFf 8 7 0 1,gFl 9 7 8,gF 10 7 (.bin 0 .eql (.t 9) (kI 13)),pT 11 7 10] [1,11] Qa65) Qa7b
def Qbfm:SC:=sR [vJ 1 0,fB 2 false] [1] Qa1s
theorem Qbeu:mFn prog Qop 1 50 Qbfm Qic=true:=by kernel_rfl
def Qnn:List Item:=[fB 3 false]
def Qgy:List Item:=[oJ 6 5]
def Q3o:List Item:=[fB 3 false]
def Q6b:SC:=cT 6 (sR (fI 7 (.bld [.sl true 3 []] [])::sJ 1 2 7::Q3o) [2,3] .ret) .skip
def Qno:List Item:=[fB 3 true]
def Qnp:List Item:=sJ 1 2 9::Qno
def Q6c:SC:=sR (tJ 8 1 1::eI 9 (.call Qls [.t 8,.k (.c (.fn Qn7 []))])::Qnp) [2,3] .ret
def Q6d:SC:=.seq (sR (tJ 4 1 1::aJ 5 Qoj [.t 4]::Qgy) [1,2,6] Q6b) Q6c
def Qafv:SC:=sR (vJ 1 0::eI 2 (.alloc [.sl true 3 []])::Qnn) [1,2] Q6d
theorem Qae5:mFn prog Qe9 1 10 Qafv Qfh=true:=by kernel_rfl
def Qa6b:SC:=cT 32 (sR [mJ 33 2,mJ 34 8,iJ 35 1 33 34,lJ 36 35,mJ 6 36,zJ 7 0] [6,7] .ret) .skip
def Qa6c:SC:=.reg [mJ 24 8,cJ 25 .add 24 1,mJ 8 25] [1,2,3,8]
def Qa6d:SC:=.seq (.block 2 (.seq (.dreg 7 [0,1,2,3,4,5,6] ( mJ 26 1::mJ 27 8::iJ 28 1 26 27::lJ 29 28::fJ 30 2 3::lJ 31 30::bJ 32 .eql 29 31::[]) [1,2,3,8,32]) Qa6b)) Qa6c
def Qa0w:SC:=.seq (sR [mJ 20 8,mJ 21 1,nJ 22 21,bJ 23 .lss 20 22] [1,2,3,8,23] (cT 23 .skip (.exit 1))) Qa6d
def Qa6e:SC:=cT 18 (sR [zJ 8 0] [1,2,3,8] (bL 1 Qa0w)) .skip
def Qa6f:SC:=cT 14 (sR [fJ 16 1 3,lJ 17 16,mJ 6 17,zJ 7 0] [6,7] .ret) (sR [cJ 19 .eql 13 2,mJ 18 19] [1,2,3,18] Qa6e)
def Qa6g:SC:=.block 0 (sR [cJ 15 .eql 13 1,mJ 14 15] [1,2,3,13,14] Qa6f)
def Qah2:List Item:=[mJ 37 44,fI 45 (.ext (.t 37) 0),fI 46 (.ext (.t 37) 1),mJ 9 45,mJ 10 46]
def Qa6h:SC:=cT 48 (sR [mJ 49 10,zJ 6 0,mJ 7 49] [6,7] .ret) .skip
def Qa0v:List Item:=[mJ 56 10,mJ 6 55,mJ 7 56]
def Qa0j:SC:=cT 52 (sR (mJ 53 9::cJ 54 .eql 53 0::aJ 55 Qh8 [.t 54]::Qa0v) [6,7] .ret) .skip
def Qa0k:SC:=cT 63 (sR [mJ 64 10,zJ 6 0,mJ 7 64] [6,7] .ret) .skip
def Q9n:List Item:=[mJ 65 72,fI 73 (.ext (.t 65) 0),fI 74 (.ext (.t 65) 1),mJ 11 73,mJ 10 74]
def Qa0l:SC:=cT 76 (sR [mJ 77 10,zJ 6 0,mJ 7 77] [6,7] .ret) .skip
def Q9o:List Item:=[mJ 84 10,mJ 6 83,mJ 7 84]
def Qa0m:SC:=cT 80 (sR (mJ 81 11::cJ 82 .neq 81 0::aJ 83 Qh8 [.t 82]::Q9o) [6,7] .ret) .skip
def Q9p:List Item:=[fI 90 (.ext (.t 89) 0),fI 91 (.ext (.t 89) 1),mJ 6 90,mJ 7 91]
def Qa0n:SC:=sR (fJ 85 0 3::lJ 86 85::mJ 87 9::mJ 88 11::aJ 89 Qao7 [.t 86,.t 87,.t 88]::Q9p) [6,7] .ret
def Qa0o:SC:=.seq (sR [fJ 78 0 3,lJ 79 78,cJ 80 .eql 79 10] [3,9,10,11,80] Qa0m) Qa0n
def Qa0p:SC:=.seq (sR [mJ 75 10,cJ 76 .neq 75 0] [3,9,10,11,76] Qa0l) Qa0o
def Qah1:SC:=sR (fJ 66 3 3::lJ 67 66::fI 68 (.iad 4 (.t 67) (kI 1))::tJ 69 4 68::mJ 70 1::mJ 71 2::aJ 72 Qme [.t 69,.t 70,.t 71]::Q9n) [3,9,10,11] Qa0p
def Qa0q:SC:=.seq (sR [fJ 57 0 3,lJ 58 57,cJ 59 .eql 58 10,mJ 60 59,gTm 61 60 9,gT 62 60 (.bin 0 .eql (.t 61) (kI 0)),pF 63 60 62] [1,2,3,9,10,63] Qa0k) Qah1
def Qa0r:SC:=.seq (sR [fJ 50 0 3,lJ 51 50,cJ 52 .eql 51 11] [1,2,3,9,10,52] Qa0j) Qa0q
def Qa0s:SC:=.seq (sR [mJ 47 10,cJ 48 .neq 47 0] [1,2,3,9,10,48] Qa6h) Qa0r
def Qa0t:SC:=sR (fJ 38 3 3::lJ 39 38::fI 40 (.iad 4 (.t 39) (kI 0))::tJ 41 4 40::mJ 42 1::mJ 43 2::aJ 44 Qme [.t 41,.t 42,.t 43]::Qah2) [1,2,3,9,10] Qa0s
def Qa0u:SC:=.seq (sR [fJ 12 0 3,lJ 13 12] [1,2,3,13] Qa6g) Qa0t
def Qbfg:SC:=sR [vJ 3 0,zJ 6 0,zJ 7 0] [1,2,3] Qa0u
theorem Qa3m:mFn prog Qme 3 92 Qbfg Ql6=true:=by kernel_rfl
end Go.AE.Y

namespace Go.AE.Y
inductive Rt where
 |dn (e:Nat)
 |val (n:Nat)
 |vals (l:List Nat)
 |env (b:Option Nat) (v:Vars)
def Rt.ret:Rt→Rt
 |.env (some n) _=>.val n
 |.env none _=>.val 0
 |r=>r
end Go.AE.Y

namespace Go.AE.Y
variable {fns:List Fn}{S:Nat}
end Go.AE.Y

namespace Go.AE.Y
variable {fns:List Fn}{S:Nat}
def nm (v:Vars):List (List (List UInt8)):=v.map fun b=>b.map Prod.fst
theorem Qbhk (v:Vars)(s:List UInt8):(v.find s).isSome=true↔s∈(nm v).flatten:=by
 rw[Vars.find,Option.isSome_map,List.find?_isSome]
 simp only[nm,List.mem_flatten,List.mem_map,decide_eq_true_eq]
 constructor
 ·rintro⟨p,⟨b,hb,hp⟩,rfl⟩
  exact⟨_,⟨b,hb,rfl⟩,List.mem_map.2 ⟨p,hp,rfl⟩⟩
 ·rintro⟨_,⟨b,hb,rfl⟩,hs⟩
  obtain⟨p,hp,rfl⟩:=List.mem_map.1 hs
  exact⟨p,⟨b,hb,hp⟩,rfl⟩
theorem Qa29 {v w:Vars}(h:nm v=nm w){s:List UInt8}(hf:(v.find s).isSome=true):(w.find s).isSome=true:=by
 rw[Qbhk]at hf⊢;rw[←h];exact hf
theorem Qbj8 (v:Vars)(s:List UInt8)(n:Nat):nm (Qe6 v s n)=(s::(nm v).headD [])::(nm v).tail:=by
 cases v <;> rfl
theorem Qi4 {op n:Int}{name:List UInt8}{kids:List Ex}{d:Int}(h:(Ex.mk op n name kids).form d=true) :
  Qa6 kids (d-1)=true∧(op=1∨op=2→kids=[])∧(3≤op→op≤10→kids.length=2)∧(op=11∨op=12→kids.length=1)∧(0≤n∧n≤255)∧1≤op∧op≤13:=by
 simp only[Ex.form,Q8l,Bool.and_eq_true,decide_eq_true_eq]at h
 obtain⟨⟨_,⟨⟨⟨⟨⟨h1,h2⟩,_⟩,_⟩,h5⟩,_⟩⟩,h3⟩:=h
 refine⟨h3,fun ho=>?_,fun h3 h10=>?_,fun ho=>?_,h5,h1.1,h1.2⟩
 ·simp only[Qdw,ho,if_true]at h2
  exact List.length_eq_zero_iff.1 (by omega)
 ·simp only[Qdw,Qd9]at h2
  rw[if_neg (by omega),if_neg (by omega),if_neg (by omega),if_neg (by omega),if_neg (by omega)]at h2
  omega
 ·simp only[Qdw,Qd9]at h2
  rw[if_neg (by omega),if_pos ho,if_neg (by omega),if_pos ho]at h2
  omega
def isE (v:Vars)(w:Vars)(r:Rt):Prop:=(∃z,r=.dn z)∨(∃v',r=.env none v'∧nm v'=nm w)∨∃b v',r=.env (some b) v'∧(nm v').tail=(nm v).tail
end Go.AE.Y

namespace Go.AE.Y
variable {fns gns:List Fn}{S:Nat}
end Go.AE.Y

namespace Go.AE.Y
def Qxm (n:Int):Ex:=.mk 1 n [] []
def isN (e:Ex)(n:Int):Bool:=decide (e.op=1)&&decide (e.n=n)
theorem isN_iff {e:Ex}{n:Int}:isN e n=true↔e.op=1∧e.n=n:=by simp[isN]
def kid0 (e:Ex):Ex:=e.kids.headD (Qxm 0)
def divN (kids:List Ex):Bool:=match kids with
 |_::k::_=>decide (k.op=1)&&!decide (k.n=0)
 |_=>false
mutual
def Ex.safe:Ex→Bool
 |.mk op _ _ kids=>!decide (op=12)&&!decide (op=13)&&(!decide (op=6∨op=7) || divN kids)&&Qqj kids
def Qqj:List Ex→Bool
 |[]=>true
 |x::r=>x.safe&&Qqj r
end
theorem Ex.safe_eq (x:Ex):x.safe=(!decide (x.op=12)&&!decide (x.op=13)&&(!decide (x.op=6∨x.op=7) || divN x.kids)&&Qqj x.kids):=by
 cases x;simp only[Ex.safe,Ex.op,Ex.kids];rfl
def arF (op a b:Int):Option Int:=if op=10 then some (trI (a≠0∧b≠0))else arR op a b
def Qb4 (op n:Int)(name:List UInt8)(a b:Ex):Ex:=
 if op=10∧isN a 0=true then Qxm 0
 else if (isN b 0=true∧(op=3∨op=4))∨(isN b 1=true∧(op=5∨op=6))then a
 else if (isN a 0=true∧op=3)∨(isN a 1=true∧op=5)then b
 else if op=5∧((isN b 0=true∧a.safe=true)∨(isN a 0=true∧b.safe=true))then Qxm 0
 else .mk op n name [a,b]
def Qa4 (op n:Int)(name:List UInt8)(kids:List Ex):Ex:=match kids with
 |[a]=>if op=11 then (if a.op=1 then Qxm (trI (a.n=0))else if a.op=11∧(kid0 a).op=11 then kid0 a else .mk op n name [a])else .mk op n name [a]
 |[a,b]=>if 3≤op∧op≤10 then (if a.op=1∧b.op=1 then (match arF op a.n b.n with|some z=>Qxm z|none=>Qb4 op n name a b)else Qb4 op n name a b)else .mk op n name [a,b]
 |l=>.mk op n name l
mutual
def Ex.fold:Ex→Ex
 |.mk op n name kids=>Qa4 op n name (Qan kids)
def Qan:List Ex→List Ex
 |[]=>[]
 |x::r=>x.fold::Qan r
end
theorem Ex.fold_eq (x:Ex):x.fold=Qa4 x.op x.n x.name (Qan x.kids):=by cases x;simp only[Ex.fold,Ex.op,Ex.n,Ex.name,Ex.kids]
theorem Qc4:∀l:List Ex,Qan l=l.map Ex.fold
 |[]=>by simp[Qan]
 |x::r=>by simp only[Qan,List.map_cons,Qc4 r]
theorem Qaxo {l:List Ex}{d:Int}(h:Qa6 l d=true):∀x∈l,x.form d=true:=by
 rw[Qqh]at h
 exact List.all_eq_true.1 h
mutual
theorem Ex.form_le:∀(x:Ex) (d d':Int),x.form d=true→d≤d'→x.form d'=true
 |.mk op n name kids,d,d',h,hd=>by
  simp only[Ex.form,Bool.and_eq_true,decide_eq_true_eq]at h⊢
  exact⟨⟨by omega,h.1.2⟩,Qanr kids _ _ h.2 (by omega)⟩
theorem Qanr:∀(l:List Ex) (d d':Int),Qa6 l d=true→d≤d'→Qa6 l d'=true
 |[],d,d',h,hd=>by simp[Qa6]
 |x::r,d,d',h,hd=>by
  simp only[Qa6,Bool.and_eq_true]at h⊢
  exact⟨x.form_le d d' h.1 hd,Qanr r d d' h.2 hd⟩
end
theorem Qa98 {z d:Int}(h:0≤z∧z≤255)(hd:1≤d):(Qxm z).form d=true:=by
 have:Qc6 []=false:=rfl
 simp[Qxm,Ex.form,Q8l,Qd9,Qdw,Qa6,this,h,hd]
theorem Qbgu {op a b z:Int}(ha:byI a)(hb:byI b)(h:arR op a b=some z):byI z:=by
 obtain⟨a1,a2⟩:=ha
 obtain⟨b1,b2⟩:=hb
 have tr:∀(p:Prop) [Decidable p],byI (trI p):=fun p _=>by unfold trI;split <;> exact⟨by omega,by omega⟩
 unfold arR at h
 split at h
 ·simp only[Option.some.injEq]at h;subst h;exact⟨by omega,by omega⟩
 split at h
 ·simp only[Option.some.injEq]at h;subst h;exact⟨by omega,by omega⟩
 split at h
 ·simp only[Option.some.injEq]at h;subst h;exact⟨Int.emod_nonneg _ (by omega),by have:=Int.emod_lt_of_pos (a * b) (show (0:Int)<256 by omega);omega⟩
 split at h
 ·split at h
  ·cases h
  ·simp only[Option.some.injEq]at h;subst h
   exact⟨Int.ediv_nonneg a1 b1,Int.le_trans (Int.ediv_le_self _ a1) a2⟩
 split at h
 ·split at h
  ·cases h
  ·simp only[Option.some.injEq]at h;subst h
   refine⟨Int.emod_nonneg _ (by omega),?_⟩
   have:=Int.emod_lt_of_pos a (show 0<b by omega);omega
 split at h
 ·simp only[Option.some.injEq]at h;subst h;exact tr _
 split at h
 ·simp only[Option.some.injEq]at h;subst h;exact tr _
 ·simp only[Option.some.injEq]at h;subst h;exact tr _
theorem Qbjb {op a b z:Int}(ha:byI a)(hb:byI b)(h:arF op a b=some z):byI z:=by
 unfold arF at h
 split at h
 ·simp only[Option.some.injEq]at h;subst h;unfold trI;split <;> exact⟨by omega,by omega⟩
 ·exact Qbgu ha hb h
theorem Qan6 {e:Ex}{d:Int}(h:e.form d=true)(ho:e.op=1):e=Qxm e.n∧byI e.n:=by
 obtain⟨op,n,name,kids⟩:=e
 have h2:=Qi4 h
 simp only[Ex.op]at ho
 subst ho
 have hk:=h2.2.1 (.inl rfl)
 subst hk
 simp only[Ex.form,Q8l,Bool.and_eq_true,Bool.or_eq_true,decide_eq_true_eq]at h
 have:name=[]:=by
  rcases h.1.2.1.1.2 with h|h
  ·omega
  ·exact h
 subst this
 exact⟨rfl,h2.2.2.2.2.1⟩
inductive FoldC (op n:Int)(name:List UInt8)(kids:List Ex):Ex→Prop
 |same:FoldC op n name kids (.mk op n name kids)
 |notN {a}:op=11→kids=[a]→a.op=1→FoldC op n name kids (Qxm (trI (a.n=0)))
 |not3 {a}:op=11→kids=[a]→a.op=11→(kid0 a).op=11→FoldC op n name kids (kid0 a)
 |num {a b z}:3≤op→op≤10→kids=[a,b]→a.op=1→b.op=1→arF op a.n b.n=some z→FoldC op n name kids (Qxm z)
 |and0 {a b}:op=10→kids=[a,b]→a.op=1→a.n=0→FoldC op n name kids (Qxm 0)
 |left {a b}:kids=[a,b]→b.op=1→(b.n=0∧(op=3∨op=4))∨(b.n=1∧(op=5∨op=6))→FoldC op n name kids a
 |right {a b}:kids=[a,b]→a.op=1→(a.n=0∧op=3)∨(a.n=1∧op=5)→FoldC op n name kids b
 |mul0 {a b}:op=5→kids=[a,b]→b.op=1→b.n=0→a.safe=true→FoldC op n name kids (Qxm 0)
 |mul0' {a b}:op=5→kids=[a,b]→a.op=1→a.n=0→b.safe=true→FoldC op n name kids (Qxm 0)
theorem Qa8p {op n:Int}{name:List UInt8}{a b:Ex}(h3:3≤op)(h10:op≤10):FoldC op n name [a,b] (Qb4 op n name a b):=by
 unfold Qb4
 split
 ·rename_i h
  exact .and0 h.1 rfl (isN_iff.1 h.2).1 (isN_iff.1 h.2).2
 split
 ·rename_i h
  rcases h with h|h
  ·exact .left rfl (isN_iff.1 h.1).1 (.inl ⟨(isN_iff.1 h.1).2,h.2⟩)
  ·exact .left rfl (isN_iff.1 h.1).1 (.inr ⟨(isN_iff.1 h.1).2,h.2⟩)
 split
 ·rename_i h
  rcases h with h|h
  ·exact .right rfl (isN_iff.1 h.1).1 (.inl ⟨(isN_iff.1 h.1).2,h.2⟩)
  ·exact .right rfl (isN_iff.1 h.1).1 (.inr ⟨(isN_iff.1 h.1).2,h.2⟩)
 split
 ·rename_i h
  rcases h.2 with h2|h2
  ·exact .mul0 h.1 rfl (isN_iff.1 h2.1).1 (isN_iff.1 h2.1).2 h2.2
  ·exact .mul0' h.1 rfl (isN_iff.1 h2.1).1 (isN_iff.1 h2.1).2 h2.2
 ·exact .same
theorem Qao8 (op n:Int)(name:List UInt8)(kids:List Ex):FoldC op n name kids (Qa4 op n name kids):=by
 unfold Qa4
 split
 ·rename_i a
  split
  ·rename_i h11
   split
   ·rename_i h1;exact .notN h11 rfl h1
   split
   ·rename_i h;exact .not3 h11 rfl h.1 h.2
   ·exact .same
  ·exact .same
 ·rename_i a b
  split
  ·rename_i h
   split
   ·rename_i h1
    split
    ·rename_i z hz;exact .num h.1 h.2 rfl h1.1 h1.2 hz
    ·exact Qa8p h.1 h.2
   ·exact Qa8p h.1 h.2
  ·exact .same
 ·exact .same
end Go.AE.Y

namespace Go.AE.Y
variable {fns:List Fn}{S:Nat}
theorem Ql1 {e:Ex}{d:Int}(h:e.form d=true):∀k∈e.kids,k.form (d-1)=true:=by
 rw[Ex.form_eq,Bool.and_eq_true]at h
 exact Qaxo h.2
theorem Q29 {e k:Ex}(h:k∈e.kids):k.size<e.size:=by
 cases e with
 |mk op n name kids=>
  have:=Qac (show k∈kids from h)
  simp only[Ex.size];omega
end Go.AE.Y

namespace Go.AE.Y
variable {fns:List Fn}{S:Nat}
theorem Qax4 {e:Ex}{d:Int}(hf:e.form d=true)(ho:e.op=11):e.kids=[kid0 e]:=by
 obtain⟨op,n,name,kids⟩:=e
 have h:=(Qi4 hf).2.2.2.1 (.inl ho)
 match kids,h with
 |[k],_=>rfl
end Go.AE.Y

namespace Go.AE.Y
theorem Qbd7 {e:Ex}{d:Int}(hf:e.form d=true)(ho:e.op=11):kid0 e∈e.kids:=by rw[Qax4 hf ho];simp
theorem Qbdj {e:Ex}{d:Int}(h:e.form d=true):1≤d:=by
 rw[Ex.form_eq]at h
 simp only[Bool.and_eq_true,decide_eq_true_eq]at h
 exact h.1.1
theorem Qqs {op n:Int}{name:List UInt8}{kids:List Ex}{e':Ex}{d:Int}(hc:FoldC op n name kids e')(hf:(Ex.mk op n name kids).form d=true) :
  e'=.mk op n name kids∨(op≠13∧kids≠[]∧((∃z,byI z∧e'=Qxm z)∨(e'∈kids)∨∃a∈kids,e'∈a.kids)):=by
 have fk:=Ql1 hf
 cases hc with
 |same=>exact .inl rfl
 |notN ho hk ha=>exact .inr ⟨by omega,by rw[hk];simp,.inl ⟨_,by unfold trI;split <;> exact⟨by omega,by omega⟩,rfl⟩⟩
 |@not3 a ho hk ha hb=>
  have fa:=fk a (by rw[show (Ex.mk op n name kids).kids=kids from rfl,hk];simp)
  exact .inr ⟨by omega,by rw[hk];simp,.inr (.inr ⟨a,by rw[hk];simp,Qbd7 fa ha⟩)⟩
 |@num a b z h3 h10 hk ha hb hz=>
  have fa:=fk a (by rw[show (Ex.mk op n name kids).kids=kids from rfl,hk];simp)
  have fb:=fk b (by rw[show (Ex.mk op n name kids).kids=kids from rfl,hk];simp)
  exact .inr ⟨by omega,by rw[hk];simp,.inl ⟨z,Qbjb (Qan6 fa ha).2 (Qan6 fb hb).2 hz,rfl⟩⟩
 |and0 ho hk ha hn=>exact .inr ⟨by omega,by rw[hk];simp,.inl ⟨0,⟨by omega,by omega⟩,rfl⟩⟩
 |left hk hb hcs=>exact .inr ⟨by omega,by rw[hk];simp,.inr (.inl (by rw[hk];simp))⟩
 |right hk ha hcs=>exact .inr ⟨by omega,by rw[hk];simp,.inr (.inl (by rw[hk];simp))⟩
 |mul0 ho hk hb hn hs=>exact .inr ⟨by omega,by rw[hk];simp,.inl ⟨0,⟨by omega,by omega⟩,rfl⟩⟩
 |mul0' ho hk ha hn hs=>exact .inr ⟨by omega,by rw[hk];simp,.inl ⟨0,⟨by omega,by omega⟩,rfl⟩⟩
theorem Qa4s {op n:Int}{name:List UInt8}{kids:List Ex}{d:Int}(hf:(Ex.mk op n name kids).form d=true):(Qa4 op n name kids).form d=true:=by
 have fk:=Ql1 hf
 have hd:=Qbdj hf
 rcases Qqs (Qao8 op n name kids) hf with h|⟨_,_,⟨z,hz,h⟩|h|⟨a,ha,h⟩⟩
 ·rw[h];exact hf
 ·rw[h];exact Qa98 hz hd
 ·exact Ex.form_le _ _ _ (fk _ h) (by omega)
 ·exact Ex.form_le _ _ _ (Ql1 (fk a ha) _ h) (by omega)
theorem Qa4t {op n:Int}{name:List UInt8}{kids:List Ex}{d:Int}(hf:(Ex.mk op n name kids).form d=true):Qa4 op n name kids=.mk op n name kids∨(Qa4 op n name kids).size<(Ex.mk op n name kids).size:=by
 rcases Qqs (Qao8 op n name kids) hf with h|⟨_,hne,⟨z,hz,h⟩|h|⟨a,ha,h⟩⟩
 ·exact .inl h
 ·right
  rw[h]
  obtain⟨k,l,rfl⟩:∃k l,kids=k::l:=by
   cases kids with
   |nil=>exact absurd rfl hne
   |cons k l=>exact⟨k,l,rfl⟩
  have:=k.size_pos
  simp only[Qxm,Ex.size,Qai];omega
 ·exact .inr (Q29 (e:=.mk op n name kids) h)
 ·right
  have h1:=Q29 (e:=.mk op n name kids) ha
  have h2:=Q29 h
  omega
mutual
theorem Ex.fold_form:∀(x:Ex) (d:Int),x.form d=true→x.fold.form d=true
 |.mk op n name kids,d,h=>by
  simp only[Ex.fold]
  refine Qa4s ?_
  simp only[Ex.form,Bool.and_eq_true]at h⊢
  obtain⟨h1,h2⟩:=Qfp kids (d-1) h.2
  rw[h2]
  exact⟨h.1,h1⟩
theorem Qfp:∀(l:List Ex) (d:Int),Qa6 l d=true→Qa6 (Qan l) d=true∧(Qan l).length=l.length
 |[],d,h=>by simp[Qan,Qa6]
 |x::r,d,h=>by
  simp only[Qa6,Bool.and_eq_true]at h
  obtain⟨h1,h2⟩:=Qfp r d h.2
  simp only[Qan,Qa6,List.length_cons,Bool.and_eq_true,h2,and_true]
  exact⟨x.fold_form d h.1,h1⟩
end
theorem Qaxn (l:List Ex):(Qan l).length=l.length:=by rw[Qc4,List.length_map]
mutual
theorem Ex.fold_size:∀(x:Ex) (d:Int),x.form d=true→x.fold=x∨x.fold.size<x.size
 |.mk op n name kids,d,h=>by
  have h0:=h
  simp only[Ex.form,Bool.and_eq_true]at h
  obtain⟨h1,h2⟩:=Qfp kids (d-1) h.2
  have h3:=Qnc kids (d-1) h.2
  have hf2:(Ex.mk op n name (Qan kids)).form d=true:=by
   simp only[Ex.form,Bool.and_eq_true]
   rw[h2];exact⟨h.1,h1⟩
  have h4:=Qa4t hf2
  simp only[Ex.fold]
  rcases h3 with h3|h3
  ·rw[h3]at h4⊢;exact h4
  ·right
   have:(Qa4 op n name (Qan kids)).size≤(Ex.mk op n name (Qan kids)).size:=by
    rcases h4 with h4|h4
    ·rw[h4];exact Nat.le_refl _
    ·omega
   simp only[Ex.size]at this⊢;omega
theorem Qnc:∀(l:List Ex) (d:Int),Qa6 l d=true→Qan l=l∨Qai (Qan l)<Qai l
 |[],d,h=>by simp[Qan]
 |x::r,d,h=>by
  simp only[Qa6,Bool.and_eq_true]at h
  have h1:=x.fold_size d h.1
  have h2:=Qnc r d h.2
  simp only[Qan,Qai]
  rcases h1 with h1|h1 <;> rcases h2 with h2|h2
  ·left;rw[h1,h2]
  ·right;rw[h1];omega
  ·right;rw[h2];omega
  ·right;omega
end
def PreIn (l l':List Ex):Prop:=∀p∈l',p.op=2∨p.op=13→∃q∈l,q.op=p.op∧q.name=p.name∧q.kids.length=p.kids.length
theorem PreIn.app {a b a' b':List Ex}(h:PreIn a a')(k:PreIn b b'):PreIn (a++b) (a'++b'):=by
 intro p hp ho
 rcases List.mem_append.1 hp with hp|hp
 ·obtain⟨q,hq,r⟩:=h p hp ho;exact⟨q,List.mem_append_left _ hq,r⟩
 ·obtain⟨q,hq,r⟩:=k p hp ho;exact⟨q,List.mem_append_right _ hq,r⟩
theorem PreIn.trans {a b c:List Ex}(h:PreIn a b)(k:PreIn b c):PreIn a c:=by
 intro p hp ho
 obtain⟨q,hq,r1,r2,r3⟩:=k p hp ho
 obtain⟨q',hq',s1,s2,s3⟩:=h q hq (by rw[r1];exact ho)
 exact⟨q',hq',s1.trans r1,s2.trans r2,s3.trans r3⟩
theorem PreIn.sub {a b:List Ex}(h:∀p∈b,p∈a):PreIn a b:=fun p hp _=>⟨p,h p hp,rfl,rfl,rfl⟩
theorem Qxa {l:List Ex}{x:Ex}(h:x∈l):∀p∈x.pre,p∈Qaf l:=by
 induction l with
 |nil=>cases h
 |cons y r ih=>
  intro p hp
  simp only[Qaf,List.mem_append]
  rcases List.mem_cons.1 h with rfl|h
  ·exact .inl hp
  ·exact .inr (ih h p hp)
theorem Qa8q {op n:Int}{name:List UInt8}{kids:List Ex}{d:Int}(hf:(Ex.mk op n name kids).form d=true):PreIn (Ex.mk op n name kids).pre (Qa4 op n name kids).pre:=by
 rcases Qqs (Qao8 op n name kids) hf with h|⟨_,_,⟨z,hz,h⟩|h|⟨a,ha,h⟩⟩
 ·rw[h];exact .sub fun p hp=>hp
 ·rw[h]
  intro p hp ho
  simp only[Qxm,Ex.pre,Qaf,List.mem_singleton]at hp
  subst hp
  simp only[Ex.op]at ho;omega
 ·refine .sub fun p hp=>?_
  simp only[Ex.pre,List.mem_cons]
  exact .inr (Qxa h p hp)
 ·refine .sub fun p hp=>?_
  simp only[Ex.pre,List.mem_cons]
  refine .inr (Qxa ha p ?_)
  rw[Ex.pre_eq]
  exact List.mem_cons_of_mem _ (Qxa h p hp)
mutual
theorem Ex.fold_pre:∀(x:Ex) (d:Int),x.form d=true→PreIn x.pre x.fold.pre
 |.mk op n name kids,d,h=>by
  have h0:=h
  simp only[Ex.form,Bool.and_eq_true]at h
  obtain⟨h1,h2⟩:=Qfp kids (d-1) h.2
  have hf2:(Ex.mk op n name (Qan kids)).form d=true:=by
   simp only[Ex.form,Bool.and_eq_true]
   rw[h2];exact⟨h.1,h1⟩
  simp only[Ex.fold]
  refine PreIn.trans ?_ (Qa8q hf2)
  intro p hp ho
  simp only[Ex.pre,List.mem_cons]at hp
  rcases hp with rfl|hp
  ·exact⟨.mk op n name kids,by simp only[Ex.pre];exact List.mem_cons_self,rfl,rfl,by simp only[Ex.kids];exact h2.symm⟩
  ·obtain⟨q,hq,r⟩:=Qz0 kids (d-1) h.2 p hp ho
   exact⟨q,by simp only[Ex.pre];exact List.mem_cons_of_mem _ hq,r⟩
theorem Qz0:∀(l:List Ex) (d:Int),Qa6 l d=true→PreIn (Qaf l) (Qaf (Qan l))
 |[],d,h=>by simp only[Qan];exact .sub fun p hp=>hp
 |x::r,d,h=>by
  simp only[Qa6,Bool.and_eq_true]at h
  simp only[Qan,Qaf]
  exact (x.fold_pre d h.1).app (Qz0 r d h.2)
end
theorem Ex.fold_call {x:Ex}{d:Int}(h:x.form d=true)(ho:x.op=13):x.fold=.mk x.op x.n x.name (Qan x.kids):=by
 obtain⟨op,n,name,kids⟩:=x
 simp only[Ex.op]at ho
 simp only[Ex.fold,Ex.op,Ex.n,Ex.name,Ex.kids]
 have h0:=h
 simp only[Ex.form,Bool.and_eq_true]at h
 obtain⟨h1,h2⟩:=Qfp kids (d-1) h.2
 have hf2:(Ex.mk op n name (Qan kids)).form d=true:=by
  simp only[Ex.form,Bool.and_eq_true]
  rw[h2];exact⟨h.1,h1⟩
 rcases Qqs (Qao8 op n name (Qan kids)) hf2 with h|⟨hne,_⟩
 ·exact h
 ·exact absurd ho hne
theorem Ex.fold_valid {x:Ex}(h:x.valid=true):x.fold.valid=true:=by
 rw[Ex.valid,Bool.and_eq_true,decide_eq_true_eq]at h⊢
 refine⟨x.fold_form 6 h.1,?_⟩
 rcases x.fold_size 6 h.1 with h2|h2
 ·rw[h2];exact h.2
 ·omega
end Go.AE.Y

namespace Go.AE.Y
mutual
def St.foldS:St→St
 |.mk op name args body els=>.mk op name (Qan args) (Qao body) (Qao els)
def Qao:List St→List St
 |[]=>[]
 |x::r=>x.foldS::Qao r
end
def Fn.foldF (f:Fn):Fn:=⟨f.name,f.params,Qao f.body⟩
theorem Qr1:∀l:List St,Qao l=l.map St.foldS
 |[]=>by simp[Qao]
 |x::r=>by simp only[Qao,List.map_cons,Qr1 r]
theorem Qa3a {fns:List Fn}{F:Fn→Fn}(h:∀f,(F f).name=f.name)(s:List UInt8):Qkv (fns.map F) s=Qkv fns s:=by
 rw[Qkv,Qkv,List.findIdx?_map]
 congr 1
 funext f;simp only[Function.comp,h]
variable {fns:List Fn}{S:Nat}
theorem Qev {x:St}{d:Int}(h:x.form d=true):(∀a∈x.args,a.valid=true)∧Q2 x.body (d-1)=true∧Q2 x.els (d-1)=true:=by
 rw[St.form_eq]at h
 simp only[Bool.and_eq_true,Qp9]at h
 exact⟨List.all_eq_true.1 h.1.1.2.1.1.1.2,h.1.2,h.2⟩
end Go.AE.Y

namespace Go.AE.Y
def arg0 (l:List Ex):Ex:=l.headD (Qxm 0)
def Qzz (op:Int)(name:List UInt8)(args:List Ex)(body els:List St):St:=
 if op=5∧(arg0 args).op=1 then (if (arg0 args).n=0 then .mk op name args [] els else .mk op name args body [])else .mk op name args body els
mutual
def St.cutS:St→St
 |.mk op name args body els=>Qzz op name args (Q3 body) (Q3 els)
def Q3:List St→List St
 |[]=>[]
 |x::r=>if x.op=6∧isN (arg0 x.args) 0=true then Q3 r else x.cutS::(if x.op=7 then []else Q3 r)
end
def Fn.cutF (f:Fn):Fn:=⟨f.name,f.params,Q3 f.body⟩
theorem St.cutS_eq (x:St):x.cutS=Qzz x.op x.name x.args (Q3 x.body) (Q3 x.els):=by cases x;simp only[St.cutS,St.op,St.name,St.args,St.body,St.els]
theorem Qaek (op:Int)(name:List UInt8)(args:List Ex)(body els:List St):(Qzz op name args body els).op=op∧(Qzz op name args body els).name=name∧(Qzz op name args body els).args=args:=by
 unfold Qzz
 split
 ·split <;> exact⟨rfl,rfl,rfl⟩
 ·exact⟨rfl,rfl,rfl⟩
theorem St.cutS_op (x:St):x.cutS.op=x.op:=by rw[St.cutS_eq];exact (Qaek _ _ _ _ _).1
theorem St.cutS_name (x:St):x.cutS.name=x.name:=by rw[St.cutS_eq];exact (Qaek _ _ _ _ _).2.1
theorem St.cutS_args (x:St):x.cutS.args=x.args:=by rw[St.cutS_eq];exact (Qaek _ _ _ _ _).2.2
variable {fns:List Fn}{S:Nat}
end Go.AE.Y

namespace Go.AE.Y
theorem Qaji (l:List St):(Qao l).length=l.length:=by rw[Qr1,List.length_map]
theorem Qa2r {op:Int}{name:List UInt8}{args:List Ex}{nb ne:Nat}(h:Qp9 op name args nb ne=true):Qp9 op name (Qan args) nb ne=true:=by
 simp only[Qp9,Bool.and_eq_true]at h⊢
 obtain⟨⟨⟨⟨⟨⟨⟨h1,h2⟩,h3⟩,h4⟩,h5⟩,h6⟩,h7⟩,h8⟩:=h
 have hv:=List.all_eq_true.1 h5
 refine⟨⟨⟨⟨⟨⟨⟨h1,by rw[Qaxn];exact h2⟩,h3⟩,h4⟩,?_⟩,?_⟩,h7⟩,h8⟩
 ·rw[Qc4,List.all_map]
  exact List.all_eq_true.2 fun x hx=>Ex.fold_valid (hv x hx)
 ·rw[Bool.or_eq_true]at h6⊢
  rcases h6 with h6|h6
  ·exact .inl h6
  ·right
   cases args with
   |nil=>exact h6
   |cons x r=>
    have h13:x.op=13:=by simpa using h6
    have hx:=hv x (by simp)
    rw[Ex.valid,Bool.and_eq_true]at hx
    simp only[Qan,List.map_cons]
    rw[Ex.fold_call hx.1 h13]
    simp[Ex.op]at h13⊢
    cases x;exact h13
mutual
theorem St.fold_form:∀(x:St) (d:Int),x.form d=true→x.foldS.form d=true
 |.mk op name args body els,d,h=>by
  simp only[St.form,St.foldS,Bool.and_eq_true]at h⊢
  obtain⟨⟨⟨h1,h2⟩,h3⟩,h4⟩:=h
  rw[Qaji,Qaji]
  exact⟨⟨⟨h1,Qa2r h2⟩,Qn4 body (d-1) h3⟩,Qn4 els (d-1) h4⟩
theorem Qn4:∀(l:List St) (d:Int),Q2 l d=true→Q2 (Qao l) d=true
 |[],d,h=>by simp[Qao,Q2]
 |x::r,d,h=>by
  simp only[Q2,Qao,Bool.and_eq_true]at h⊢
  exact⟨x.fold_form d h.1,Qn4 r d h.2⟩
end
mutual
theorem St.fold_cnt:∀(x:St),x.foldS.cnt=x.cnt
 |.mk op name args body els=>by simp only[St.foldS,St.cnt,Qr0 body,Qr0 els]
theorem Qr0:∀(l:List St),Qaw (Qao l)=Qaw l
 |[]=>by simp[Qao]
 |x::r=>by simp only[Qao,Qaw,x.fold_cnt,Qr0 r]
end
mutual
theorem St.fold_size:∀(x:St) (d:Int),x.form d=true→x.foldS=x∨x.foldS.size<x.size
 |.mk op name args body els,d,h=>by
  have hv:=(Qev h).1
  simp only[St.form,Bool.and_eq_true]at h
  obtain⟨⟨⟨h1,h2⟩,h3⟩,h4⟩:=h
  have ha:Qa6 args 6=true:=Qaey hv
  have a1:=Qnc args 6 ha
  have a2:=Qef body (d-1) h3
  have a3:=Qef els (d-1) h4
  simp only[St.foldS,St.size]
  rcases a1 with a1|a1 <;> rcases a2 with a2|a2 <;> rcases a3 with a3|a3
  ·left;rw[a1,a2,a3]
  all_goals right
  ·rw[a1,a2];omega
  ·rw[a1,a3];omega
  ·rw[a1];omega
  ·rw[a2,a3];omega
  ·rw[a2];omega
  ·rw[a3];omega
  ·omega
theorem Qef:∀(l:List St) (d:Int),Q2 l d=true→Qao l=l∨Qj (Qao l)<Qj l
 |[],d,h=>by simp[Qao]
 |x::r,d,h=>by
  simp only[Q2,Bool.and_eq_true]at h
  have a1:=x.fold_size d h.1
  have a2:=Qef r d h.2
  simp only[Qao,Qj]
  rcases a1 with a1|a1 <;> rcases a2 with a2|a2
  ·left;rw[a1,a2]
  ·right;rw[a1];omega
  ·right;rw[a2];omega
  ·right;omega
end
structure HdE (fns gns:List Fn)(k:Nat):Prop where
 ix:∀s,Qkv (gns.take k) s=Qkv (fns.take k) s
 ps:∀j:Nat,(gns[j]?.map fun f:Fn=>f.params.length)=(fns[j]?.map fun f:Fn=>f.params.length)
theorem HdE.map {fns:List Fn}{k:Nat}{F:Fn→Fn}(h:∀f,(F f).name=f.name∧(F f).params=f.params):HdE fns (fns.map F) k:=by
 refine⟨fun s=>?_,fun j=>?_⟩
 ·rw[←List.map_take];exact Qa3a (fun f=>(h f).1) s
 ·rw[List.getElem?_map,Option.map_map]
  congr 1
  funext f;simp only[Function.comp,(h f).2]
theorem Qbac {fns gns:List Fn}{k:Nat}{v w:Vars}{p q:Ex}(hd:HdE fns gns k)(hn:nm v=nm w)
  (ho:q.op=p.op) (hm:q.name=p.name) (hk:q.kids.length=p.kids.length) (h:Qe5 fns k v q=0):Qe5 gns k w p=0:=by
 unfold Qe5 at h⊢
 rw[ho,hm,hk]at h
 by_cases h2':p.op=2
 ·rw[if_pos h2']at h⊢
  have:(v.find p.name).isSome=true:=by
   split at h
   ·assumption
   ·omega
  rw[if_pos (Qa29 hn this)]
 ·rw[if_neg h2']at h⊢
  by_cases h13:p.op=13
  ·rw[if_pos h13]at h⊢
   rw[hd.ix]
   cases hix:Qkv (fns.take k) p.name with
   |none=>rw[hix]at h;exact h
   |some j=>rw[hix]at h;simp only[hd.ps]at h⊢;exact h
  ·rw[if_neg h13]
theorem Qbad {fns:List Fn}{k:Nat}{v:Vars}{p:Ex}(h:¬(p.op=2∨p.op=13)):Qe5 fns k v p=0:=by
 unfold Qe5
 rw[if_neg (fun h2=>h (.inl h2)),if_neg (fun h2=>h (.inr h2))]
theorem Qbdw {v w:Vars}(h:nm v=nm w)(s:List UInt8):Qen v s=Qen w s:=by
 have key:∀v:Vars,Qen v s=((nm v).headD []).any fun p=>decide (p=s):=by
  intro v
  cases v with
  |nil=>rfl
  |cons b v=>simp only[Qen,nm,List.headD_cons,List.map_cons,List.any_map];rfl
 rw[key,key,h]
theorem Qbkr {fns:List Fn}{k:Nat}{op:Int}{name:List UInt8}{args:List Ex}{s:Ck}:nm (stC fns k op name args s).v=if op=1 then (name::(nm s.v).headD [])::(nm s.v).tail else nm s.v:=by
 unfold stC
 by_cases h1:op=1
 ·simp only[if_pos h1];exact Qbj8 _ _ _
 ·simp only[if_neg h1];split <;> rfl
theorem Qa32 {fns gns:List Fn}{k:Nat}{op:Int}{name:List UInt8}{args args':List Ex}{s s':Ck}(hd:HdE fns gns k)
  (hp:PreIn (Qaf args) (Qaf args')) (hn:nm s.v=nm s'.v) (hc:s'.c=0) (h:(stC fns k op name args s).c=0):(stC gns k op name args' s').c=0∧nm (stC gns k op name args' s').v=nm (stC fns k op name args s).v:=by
 refine⟨?_,by rw[Qbkr,Qbkr,hn]⟩
 have key:Qa1 fns k s.v (Qaf args) s.c=0→Qa1 gns k s'.v (Qaf args') s'.c=0:=by
  intro h0
  refine partsC_zero.2 ⟨hc,fun p hpp=>?_⟩
  by_cases ho:p.op=2∨p.op=13
  ·obtain⟨q,hq,r1,r2,r3⟩:=hp p hpp ho
   exact Qbac hd hn r1 r2 r3 ((partsC_zero.1 h0).2 q hq)
  ·exact Qbad ho
 unfold stC at h⊢
 by_cases ho:op=1
 ·simp only[if_pos ho]at h⊢
  obtain⟨a,b⟩:=fst0_zero.1 h
  rw[←Qbdw hn]
  exact fst0_zero.2 ⟨key a,b⟩
 ·simp only[if_neg ho]at h⊢
  by_cases ho2:op=2
  ·simp only[if_pos ho2]at h⊢
   obtain⟨a,b⟩:=fst0_zero.1 h
   refine fst0_zero.2 ⟨key a,?_⟩
   have:(s.v.find name).isSome=true:=by
    split at b
    ·assumption
    ·omega
   rw[if_pos (Qa29 hn this)]
  ·simp only[if_neg ho2]at h⊢
   exact key h
end Go.AE.Y

namespace Go.AE.Y
variable {fns gns:List Fn}{k:Nat}
theorem Qao0 {args:List Ex}(hv:∀a∈args,a.valid=true):PreIn (Qaf args) (Qaf (Qan args)):=Qz0 args 6 (Qaey hv)
theorem Qap2 {v w:Vars}(h:nm v=nm w):nm ([]::v)=nm ([]::w):=by simp only[nm,List.map_cons]at h⊢;rw[h]
mutual
theorem St.fold_ck (hd:HdE fns gns k):∀(x:St) (d:Int) (s s':Ck),x.form d=true→(x.ck fns k s).c=0→s'.c=0→nm s.v=nm s'.v→(x.foldS.ck gns k s').c=0∧nm (x.foldS.ck gns k s').v=nm (x.ck fns k s).v
 |.mk op name args body els,d,s,s',hf,h,hc,hn=>by
  have hv:=(Qev hf).1
  simp only[St.form,Bool.and_eq_true]at hf
  simp only[St.ck,St.foldS]at h⊢
  obtain⟨h1,_⟩:=Qbr els h
  obtain⟨h2,_⟩:=Qbr body h1
  obtain⟨a1,a2⟩:=Qa32 hd (Qao0 hv) hn hc h2
  have b1:=Qxp hd body (d-1) _ ⟨[]::(stC gns k op name (Qan args) s').v,(stC gns k op name (Qan args) s').c,(stC gns k op name (Qan args) s').n⟩ hf.1.2 h1 a1 (Qap2 a2.symm)
  have c1:=Qxp hd els (d-1) _ ⟨[]::(stC gns k op name (Qan args) s').v,(Qam gns k (Qao body) ⟨[]::(stC gns k op name (Qan args) s').v,(stC gns k op name (Qan args) s').c,(stC gns k op name (Qan args) s').n⟩).c,(Qam gns k (Qao body) ⟨[]::(stC gns k op name (Qan args) s').v,(stC gns k op name (Qan args) s').c,(stC gns k op name (Qan args) s').n⟩).n⟩ hf.2 h b1 (Qap2 a2.symm)
  exact⟨c1,a2⟩
theorem Qxp (hd:HdE fns gns k):∀(l:List St) (d:Int) (s s':Ck),Q2 l d=true→(Qam fns k l s).c=0→s'.c=0→nm s.v=nm s'.v→(Qam gns k (Qao l) s').c=0
 |[],d,s,s',hf,h,hc,hn=>by simp only[Qao,Qam];exact hc
 |x::r,d,s,s',hf,h,hc,hn=>by
  simp only[Q2,Bool.and_eq_true]at hf
  simp only[Qam,Qao]at h⊢
  obtain⟨h1,_⟩:=Qbr r h
  obtain⟨a1,a2⟩:=x.fold_ck hd d s s' hf.1 h1 hc hn
  exact Qxp hd r d _ _ hf.2 h a1 a2.symm
end
theorem Qbj0 {x:St}{s:Ck}(h:x.op=6):(x.ck fns k s).v=s.v:=by
 rw[St.ck_eq]
 simp only[stC,h]
 rfl
theorem Q5c (op:Int)(name:List UInt8)(args:List Ex)(body els:List St):∃b e,Qzz op name args body els=.mk op name args b e∧(b=body∨b=[])∧(e=els∨e=[]):=by
 unfold Qzz
 split
 ·split
  ·exact⟨_,_,rfl,.inr rfl,.inl rfl⟩
  ·exact⟨_,_,rfl,.inl rfl,.inr rfl⟩
 ·exact⟨_,_,rfl,.inl rfl,.inl rfl⟩
mutual
theorem St.cut_ck (hd:HdE fns gns k):∀(x:St) (s s':Ck),(x.ck fns k s).c=0→s'.c=0→nm s.v=nm s'.v→(x.cutS.ck gns k s').c=0∧nm (x.cutS.ck gns k s').v=nm (x.ck fns k s).v
 |.mk op name args body els,s,s',h,hc,hn=>by
  simp only[St.ck]at h
  obtain⟨h1,_⟩:=Qbr els h
  obtain⟨h2,_⟩:=Qbr body h1
  obtain⟨a1,a2⟩:=Qa32 hd (.sub fun p hp=>hp) hn hc h2
  simp only[St.cutS]
  obtain⟨b,e,hbe,hb,he⟩:=Q5c op name args (Q3 body) (Q3 els)
  rw[hbe]
  simp only[St.ck]
  have b1:(Qam gns k b ⟨[]::(stC gns k op name args s').v,(stC gns k op name args s').c,(stC gns k op name args s').n⟩).c=0:=by
   rcases hb with rfl|rfl
   ·exact Qw2 hd body _ _ h1 a1 (Qap2 a2.symm)
   ·exact a1
  refine⟨?_,a2⟩
  rcases he with rfl|rfl
  ·exact Qw2 hd els _ _ h b1 (Qap2 a2.symm)
  ·exact b1
theorem Qw2 (hd:HdE fns gns k):∀(l:List St) (s s':Ck),(Qam fns k l s).c=0→s'.c=0→nm s.v=nm s'.v→(Qam gns k (Q3 l) s').c=0
 |[],s,s',h,hc,hn=>by simp only[Q3,Qam];exact hc
 |x::r,s,s',h,hc,hn=>by
  simp only[Qam,Q3]at h⊢
  obtain⟨h1,_⟩:=Qbr r h
  split
  ·rename_i hl
   refine Qw2 hd r _ s' h hc ?_
   rw[Qbj0 hl.1];exact hn
  ·obtain⟨a1,a2⟩:=x.cut_ck hd s s' h1 hc hn
   simp only[Qam]
   split
   ·exact a1
   ·exact Qw2 hd r _ _ h a1 a2.symm
end
mutual
theorem St.cut_form:∀(x:St) (d:Int),x.form d=true→x.cutS.form d=true
 |.mk op name args body els,d,h=>by
  simp only[St.form,St.cutS,Bool.and_eq_true]at h⊢
  obtain⟨⟨⟨h1,h2⟩,h3⟩,h4⟩:=h
  have b0:=Qrz body (d-1) h3
  have e0:=Qrz els (d-1) h4
  obtain⟨b,e,hbe,hb,he⟩:=Q5c op name args (Q3 body) (Q3 els)
  rw[hbe]
  simp only[St.form,Bool.and_eq_true]
  simp only[Qp9,Bool.and_eq_true]at h2⊢
  obtain⟨⟨h2,h7⟩,h8⟩:=h2
  refine⟨⟨⟨h1,⟨⟨h2,?_⟩,?_⟩⟩,?_⟩,?_⟩
  ·rw[Bool.or_eq_true]at h7⊢
   rcases h7 with h7|h7
   ·exact .inl h7
   ·right
    have:els=[]:=List.length_eq_zero_iff.1 (of_decide_eq_true h7)
    subst this
    rcases he with rfl|rfl <;> simp[Q3]
  ·rw[Bool.or_eq_true]at h8⊢
   rcases h8 with h8|h8
   ·exact .inl h8
   ·right
    have:body=[]:=List.length_eq_zero_iff.1 (of_decide_eq_true h8)
    subst this
    rcases hb with rfl|rfl <;> simp[Q3]
  ·rcases hb with rfl|rfl
   ·exact b0
   ·simp[Q2]
  ·rcases he with rfl|rfl
   ·exact e0
   ·simp[Q2]
theorem Qrz:∀(l:List St) (d:Int),Q2 l d=true→Q2 (Q3 l) d=true
 |[],d,h=>by simp[Q3,Q2]
 |x::r,d,h=>by
  simp only[Q2,Bool.and_eq_true]at h
  have h1:=x.cut_form d h.1
  have h2:=Qrz r d h.2
  simp only[Q3]
  split
  ·exact h2
  ·simp only[Q2,Bool.and_eq_true]
   refine⟨h1,?_⟩
   split
   ·simp[Q2]
   ·exact h2
end
theorem Q4w (x:St):1≤x.size:=by cases x;simp only[St.size];omega
mutual
theorem St.cut_cnt:∀(x:St),x.cutS.cnt≤x.cnt∧(x.cutS=x∨x.cutS.size<x.size)
 |.mk op name args body els=>by
  obtain⟨b1,b2⟩:=Ql7 body
  obtain⟨e1,e2⟩:=Ql7 els
  obtain⟨b,e,hbe,hb,he⟩:=Q5c op name args (Q3 body) (Q3 els)
  simp only[St.cutS]
  rw[hbe]
  have c1:Qaw b≤Qaw body∧(b=body∨Qj b<Qj body):=by
   rcases hb with rfl|rfl
   ·exact⟨b1,b2⟩
   ·refine⟨by simp[Qaw],?_⟩
    cases body with
    |nil=>exact .inl rfl
    |cons y r=>right;have:=Q4w y;simp only[Qj];omega
  have c2:Qaw e≤Qaw els∧(e=els∨Qj e<Qj els):=by
   rcases he with rfl|rfl
   ·exact⟨e1,e2⟩
   ·refine⟨by simp[Qaw],?_⟩
    cases els with
    |nil=>exact .inl rfl
    |cons y r=>right;have:=Q4w y;simp only[Qj];omega
  simp only[St.cnt,St.size]
  refine⟨by omega,?_⟩
  rcases c1.2 with q1|q1 <;> rcases c2.2 with q2|q2
  ·left;rw[q1,q2]
  ·right;rw[q1];omega
  ·right;rw[q2];omega
  ·right;omega
theorem Ql7:∀(l:List St),Qaw (Q3 l)≤Qaw l∧(Q3 l=l∨Qj (Q3 l)<Qj l)
 |[]=>by simp[Q3]
 |x::r=>by
  obtain⟨x1,x2⟩:=x.cut_cnt
  obtain⟨r1,r2⟩:=Ql7 r
  have hx:=Q4w x
  simp only[Q3]
  split
  ·simp only[Qaw,Qj]
   refine⟨by omega,.inr ?_⟩
   rcases r2 with r2|r2
   ·rw[r2];omega
   ·omega
  ·split
   ·simp only[Qaw,Qj]
    refine⟨by omega,?_⟩
    cases r with
    |nil=>
     rcases x2 with x2|x2
     ·left;rw[x2]
     ·right;simp only[Qj];omega
    |cons y r'=>
     right
     have:=Q4w y
     simp only[Qj]
     rcases x2 with x2|x2
     ·rw[x2];omega
     ·omega
   ·simp only[Qaw,Qj]
    refine⟨by omega,?_⟩
    rcases x2 with x2|x2 <;> rcases r2 with r2|r2
    ·left;rw[x2,r2]
    ·right;rw[x2];omega
    ·right;rw[r2];omega
    ·right;omega
end
end Go.AE.Y

namespace Go.AE.Y
variable {fns:List Fn}{S:Nat}
def foldA (fns:List Fn):List Fn:=fns.map Fn.foldF
def cutA (fns:List Fn):List Fn:=fns.map Fn.cutF
theorem Qa24 {F:Fn→Fn}(h:∀f:Fn,Qaw (F f).body≤Qaw f.body):∀l:List Fn,Qfe (l.map F)≤Qfe l
 |[]=>Nat.le_refl _
 |f::r=>by have:=h f;have:=Qa24 h r;simp only[List.map_cons,Qfe];omega
theorem FineP.mapF {F:Fn→Fn}(h:FineP fns)(h1:∀f,(F f).name=f.name∧(F f).params=f.params)(h2:∀f:Fn,Q2 f.body 4=true→Q2 (F f).body 4=true)(h3:∀f:Fn,Qaw (F f).body≤Qaw f.body)
  (h4:∀(k:Nat) (f:Fn) (s:Ck),Q2 f.body 4=true→(Qam fns k f.body s).c=0→s.c=0→(Qam (fns.map F) k (F f).body s).c=0):FineP (fns.map F):=by
 have hv:=h.v
 simp only[Qmn,Bool.and_eq_true,decide_eq_true_eq]at hv
 have hfm:∀f∈fns,Fn.form f=true:=List.all_eq_true.1 hv.1.2
 have hfb:∀f∈fns,Q2 f.body 4=true:=fun f hf=>by
  have:=hfm f hf
  simp only[Fn.form,Bool.and_eq_true]at this
  exact this.2
 refine⟨?_,fun k hk=>?_,fun k hk=>?_⟩
 ·simp only[Qmn,Bool.and_eq_true,decide_eq_true_eq,List.length_map]
  refine⟨⟨hv.1.1,List.all_eq_true.2 fun f hf=>?_⟩,Nat.le_trans (Qa24 h3 fns) hv.2⟩
  obtain⟨g,hg,rfl⟩:=List.mem_map.1 hf
  have:=hfm g hg
  simp only[Fn.form,Bool.and_eq_true]at this⊢
  rw[(h1 g).1,(h1 g).2]
  exact⟨this.1,h2 g this.2⟩
 ·rw[List.length_map]at hk
  have hc:=h.c k hk
  rw[List.getElem_map,(h1 _).2]
  exact h4 k _ _ (hfb _ (List.getElem_mem hk)) hc (Qbr _ hc).1
 ·rw[List.length_map]at hk
  rw[List.getElem_map,(h1 _).1,Qa3a fun f=>(h1 f).1]
  exact h.ix k hk
theorem Qxj (h:FineP fns):FineP (foldA fns):=
 h.mapF (fun f=>⟨rfl,rfl⟩) (fun f hf=>Qn4 _ _ hf) (fun f=>Nat.le_of_eq (Qr0 _)) fun k f s hf hc hs=>Qxp (.map (F:=Fn.foldF) fun f=>⟨rfl,rfl⟩) _ _ s s hf hc hs rfl
theorem Qa77 (h:FineP fns):FineP (cutA fns):=
 h.mapF (fun f=>⟨rfl,rfl⟩) (fun f hf=>Qrz _ _ hf) (fun f=>(Ql7 _).1) fun k f s hf hc hs=>Qw2 (.map (F:=Fn.cutF) fun f=>⟨rfl,rfl⟩) _ s s hc hs rfl
theorem FineP.bodies (h:FineP fns):∀f∈fns,Q2 f.body 4=true:=by
 have hv:=h.v
 simp only[Qmn,Bool.and_eq_true,decide_eq_true_eq]at hv
 intro f hf
 have:=List.all_eq_true.1 hv.1.2 f hf
 simp only[Fn.form,Bool.and_eq_true]at this
 exact this.2
theorem Q3f {F:Fn→Fn}(hn:∀f,(F f).name=f.name∧(F f).params=f.params):∀l:List Fn,(∀f∈l,(F f).body=f.body∨Qj (F f).body<Qj f.body)→l.map F=l∨Qs (l.map F)<Qs l
 |[],_=>.inl rfl
 |f::r,h=>by
  have h1:=h f (by simp)
  have h2:=Q3f hn r fun g hg=>h g (by simp[hg])
  have he:(F f).body=f.body→F f=f:=fun hb=>by
   obtain⟨a,b⟩:=hn f
   cases hF:F f
   cases f
   rw[hF]at a b hb
   simp only at a b hb
   subst a;subst b;subst hb;rfl
  simp only[List.map_cons,Qs]
  rcases h1 with h1|h1 <;> rcases h2 with h2|h2
  ·left;rw[he h1,h2]
  ·right;rw[he h1];omega
  ·right;rw[h2];omega
  ·right;omega
def Q4v (fns:List Fn):List Fn:=cutA (foldA fns)
theorem Qwx (h:FineP fns):FineP (Q4v fns):=Qa77 (Qxj h)
theorem Qwy (h:FineP fns):Q4v fns=fns∨Qs (Q4v fns)<Qs fns:=by
 have h1:=Q3f (F:=Fn.foldF) (fun f=>⟨rfl,rfl⟩) fns fun f hf=>Qef _ _ (h.bodies f hf)
 have h2:=Q3f (F:=Fn.cutF) (fun f=>⟨rfl,rfl⟩) (foldA fns) fun f hf=>(Ql7 _).2
 rcases h1 with h1|h1
 ·have h1':foldA fns=fns:=h1
  rw[Q4v,h1']
  rw[h1']at h2
  exact h2
 ·right
  rcases h2 with h2|h2
  ·rw[Q4v,show cutA (foldA fns)=foldA fns from h2];exact h1
  ·exact Nat.lt_trans h2 h1
def simN:Nat→List Fn→List Fn
 |0,l=>l
 |n+1,l=>simN n (Q4v l)
def simX (fns:List Fn):List Fn:=simN (Qs fns) fns
theorem Qrv {l:List Fn}(h:Q4v l=l):∀n,simN n l=l
 |0=>rfl
 |n+1=>by rw[simN,h];exact Qrv h n
theorem Qaw2:∀(n m:Nat) {l:List Fn},FineP l→Qs l≤n→n≤m→simN m l=simN n l
 |0,m,l,h,hn,hm=>by
  rcases Qwy h with h1|h1
  ·rw[Qrv h1,Qrv h1]
  ·omega
 |n+1,0,l,h,hn,hm=>by omega
 |n+1,m+1,l,h,hn,hm=>by
  rcases Qwy h with h1|h1
  ·rw[Qrv h1,Qrv h1]
  ·exact Qaw2 n m (Qwx h) (by omega) (by omega)
theorem Qaw3 (h:FineP fns):simX (Q4v fns)=simX fns:=by
 rcases Qwy h with h1|h1
 ·rw[h1]
 ·obtain⟨n,hn⟩:∃n,Qs fns=n+1:=⟨Qs fns-1,by omega⟩
  rw[simX,simX,hn,simN]
  exact (Qaw2 _ _ (Qwx h) (Nat.le_refl _) (by omega)).symm
end Go.AE.Y

namespace Go.AE.Y
attribute [local go_sem] cond_true cond_false Bool.not_true Bool.not_false
open Go.Proofs.Tryz
variable {H H' H0:Heap}{K:V→Heap→Prop}
theorem Q5m {n:Int}(hK:∀H',Upd H H' []→K (.ag (Qxm n).cells) H'):Ql prog Qxf [.c (.int .i64 n)] H K:=by
 refine Qab ?_
 refine Qc Qah Qbid ?_
 refine Qa ?_
 simp only[go_sem]
 intro x2 hx2 H1 h1
 have kn:=(Kn.start0 H).al hx2 h1
 have gx:=kn.l 0 rfl
 refine Qa ?_
 simp only[go_sem,gx]
 intro H2 h2
 have kn:=kn.stL 0 rfl h2
 have gx:=kn.l 0 rfl
 refine Qg ?_
 simp only[go_sem,Qq,Qz,Qy7,List.mem_singleton,forall_eq,RS.op,gx]
 exact⟨_,(FrzL.cons (Qi rfl) (.cons (Qi rfl) (.cons (Qi rfl) (.cons FrzR.nil.sl .nil)))).ag,hK _ kn.fin⟩
theorem Qbjy {e:Ex}{n:Int}(hK:K (.c (.bool (isN e n))) H):Ql prog Qmf [.ag e.cells,.c (.int .i64 n)] H K:=by
 refine Qc Qah Qbj6 ?_
 refine Qa ?_
 simp only[go_sem,e.cells_eq]
 rw[isN]at hK
 refine Qa ?_
 cases h:decide (e.op=1) <;> simp only[h,Bool.true_and,Bool.false_and]at hK
 all_goals
  simp only[go_sem,h]
  refine Qg ?_
  simp only[go_sem,Qq,Qz,Qat4,List.mem_singleton,forall_eq,RS.op]
  exact hK
end Go.AE.Y

namespace Go.AE.Y
attribute [local go_sem] cond_true cond_false Bool.not_true Bool.not_false
open Go.Proofs.Tryz
variable {H H' H0:Heap}{K:V→Heap→Prop}
theorem Qz1:∀l:List Ex,Qqj l=l.all Ex.safe
 |[]=>rfl
 |x::r=>by simp only[Qqj,List.all_cons,Qz1 r]
theorem Qbeh:∀(n:Nat) (x:Ex) (d:Int) (H:Heap) (K:V→Heap→Prop),x.size≤n→x.size≤2^38→x.form d=true→K (.c (.bool x.safe)) H→Ql prog Qop [.ag x.cells] H K:=by
 intro n
 induction n with
 |zero=>intro x d H K h;have:=x.size_pos;omega
 |succ n ih=>
 intro x d H K hn hb hf hK
 have fk:=Ql1 hf
 have hsz:=x.size_kids
 refine Qc Qah Qbeu ?_
 have retf:∀(b:Bool) (e:Env),b=x.safe→lk 2 e=.c (.bool b)→Qq Qic K .ret e H:=by
  intro b e hb h1
  simp only[go_sem,Qq,Qz,Qic,List.mem_singleton,forall_eq,RS.op,h1]
  rw[hb];exact hK
 refine Qa ?_
 simp only[go_sem,x.cells_eq]
 refine Qu ?_
 refine Qa ?_
 have rest:¬x.op=12→¬x.op=13→(x.op=6∨x.op=7→divN x.kids=true)→Qae prog Qaon (Qq Qic K) [(1,.c (.pp [.int .i64 x.op,.int .i64 x.n,.str x.name,.sl false 4 (Qm x.kids)]))] H:=by
  intro n12 n13 hdv
  have hsf:x.safe=Qqj x.kids:=by
   rw[Ex.safe_eq]
   simp only[n12,n13,decide_false,Bool.not_false,Bool.true_and]
   by_cases ho:x.op=6∨x.op=7
   ·rw[hdv ho];simp
   ·simp[ho]
  refine Qu ?_
  refine Qa ?_
  simp only[go_sem]
  refine Qe (Qf (Qy (fun m e1 H1=>∃(i:Nat),m=x.kids.length-i∧i≤x.kids.length∧H1=H∧(∀k∈x.kids.take i,k.safe=true)∧e1=[(1,.c (.pp [.int .i64 x.op,.int .i64 x.n,.str x.name,.sl false 4 (Qm x.kids)])),(3,.c (.int .i64 i))]) x.kids.length ?_ ?_))
  ·exact⟨0,by omega,by omega,rfl,by simp,rfl⟩
  ·rintro m e1 H1 ⟨i,hm,hi,rfl,hall,rfl⟩
   refine Qu ?_
   refine Qa ?_
   simp only[go_sem,Qh]
   intro hl
   simp only[LIM]at hl
   refine Qe (Qb rfl ?_ ?_)
   ·intro hc
    have hlt:i<x.kids.length:=by have:=of_decide_eq_true hc;omega
    obtain⟨k,hk⟩:∃k,x.kids[i]=k:=⟨_,rfl⟩
    have hkm:k∈x.kids:=by rw[←hk];exact List.getElem_mem hlt
    have hks:=Q29 hkm
    refine Qd ?_
    try simp only[go_sem]
    refine Qe (Qf ?_)
    refine Qa ?_
    simp only[go_sem,hlt,Qh,Q6 _ _ hlt,hk,k.cells_eq]
    have hh:=fun K1=>ih k (d-1) H1 K1 (by omega) (by omega) (fk k hkm)
    rw[k.cells_eq]at hh
    refine hh _ ?_
    simp only[go_sem,Qaim]
    cases hs:k.safe with
    |false=>
     refine Qb rfl (fun _=>?_) (fun h=>by simp[lk]at h)
     refine Qa ?_
     simp only[go_sem]
     refine Qg ?_
     try simp only[AE.X.next]
     refine retf false _ ?_ rfl
     rw[hsf,Qz1]
     exact (List.all_eq_false.2 ⟨k,hkm,by simp[hs]⟩).symm
    |true=>
     refine Qb rfl (fun h=>by simp[lk]at h) (fun _=>?_)
     refine Qd ?_
     try simp only[go_sem,AE.X.next]
     refine Qp ?_
     simp only[go_sem,AE.X.next]
     refine⟨Qr (by omega) (by omega),x.kids.length-(i+1),by omega,i+1,rfl,by omega,fun k2 hk2=>?_,rfl⟩
     rw[List.take_succ_eq_append_getElem hlt]at hk2
     rcases List.mem_append.1 hk2 with hk2|hk2
     ·exact hall k2 hk2
     ·rw[List.mem_singleton.1 hk2,hk];exact hs
   ·intro hc
    have hge:x.kids.length≤i:=by have:=of_decide_eq_false hc;omega
    rw[List.take_of_length_le hge]at hall
    refine Qt ?_
    simp only[go_sem,AE.X.next]
    refine Qa ?_
    simp only[go_sem]
    refine Qg ?_
    refine retf true _ ?_ rfl
    rw[hsf,Qz1]
    exact (List.all_eq_true.2 hall).symm
 by_cases h1213:x.op=12∨x.op=13
 ·have hsf:x.safe=false:=by
   rw[Ex.safe_eq]
   rcases h1213 with h|h <;> simp[h]
  rcases h1213 with h|h
  ·simp only[go_sem,h,decide_true]
   refine Qe (Qb rfl (fun _=>?_) (fun h=>by simp[lk]at h))
   refine Qa ?_
   simp only[go_sem]
   refine Qg ?_
   exact retf false _ hsf.symm rfl
  ·have h12:decide ((13:Int)=12)=false:=by decide
   simp only[go_sem,h,h12,decide_true]
   refine Qe (Qb rfl (fun _=>?_) (fun h=>by simp[lk]at h))
   refine Qa ?_
   simp only[go_sem]
   refine Qg ?_
   exact retf false _ hsf.symm rfl
 ·have n12:¬x.op=12:=fun h=>h1213 (.inl h)
  have n13:¬x.op=13:=fun h=>h1213 (.inr h)
  have d12:decide (x.op=12)=false:=decide_eq_false n12
  have d13:decide (x.op=13)=false:=decide_eq_false n13
  simp only[go_sem,d12,d13]
  refine Qe (Qb rfl (fun h=>by simp[lk]at h) (fun _=>?_))
  refine Qd ?_
  try simp only[go_sem]
  refine Qu ?_
  refine Qa ?_
  by_cases h67:x.op=6∨x.op=7
  ·obtain⟨a,b,hab⟩:∃a b,x.kids=[a,b]:=by
    obtain⟨op,n,name,kids⟩:=x
    have:=(Qi4 hf).2.2.1 (by simp only[Ex.op]at h67;omega) (by simp only[Ex.op]at h67;omega)
    match kids,this with
    |[a,b],_=>exact⟨a,b,rfl⟩
   have h1:1<x.kids.length:=by rw[hab];simp
   have hx1:x.kids[1]=b:=by simp[hab]
   have hdv:divN x.kids=(decide (b.op=1)&&!decide (b.n=0)):=by rw[hab];rfl
   have hsf:¬(divN x.kids=true)→x.safe=false:=fun h=>by
    rw[Ex.safe_eq]
    simp[h67,h]
   cases h6:decide (x.op=6) <;> cases h7:decide (x.op=7) <;> cases hb1:decide (b.op=1) <;> cases hb0:decide (b.n=0)
   all_goals
    first
    |(exfalso;have:=of_decide_eq_false h6;have:=of_decide_eq_false h7;omega)
    |skip
   all_goals
    simp only[go_sem,h6,h7,h1,Qh,Q6 _ _ h1,hx1,hb1,hb0,Ex.cells_eq]
   all_goals simp only[show ((0:Int)≤1)=True from eq_true (by decide),true_and]
   all_goals
    first
    |refine Qe (Qb rfl (fun _=>?_) (fun h=>by simp[lk]at h))
     refine Qa ?_
     simp only[go_sem]
     refine Qg ?_
     exact retf false _ (hsf (by rw[hdv,hb1,hb0];decide)).symm rfl
    |refine Qe (Qb rfl (fun h=>by simp[lk]at h) (fun _=>?_))
     refine Qd ?_
     try simp only[go_sem]
     exact rest n12 n13 (fun _=>by rw[hdv,hb1,hb0];rfl)
  ·have d6:decide (x.op=6)=false:=decide_eq_false fun h=>h67 (.inl h)
   have d7:decide (x.op=7)=false:=decide_eq_false fun h=>h67 (.inr h)
   by_cases h1:1<x.kids.length
   ·simp only[go_sem,d6,d7,Qh,Q6 _ _ h1,Ex.cells_eq]
    refine Qe (Qb rfl (fun h=>by simp[lk]at h) (fun _=>?_))
    refine Qd ?_
    try simp only[go_sem]
    exact rest n12 n13 (fun h=>absurd h h67)
   ·have e1:(Qm x.kids).getD 1 []=[]:=by
     rw[List.getD_eq_getElem?_getD,List.getElem?_eq_none (by rw[Qh];omega)];rfl
    simp only[go_sem,d6,d7,Qh,e1,List.drop_nil,List.take_nil,List.headD_nil]
    refine Qe (Qb rfl (fun h=>by simp[lk]at h) (fun _=>?_))
    refine Qd ?_
    try simp only[go_sem]
    exact rest n12 n13 (fun h=>absurd h h67)
end Go.AE.Y

namespace Go.AE.Y
attribute [local go_sem] cond_true cond_false Bool.not_true Bool.not_false
open Go.Proofs.Tryz
variable {H H0:Heap}{K:V→Heap→Prop}{E E' L:List (Nat×Obj)}
structure ExVisP {α:Type}(ob:α→List (Nat×Obj))(step:α→Ex→α)(ok:α→Prop)(Pp:Ex→Prop)(f:Nat)(caps:List C):Prop where
 nm:∀a b,(ob a).map Prod.fst=(ob b).map Prod.fst
 nd:∀a,((ob a).map Prod.fst).Nodup
 ne:∀a,∀p∈ob a,p.2≠.none
 st:∀a s,ok a→ok (step a s)
 c:∀(a:α) (s:Ex) (H:Heap) (K:V→Heap→Prop),ok a→s.size≤2^40→Pp s→(∀p∈ob a,H p.1=p.2)→(∀H',Upd H H' (ob (step a s))→K (.tup []) H')→Ql prog f ([.ag s.cells]++caps.map .c) H K
theorem Qa4w {α:Type}{ob:α→List (Nat×Obj)}{step:α→Ex→α}{ok:α→Prop}{f:Nat}{caps:List C}{Pp:Ex→Prop}(hv:ExVisP ob step ok Pp f caps) :
  ∀(n:Nat) (x:Ex) (a:α) (H:Heap) (K:V→Heap→Prop),x.size≤n→x.size≤2^40→(∀p∈x.pre,Pp p)→ok a→(∀p∈ob a,H p.1=p.2)→(∀H',Upd H H' (ob (x.pre.foldl step a))→K (.tup []) H')→
   Ql prog Qh7 [.ag x.cells,.c (.fn f caps)] H K:=by
 intro n
 induction n with
 |zero=>intro x a H K h;have:=x.size_pos;omega
 |succ n ih=>
 intro x a H K hn hb hp ha hh hK
 have hsz:=x.size_kids
 refine Qab ?_
 refine Qc Qah Qan3 ?_
 refine Qa ?_
 simp only[go_sem,x.cells_eq]
 refine Qa ?_
 simp only[go_sem]
 have kn:Kn H H (ob a) []:=.startE (fun p hp=>⟨hh p hp,hv.ne a p hp⟩) (hv.nd a)
 have hvc:=hv.c a x
 rw[x.cells_eq]at hvc
 refine hvc _ _ ha hb (hp x (by rw[x.pre_eq];simp)) hh fun H1 hu=>?_
 have kn:=kn.callAll hu (hv.nm _ _) (hv.ne _)
 have hok1:=hv.st a x ha
 simp only[go_sem]
 refine Qa ?_
 simp only[go_sem,Qh]
 intro hl
 simp only[LIM]at hl
 refine Qf (Qy (fun m e1 H1=>∃(i:Nat),m=x.kids.length-i∧i≤x.kids.length∧Kn H H1 (ob ((Qaf (x.kids.take i)).foldl step (step a x))) []∧
  e1=[(1,.c (.fn f caps)),(10,.c (.sl false 4 (Qm x.kids))),(11,.c (.int .i64 x.kids.length)),(12,.c (.int .i64 i))]) x.kids.length ?_ ?_)
 ·exact⟨0,by omega,by omega,by simpa[Qaf]using kn,rfl⟩
 ·clear kn
  rintro m e1 H2 ⟨i,hm1,hi,kn,rfl⟩
  obtain⟨a1,ha1⟩:∃a1,(Qaf (x.kids.take i)).foldl step (step a x)=a1:=⟨_,rfl⟩
  have hok2:ok a1:=by rw[←ha1];exact Qao9 hv.st _ _ hok1
  rw[ha1]at kn
  refine Qa ?_
  simp only[go_sem]
  refine Qe (Qb rfl ?_ ?_)
  ·intro hc
   have hlt:i<x.kids.length:=by simpa using hc
   have hms:=Qac (List.getElem_mem hlt)
   obtain⟨y,hy⟩:∃y,x.kids[i]=y:=⟨_,rfl⟩
   have htk:=Qmb hlt
   rw[hy]at hms htk
   refine Qd ?_
   try simp only[go_sem]
   refine Qe (Qf ?_)
   refine Qa ?_
   simp only[go_sem,hlt,Qh,Q6 _ _ hlt,hy,y.cells_eq]
   intro x5 hx5 H3 h3
   have kn:=kn.al hx5 h3
   have g5:=kn.l 0 rfl
   simp only[go_sem,Qrk,g5]
   intro H4 h4
   have kn:=kn.stL 0 rfl h4
   have g5:=kn.l 0 rfl
   refine Qp ?_
   simp only[go_sem,g5]
   have hih:=fun K=>ih y a1 H4 K
   rw[y.cells_eq]at hih
   refine hih _ (by omega) (by omega) (fun p hpy=>hp p (by rw[x.pre_eq];exact List.mem_cons_of_mem _ (Qxa (by rw[←hy];exact List.getElem_mem hlt) p hpy))) hok2 (fun p hp=>(kn.get p (List.mem_append_left _ hp)).1) fun H5 hu=>?_
   have kn:=Kn.drop (A:=[]) (kn.callAll hu (hv.nm _ _) (hv.ne _))
   simp only[go_sem]
   refine Qp ?_
   simp only[go_sem,AE.X.next]
   refine⟨Qr (by omega) (by omega),x.kids.length-(i+1),by omega,i+1,rfl,by omega,?_,rfl⟩
   rw[htk,List.foldl_append,ha1]
   exact kn
  ·intro hc
   have hge:x.kids.length≤i:=by simpa using hc
   rw[List.take_of_length_le hge]at ha1
   refine Qt ?_
   simp only[go_sem,AE.X.next,Qq,Qz,Qgv]
   refine⟨.tup [],.tup _ _ rfl fun j x x' h=>by simp at h,hK _ ?_⟩
   rw[x.pre_eq,List.foldl_cons,ha1]
   exact kn.fin
def Qad4 (p:Ex):Bool:=!decide (p.op=12)&&!decide (p.op=13)&&(!decide (p.op=6∨p.op=7) || divN p.kids)
mutual
theorem Ex.safe_pre:∀x:Ex,x.safe=x.pre.all Qad4
 |.mk op n name kids=>by
  rw[Ex.safe,Ex.pre,List.all_cons,Qaep kids,Qad4,Ex.op,Ex.kids]
theorem Qaep:∀l:List Ex,Qqj l=(Qaf l).all Qad4
 |[]=>by simp[Qqj,Qaf]
 |x::r=>by rw[Qqj,Qaf,List.all_append,x.safe_pre,Qaep r]
end
def PpS (p:Ex):Prop:=p.op=6∨p.op=7→∃a b,p.kids=[a,b]
mutual
theorem Ex.form_pp:∀(x:Ex) (d:Int),x.form d=true→∀p∈x.pre,PpS p
 |.mk op n name kids,d,h=>by
  intro p hp
  rw[Ex.pre]at hp
  have hm:=Qi4 h
  rcases List.mem_cons.1 hp with rfl|hp
  ·intro ho
   simp only[Ex.op]at ho
   have h2:=hm.2.2.1 (by omega) (by omega)
   match kids,h2 with
   |[a,b],_=>exact⟨a,b,rfl⟩
  ·exact Qans kids _ hm.1 p hp
theorem Qans:∀(l:List Ex) (d:Int),Qa6 l d=true→∀p∈Qaf l,PpS p
 |[],_,_=>by simp[Qaf]
 |x::r,d,h=>by
  intro p hp
  simp only[Qa6,Bool.and_eq_true]at h
  rw[Qaf]at hp
  rcases List.mem_append.1 hp with hp|hp
  ·exact x.form_pp d h.1 p hp
  ·exact Qans r d h.2 p hp
end
theorem Qbfn {l:Nat}{b:Bool}{p:Ex}(hp:PpS p)(hh:H l=.st [.bool b])(hK:∀H',Upd H H' [(l,.st [.bool (b&&Qad4 p)])]→K (.tup []) H'):Ql prog Qek ([.ag p.cells]++[C.ptr l 0].map .c) H K:=by
 have kn:Kn H H [(l,.st [.bool b])] []:=.start1 hh (by nofun)
 have g:=kn.e 0 rfl
 refine Qc Qah Qaae ?_
 refine Qa ?_
 simp only[go_sem,p.cells_eq]
 have fin:∀v:Bool,v=(b&&Qad4 p)→∀H',H'=H.set l (.st [.bool v])→Qq Qgv K .nrm [] H':=by
  intro v hv H' h
  have kn:=kn.stE 0 rfl h
  simp only[Qq,Qz,Qgv,go_sem]
  rw[hv]at kn
  exact hK _ kn.upd
 refine Qp ?_
 rcases Nat.lt_or_ge 1 p.kids.length with h1|h1
 ·obtain⟨y,hy⟩:∃y,p.kids[1]=y:=⟨_,rfl⟩
  have hdv:divN p.kids=(decide (y.op=1)&&!decide (y.n=0)):=by
   rcases hk:p.kids with _|⟨a,_|⟨c,r⟩⟩
   ·simp[hk]at h1
   ·simp[hk]at h1
   ·simp only[hk,List.getElem_cons_succ,List.getElem_cons_zero]at hy
    rw[←hy];rfl
  have hs1:Qad4 p=(!decide (p.op=12)&&!decide (p.op=13)&&(!decide (p.op=6∨p.op=7) || (decide (y.op=1)&&!decide (y.n=0)))):=by rw[Qad4,hdv]
  cases b with
  |false=>
   simp only[go_sem,g,h1,Qh,Q6 _ _ h1,hy,Ex.cells_eq]
   exact fun H' h=>fin false rfl H' h
  |true=>
   cases h12:decide (p.op=12) <;> cases h13:decide (p.op=13) <;> cases h6:decide (p.op=6) <;> cases h7:decide (p.op=7) <;> cases y1:decide (y.op=1) <;> cases y0:decide (y.n=0)
   all_goals
    simp only[go_sem,g,h1,h12,h13,h6,h7,y1,y0,Qh,Q6 _ _ h1,hy,Ex.cells_eq]
   all_goals try simp only[show ((0:Int)≤1)=True from eq_true (by decide),true_and]
   all_goals
    refine fun H' h=>fin _ ?_ H' h
    rw[hs1,Bool.decide_or,h12,h13,h6,h7,y1,y0]
    rfl
 ·have e1:(Qm p.kids).getD 1 []=[]:=by
   rw[List.getD_eq_getElem?_getD,List.getElem?_eq_none (by rw[Qh];omega)];rfl
  have h67:¬(p.op=6∨p.op=7):=fun h=>by
   obtain⟨a,c,hac⟩:=hp h
   rw[hac]at h1;simp at h1
  have hs1:Qad4 p=(!decide (p.op=12)&&!decide (p.op=13)):=by rw[Qad4,decide_eq_false h67];simp
  have h6:decide (p.op=6)=false:=decide_eq_false fun h=>h67 (.inl h)
  have h7:decide (p.op=7)=false:=decide_eq_false fun h=>h67 (.inr h)
  cases b with
  |false=>
   simp only[go_sem,g,h6,h7,Qh,e1,List.drop_nil,List.take_nil,List.headD_nil]
   exact fun H' h=>fin false rfl H' h
  |true=>
   cases h12:decide (p.op=12) <;> cases h13:decide (p.op=13)
   all_goals
    simp only[go_sem,g,h12,h13,h6,h7,Qh,e1,List.drop_nil,List.take_nil,List.headD_nil]
    refine fun H' h=>fin _ ?_ H' h
    rw[hs1,h12,h13]
    rfl
def sfOb (l:Nat)(b:Bool):List (Nat×Obj):=[(l,.st [.bool b])]
theorem Qbl5 (l : Nat) : ExVisP (sfOb l) (fun b p => b && Qad4 p) (fun _ => True) PpS Qek [C.ptr l 0] :=
  ⟨fun _ _ => rfl, fun _ => by simp [sfOb], fun _ p hp => by simp [sfOb] at hp; rw [hp]; nofun, fun _ _ _ => trivial,
   fun b s H K _ _ hp hh hK => Qbfn hp (hh (l, _) (by simp [sfOb])) hK⟩
theorem Qanx:∀(l:List Ex) (b:Bool),l.foldl (fun b p=>b&&Qad4 p) b=(b&&l.all Qad4)
 |[],b=>by simp
 |x::r,b=>by rw[List.foldl_cons,Qanx r,List.all_cons,Bool.and_assoc]
theorem Qapg {x:Ex}(hv:x.valid=true)(gk:GK H)(hK:∀H',Upd H H' []→K (.c (.bool x.safe)) H'):Ql prog Qis [.ag x.cells] H K:=by
 have hv2:=hv
 simp only[Ex.valid,Bool.and_eq_true,decide_eq_true_eq]at hv2
 refine Qab ?_
 refine Qc Qah Qapn ?_
 refine Qa ?_
 simp only[go_sem,x.cells_eq]
 refine Qa ?_
 simp only[go_sem]
 have h:=fun K=>Qqu (x:=x) (H:=H) (K:=K) (by omega) gk
 rw[x.cells_eq]at h
 refine h _ fun H1 hu=>?_
 rw[hv]
 have kn:=(Kn.start0 H).call0 hu
 simp only[go_sem,Qsf]
 intro x3 hx3 H1 h1
 have kn:=kn.al hx3 h1
 have g3:=kn.l 0 rfl
 simp only[go_sem,Qse,g3]
 intro H1 h1
 have kn:Kn H H1 [] (sfOb x3 true):=kn.stL 0 rfl h1
 have g3:=kn.l 0 rfl
 refine Qu ?_
 refine Qa ?_
 simp only[go_sem,g3]
 refine Qe (Qb rfl (fun _=>?_) (fun h=>by simp[lk]at h))
 refine Qp ?_
 simp only[go_sem]
 have h:=fun K=>Qa4w (Qbl5 x3) x.size x true H1 K
 rw[x.cells_eq]at h
 refine h _ (Nat.le_refl _) (by omega) (x.form_pp 6 hv2.1) trivial (fun p hp=>(kn.get p (by simpa using hp)).1) fun H2 hu=>?_
 rw[Qanx,Bool.true_and,←x.safe_pre]at hu
 have kn:Kn H H2 [] (sfOb x3 x.safe):=by
  have:=Kn.callLs (L:=sfOb x3 true) (M:=[]) (by simpa using kn) hu rfl (fun p hp=>by simp[sfOb]at hp;rw[hp];nofun)
  simpa using this
 have g3:=kn.l 0 rfl
 try simp only[go_sem,AE.X.next]
 refine Qa ?_
 simp only[go_sem,g3]
 refine Qg ?_
 simp only[go_sem,Qq,Qz,Qic,List.mem_singleton,forall_eq,RS.op]
 exact⟨_,.c _ _ (Qi rfl),hK _ kn.fin⟩
end Go.AE.Y

namespace Go.AE.Y
attribute [local go_sem] cond_true cond_false Bool.not_true Bool.not_false
open Go.Proofs.Tryz
variable {H H0:Heap}{K:V→Heap→Prop}{L:List (Nat×Obj)}
theorem GK.hideG (g:GK H):GK (Qbl H):=by
 obtain⟨ks,rows,h3,h4⟩:=g.sign
 have key:∀{l b:Nat} {c:List C},H l=.gl b c→Qbl H l=.gl b c:=fun h=>by simp only[Qbl,h]
 exact⟨key g.keys,ks,rows,key h3,h4⟩
theorem Qaxi {a b:Int}(hK:K (.tup [.c (.int .i64 (trI (a=0))),.c (.bool true)]) H) :
  Ql prog Qh6 [.c (.int .i64 11),.c (.int .i64 a),.c (.int .i64 b)] H K:=by
 refine Qc Qah Q5r ?_
 refine Qa ?_
 simp only[go_sem]
 refine Qa ?_
 simp only[go_sem]
 refine Qu ?_
 refine Qa ?_
 simp only[go_sem]
 refine Qe (Qf ?_)
 refine Qa ?_
 simp only[go_sem]
 refine Qb rfl (fun h=>by simp at h) fun _=>?_
 refine Qa ?_
 simp only[go_sem]
 refine Qb rfl (fun h=>by simp at h) fun _=>?_
 refine Qa ?_
 simp only[go_sem]
 refine Qb rfl (fun h=>by simp at h) fun _=>?_
 refine Qu ?_
 refine Qa ?_
 simp only[go_sem]
 refine Qe (Qb rfl (fun h=>by simp at h) fun _=>?_)
 refine Qp ?_
 simp only[go_sem]
 refine Qb rfl (fun h=>by simp at h) fun _=>?_
 refine Qa ?_
 simp only[go_sem]
 refine Qb rfl (fun h=>by simp at h) fun _=>?_
 refine Qa ?_
 simp only[go_sem]
 refine Qb rfl (fun h=>by simp at h) fun _=>?_
 refine Qa ?_
 simp only[go_sem]
 refine Qb rfl (fun h=>by simp at h) fun _=>?_
 refine Qd ?_
 simp only[go_sem]
 refine Qa ?_
 simp only[go_sem]
 refine Qast ?_
 rw[Qass]
 simp only[go_sem,Qzf]
 refine Qg ?_
 simp only[go_sem,Qq,Qz,Ql6,RS.op]
 exact hK
theorem Qaxh {a b:Int}(hK:K (.tup [.c (.int .i64 (trI (a≠0∧b≠0))),.c (.bool true)]) H) :
  Ql prog Qh6 [.c (.int .i64 10),.c (.int .i64 a),.c (.int .i64 b)] H K:=by
 refine Qc Qah Q5r ?_
 refine Qa ?_
 simp only[go_sem]
 refine Qa ?_
 simp only[go_sem]
 refine Qu ?_
 refine Qa ?_
 simp only[go_sem]
 refine Qe (Qf ?_)
 refine Qa ?_
 simp only[go_sem]
 refine Qb rfl (fun h=>by simp at h) fun _=>?_
 refine Qa ?_
 simp only[go_sem]
 refine Qb rfl (fun h=>by simp at h) fun _=>?_
 refine Qa ?_
 simp only[go_sem]
 refine Qb rfl (fun h=>by simp at h) fun _=>?_
 refine Qu ?_
 refine Qa ?_
 simp only[go_sem]
 refine Qe (Qb rfl (fun h=>by simp at h) fun _=>?_)
 refine Qp ?_
 simp only[go_sem]
 refine Qb rfl (fun h=>by simp at h) fun _=>?_
 refine Qa ?_
 simp only[go_sem]
 refine Qb rfl (fun h=>by simp at h) fun _=>?_
 refine Qa ?_
 simp only[go_sem]
 refine Qb rfl (fun h=>by simp at h) fun _=>?_
 refine Qa ?_
 simp only[go_sem]
 refine Qb rfl (fun _=>?_) (fun h=>by simp at h)
 refine Qa ?_
 simp only[go_sem]
 refine Qast ?_
 try rw[Qass]
 simp only[go_sem,Q3x]
 refine Qg ?_
 simp only[go_sem,Qq,Qz,Ql6,RS.op]
 have e:trI ((bif !decide (a=0)then !decide (b=0)else false)=true)=trI (a≠0∧b≠0):=by
  by_cases h1:a=0 <;> by_cases h2:b=0 <;> simp[trI,h1,h2]
 first|exact hK|(rw[e];exact hK)
theorem Qbcv {op a b:Int}(ha:byI a)(hb:byI b)(h3:3≤op)(h10:op≤10)(hK:K (.tup [.c (.int .i64 ((arF op a b).getD 0)),.c (.bool (arF op a b).isSome)]) H) :
  Ql prog Qh6 [.c (.int .i64 op),.c (.int .i64 a),.c (.int .i64 b)] H K:=by
 by_cases h:op=10
 ·subst h
  refine Qaxh ?_
  rw[arF,if_pos rfl]at hK
  exact hK
 ·refine Qbgv ha hb h3 (by omega) ?_
  rw[arF,if_neg h]at hK
  rw[arP]
  cases hr:arR op a b with
  |none=>rw[hr]at hK;exact hK
  |some z=>rw[hr]at hK;exact hK
def numC (n:Int):List C:=[.int .i64 1,.int .i64 n,.str [],.sl true 4 []]
theorem Q54 (n:Int):OwL [] (numC n) (Qxm n).cells:=.atom rfl (.atom rfl (.atom rfl (.sln .nil)))
theorem Ql5 {n:Int}(hK:∀H',Kn H H' [] []→K (.ag (numC n)) H'):Ql prog Qge [.c (.int .i64 n)] H K:=by
 refine Qc Qah Qato ?_
 refine Qa ?_
 simp only[go_sem]
 intro x2 hx2 H1 h1
 have kn:=(Kn.start0 H).al hx2 h1
 have gx:=kn.l 0 rfl
 refine Qa ?_
 simp only[go_sem,gx]
 intro H2 h2
 have kn:=kn.stL 0 rfl h2
 have gx:=kn.l 0 rfl
 refine Qg ?_
 simp only[go_sem,Qq,Qz,Qy7,List.mem_singleton,forall_eq,RS.op,gx]
 exact hK _ (kn.sub (List.nil_sublist _))
theorem Qfb {op n0 n:Int}{nm:List UInt8}{c:C}(hc:c.isOw=false)(hK:K (.c (.bool (decide (op=1)&&decide (n0=n)))) H):Ql prog Qa7 [.ag [.int .i64 op,.int .i64 n0,.str nm,c],.c (.int .i64 n)] H K:=by
 refine Qc Qah Qa42 ?_
 refine Qa ?_
 simp only[go_sem,hc]
 refine Qa ?_
 cases h:decide (op=1) <;> simp only[h,Bool.true_and,Bool.false_and]at hK
 all_goals
  simp only[go_sem,h]
  refine Qg ?_
  simp only[go_sem,Qq,Qz,Qat4,List.mem_singleton,forall_eq,RS.op]
  exact hK
def FoR (L:List (Nat×Obj))(y:Ex)(cs:List C):Prop:=∃L',L'.Sublist L∧OwL L' cs y.cells
theorem Qaxs {op n : Int} {nm : List UInt8} {t : C} {kids : List Ex} (hq : kids = [] ∨ op = 13 ∨ op = 12) (ho : OwS L 4 (Qm kids) t) (hm : ∀ p ∈ L, H p.1 = p.2)
    (hK : ∀ H' cs, Kn H H' [] [] → FoR L (.mk op n nm kids) cs → K (.ag cs) H') : Ql prog Qdo [.ag [.int .i64 op, .int .i64 n, .str nm, t]] H K := by
  have hto := ho.isOw
  have hln := ho.lenC
  rw [Qh] at hln
  refine Qc Qah Qqx ?_
  refine Qa ?_
  simp only [go_sem, hto]
  intro x2 hx2 H1 h1
  have kn := (Kn.start0 H).al hx2 h1
  have hsl : Qy4 H1 t := by
    rcases ho with ⟨rfl, _⟩ | ⟨y, M, rows, rfl, rfl, _⟩
    · trivial
    · have g : H y = .vec 4 rows := hm (y, .vec 4 rows) (by simp)
      have g2 : H1 y = .vec 4 rows := (kn.chg y (by rw [g]; nofun) (by simp)).trans g
      simp [Qy4, g2]
  have hl0 : kids = [] → decide ((kids.length : Int) = 0) = true := fun h => by rw [h]; rfl
  refine Qu ?_
  refine Qa ?_
  cases hl : decide ((kids.length : Int) = 0) <;> cases h13 : decide (op = 13) <;> cases h12 : decide (op = 12)
  all_goals
    first
    | (exfalso; rcases hq with h | h | h
       · rw [hl0 h] at hl; cases hl
       · rw [decide_eq_true h] at h13; cases h13
       · rw [decide_eq_true h] at h12; cases h12)
    | skip
  all_goals
    simp only [go_sem, hto, hln, hsl, hl, h13, h12]
    intro _
    refine Qe (Qb rfl (fun _ => ?_) (fun h => by simp [lk] at h))
    have g2 := kn.l 0 rfl
    refine Qa ?_
    simp only [go_sem, hto, g2]
    intro H2 h2
    have kn := kn.stL 0 rfl h2
    have g2 := kn.l 0 rfl
    refine Qg ?_
    simp only [go_sem, Qq, Qz, Qy7, List.mem_singleton, forall_eq, RS.op, hto, g2]
    exact hK _ _ (kn.sub (List.nil_sublist _)) ⟨L, List.Sublist.refl _, .atom rfl (.atom rfl (.atom rfl ho.one))⟩
end Go.AE.Y

namespace Go.AE.Y
attribute [local go_sem] cond_true cond_false Bool.not_true Bool.not_false
open Go.Proofs.Tryz
variable {H H0:Heap}{K:V→Heap→Prop}{L:List (Nat×Obj)}
abbrev z4:List C:=[.int .i64 0,.int .i64 0,.str [],.sl true 4 []]
theorem Qaxu {n:Int}{nm:List UInt8}{t:C}{a:Ex}{d:Int}(hf:(Ex.mk 11 n nm [a]).form d=true)(ho:OwS L 4 (Qm [a]) t)(hm:∀p∈L,H p.1=p.2)
  (hK:∀H' cs,Kn H H' [] []→FoR L (Qa4 11 n nm [a]) cs→K (.ag cs) H'):Ql prog Qdo [.ag [.int .i64 11,.int .i64 n,.str nm,t]] H K:=by
 have ho0:=ho
 rcases ho with ⟨_,h0,_⟩|⟨y,M,rows,rfl,rfl,hrl,hr4,_,ho⟩
 ·simp[Qm]at h0
 obtain⟨ra,rfl⟩:∃ra,rows=[ra]:=List.length_eq_one_iff.1 (by rw[←hrl,Qh];rfl)
 simp only[Qm,List.flatten_cons,List.flatten_nil,List.append_nil]at ho
 obtain⟨ta,rfl,hoa⟩:=OwL.ex ho
 have hta:=hoa.isOw
 have gy0:H y=.vec 4 [[.int .i64 a.op,.int .i64 a.n,.str a.name,ta]]:=hm (y,.vec 4 _) (by simp)
 refine Qc Qah Qqx ?_
 refine Qa ?_
 simp only[go_sem]
 intro x2 hx2 H1 h1
 have kn:=(Kn.start0 H).al hx2 h1
 have gy:H1 y=_:=(kn.chg y (by rw[gy0];nofun) (by simp)).trans gy0
 refine Qu ?_
 refine Qa ?_
 simp only[go_sem,gy]
 intro _
 refine Qe (Qb rfl (fun h=>by simp at h) (fun _=>?_))
 refine Qd ?_
 try simp only[go_sem]
 refine Qbg ?_
 have c1:((1:Nat):Int)=1:=rfl
 have c10:(1:Int)-1=0:=rfl
 simp only[go_sem,gy,hta,c1,c10,List.length_cons,List.length_nil,List.getD_cons_zero,List.take_succ_cons,List.take_zero,List.all_cons,List.all_nil]
 refine⟨by omega,Qr (by omega) (by omega),by omega,fun x3 hx3 H2 h2=>?_⟩
 have kn:=kn.al hx3 h2
 have gy:H2 y=_:=(kn.chg y (by rw[gy0];nofun) (by simp)).trans gy0
 have g3:=kn.l 1 rfl
 simp only[go_sem,Qjt,g3,gy,hta,c1,c10,List.length_cons,List.length_nil,List.getD_cons_zero,List.take_succ_cons,List.take_zero,List.all_cons,List.all_nil]
 refine⟨by omega,by omega,fun x4 hx4 H3 h3=>?_⟩
 have kn:=kn.al hx4 h3
 have gy:H3 y=_:=(kn.chg y (by rw[gy0];nofun) (by simp)).trans gy0
 have g3:=kn.l 1 rfl
 simp only[go_sem,Qjs,g3,gy,hta,c1,c10,List.length_cons,List.length_nil,List.getD_cons_zero,List.take_succ_cons,List.take_zero,List.all_cons,List.all_nil]
 refine⟨by omega,by omega,fun H4 h4=>?_⟩
 have kn:=kn.stL 1 rfl h4
 have gy:H4 y=_:=(kn.chg y (by rw[gy0];nofun) (by simp)).trans gy0
 have g4:=kn.l 2 rfl
 simp only[go_sem,Qjr,g4,gy,hta,c1,c10,List.length_cons,List.length_nil,List.getD_cons_zero,List.take_succ_cons,List.take_zero,List.all_cons,List.all_nil]
 refine⟨by omega,fun H5 h5=>?_⟩
 have kn:Kn H H5 [] [(x2,.st z4),(x3,.st [.int .i64 a.op,.int .i64 a.n,.str a.name,ta]),(x4,.st [.int .i64 a.op,.int .i64 a.n,.str a.name,ta])]:=kn.stL 2 rfl h5
 have gy:H5 y=_:=(kn.chg y (by rw[gy0];nofun) (by simp)).trans gy0
 have g2:=kn.l 0 rfl
 have g3:=kn.l 1 rfl
 have g4:=kn.l 2 rfl
 have retf:∀(cs:List C) (H6:Heap) (e:Env),(∃o3 o4,Kn H H6 [] [(x2,.st cs),(x3,o3),(x4,o4)])→cs.length=4→noOw cs=true→FoR ((y,.vec 4 [[.int .i64 a.op,.int .i64 a.n,.str a.name,ta]])::M) (Qa4 11 n nm [a]) cs→lk 2 e=.c (.ptr x2 0)→Qq Qy7 K .ret e H6:=by
  rintro cs H6 e ⟨o3,o4,kn⟩ hl hno hr h2
  have g2:=kn.l 0 rfl
  have htk:List.take 4 cs=cs:=List.take_of_length_le (by omega)
  have hno2:(cs.all fun c=>!c.isOw)=true:=hno
  simp only[go_sem,Qq,Qz,Qy7,List.mem_singleton,forall_eq,RS.op,h2,g2,hl,htk,hno2]
  exact hK _ _ (kn.sub (List.nil_sublist _)) hr
 refine Qu ?_
 refine Qa ?_
 cases h1:decide (a.op=1)
 ·simp only[go_sem,g3,g4,hta,h1]
  refine Qe (Qb rfl (fun h=>by simp[lk]at h) (fun _=>?_))
  refine Qd ?_
  try simp only[go_sem]
  have h1':=of_decide_eq_false h1
  have hfa:a.form (d-1)=true:=Ql1 hf a (by simp[Ex.kids])
  have end35:Qa4 11 n nm [a]=.mk 11 n nm [a]→Qae prog Qfd (Qq Qy7 K) [(1,.c (.pp [.int .i64 11,.int .i64 n,.str nm,.vsl y 4 0 1])),(2,.c (.ptr x2 0))] H5:=by
   intro he
   refine Qa ?_
   simp only[go_sem,g2]
   intro H6 h6
   have kn:=kn.stL 0 rfl h6
   refine Qg ?_
   exact retf _ _ _ ⟨_,_,kn⟩ rfl rfl ⟨_,List.Sublist.refl _,by rw[he];exact .atom rfl (.atom rfl (.atom rfl ho0.one))⟩ rfl
  refine Qu ?_
  refine Qa ?_
  simp only[go_sem]
  refine Qe (Qf ?_)
  refine Qa ?_
  simp only[go_sem]
  refine Qb rfl (fun _=>?_) (fun h=>by simp at h)
  refine Qa ?_
  rcases hoa with ⟨rfl,he,rfl⟩|⟨ya,Ma,rowsA,rfl,rfl,hrlA,hr4A,_,hoA⟩
  ·have hk0:a.kids=[]:=List.length_eq_zero_iff.1 (by rw[←Qh,he];rfl)
   have h11:¬a.op=11:=fun h=>by
    have:=Qax4 hfa h
    rw[hk0]at this;simp at this
   have d11:decide (a.op=11)=false:=decide_eq_false h11
   simp only[go_sem,g3,d11,List.getD_nil,List.drop_nil,List.take_nil,List.headD_nil]
   refine Qb rfl (fun h=>by simp[lk]at h) (fun _=>?_)
   refine Qd ?_
   try simp only[go_sem,AE.X.next]
   exact end35 (by simp[Qa4,h1',h11])
  ·have gya0:H ya=.vec 4 rowsA:=hm (ya,.vec 4 rowsA) (by simp)
   have gya:H5 ya=.vec 4 rowsA:=(kn.chg ya (by rw[gya0];nofun) (by simp)).trans gya0
   by_cases h11:a.op=11
   ·have d11:decide (a.op=11)=true:=decide_eq_true h11
    have hk1:=Qax4 hfa h11
    obtain⟨k,hk⟩:∃k,kid0 a=k:=⟨_,rfl⟩
    rw[hk]at hk1
    rw[hk1]at hrlA hoA
    obtain⟨rk,rfl⟩:∃rk,rowsA=[rk]:=List.length_eq_one_iff.1 (by rw[←hrlA,Qh];rfl)
    simp only[Qm,List.flatten_cons,List.flatten_nil,List.append_nil]at hoA
    have hoA0:=hoA
    obtain⟨tk,rfl,hok⟩:=OwL.ex hoA
    have htk:=hok.isOw
    cases hk11:decide (k.op=11)
    ·simp only[go_sem,g3,d11,gya,hk11,htk,List.length_cons,List.length_nil,List.getD_cons_zero,List.take_succ_cons,List.take_zero,List.all_cons,List.all_nil]
     refine⟨by omega,?_⟩
     refine Qb rfl (fun h=>by simp[lk]at h) (fun _=>?_)
     refine Qd ?_
     try simp only[go_sem,AE.X.next]
     exact end35 (by simp[Qa4,h1',h11,hk,of_decide_eq_false hk11])
    ·simp only[go_sem,g3,d11,gya,hk11,htk,List.length_cons,List.length_nil,List.getD_cons_zero,List.take_succ_cons,List.take_zero,List.all_cons,List.all_nil]
     refine⟨by omega,?_⟩
     refine Qb rfl (fun _=>?_) (fun h=>by simp[lk]at h)
     refine Qa ?_
     simp only[go_sem,g2,g3,gya,htk,List.length_cons,List.length_nil,List.getD_cons_zero,List.take_succ_cons,List.take_zero,List.all_cons,List.all_nil]
     refine⟨by omega,fun H6 h6=>?_⟩
     have kn:=kn.stL 0 rfl h6
     refine Qg ?_
     have e:Qa4 11 n nm [a]=k:=by simp[Qa4,h1',h11,hk,of_decide_eq_true hk11]
     exact retf _ _ _ ⟨_,_,kn⟩ rfl hoA0.noOw ⟨Ma,(List.sublist_append_right [_,_] Ma),by rw[e];exact hoA0⟩ rfl
   ·have d11:decide (a.op=11)=false:=decide_eq_false h11
    have fin:Qae prog Qvb (X.inBlock 0 (X.sq prog Qfd (Qq Qy7 K))) [(1,.c (.pp [.int .i64 11,.int .i64 n,.str nm,.vsl y 4 0 1])),(2,.c (.ptr x2 0)),(3,.c (.ptr x3 0)),(69,.c (.bool false))] H5:=by
     refine Qb rfl (fun h=>by simp[lk]at h) (fun _=>?_)
     refine Qd ?_
     try simp only[go_sem,AE.X.next]
     exact end35 (by simp[Qa4,h1',h11])
    rcases rowsA with _|⟨rk,rs⟩
    ·simp only[go_sem,g3,d11,gya,List.length_nil,List.getD_nil,List.drop_nil,List.take_nil,List.headD_nil]
     exact fin
    ·obtain⟨k,kr,hk⟩:∃k kr,a.kids=k::kr:=by
      rcases ha:a.kids with _|⟨k,kr⟩
      ·rw[ha]at hrlA;simp[Qm]at hrlA
      ·exact⟨k,kr,rfl⟩
     rw[hk]at hoA
     simp only[Qm]at hoA
     obtain⟨L1,L2,rfl,ho1,_⟩:=hoA.uncons (by rw[hr4A rk (by simp),k.cells_len])
     obtain⟨tk,rfl,hok⟩:=OwL.ex ho1
     simp only[go_sem,g3,d11,gya,List.length_cons,List.getD_cons_zero,List.take_succ_cons,List.drop_zero]
     exact fin
 ·simp only[go_sem,g3,g4,hta,h1]
  refine Qe (Qb rfl (fun _=>?_) (fun h=>by simp[lk]at h))
  have h1':=of_decide_eq_true h1
  refine Qa ?_
  simp only[go_sem,g3,g4,hta]
  refine Qaxi ?_
  simp only[go_sem,Qju,List.getD_cons_zero,List.getD_cons_succ]
  refine Qa ?_
  simp only[go_sem]
  refine Qb rfl (fun _=>?_) (fun h=>by simp[lk]at h)
  refine Qa ?_
  simp only[go_sem]
  refine Ql5 fun H6 k6=>?_
  have kn:=kn.comp0 k6
  have g2:=kn.l 0 rfl
  simp only[go_sem,Qjv,g2,numC]
  intro H7 h7
  have kn:=kn.stL 0 rfl h7
  refine Qg ?_
  refine retf (numC (trI (a.n=0))) _ _ ⟨_,_,kn⟩ rfl rfl ⟨[],List.nil_sublist _,?_⟩ rfl
  have e:Qa4 11 n nm [a]=Qxm (trI (a.n=0)):=by simp[Qa4,h1']
  rw[e]
  exact Q54 _
end Go.AE.Y

namespace Go.AE.Y
attribute [local go_sem] cond_true cond_false Bool.not_true Bool.not_false
open Go.Proofs.Tryz
variable {H H0:Heap}{K:V→Heap→Prop}{L:List (Nat×Obj)}
theorem Qaxt {op n:Int}{nm:List UInt8}{t:C}{a b:Ex}(h3:3≤op)(h10:op≤10)(hva:a.valid=true)(hvb:b.valid=true)(gk:GK H)(ho:OwS L 4 (Qm [a,b]) t)(hm:∀p∈L,H p.1=p.2)
  (hK:∀H' cs,Kn H H' [] []→FoR L (Qa4 op n nm [a,b]) cs→K (.ag cs) H'):Ql prog Qdo [.ag [.int .i64 op,.int .i64 n,.str nm,t]] H K:=by
 have ho0:=ho
 have hfa:a.form 6=true:=by simp only[Ex.valid,Bool.and_eq_true]at hva;exact hva.1
 have hfb:b.form 6=true:=by simp only[Ex.valid,Bool.and_eq_true]at hvb;exact hvb.1
 rcases ho with ⟨_,h0,_⟩|⟨y,M,rows,rfl,rfl,hrl,hr4,_,ho⟩
 ·simp[Qm]at h0
 obtain⟨ra,rb,rfl⟩:∃ra rb,rows=[ra,rb]:=by
  have:rows.length=2:=by rw[←hrl,Qh];rfl
  match rows,this with
  |[ra,rb],_=>exact⟨ra,rb,rfl⟩
 simp only[Qm]at ho
 obtain⟨La,Lb,rfl,hoa0,ho⟩:=ho.uncons (by rw[hr4 ra (by simp),a.cells_len])
 simp only[List.flatten_cons,List.flatten_nil,List.append_nil]at ho
 have hob0:=ho
 obtain⟨ta,rfl,hoa⟩:=OwL.ex hoa0
 obtain⟨tb,rfl,hob⟩:=OwL.ex hob0
 have hta:=hoa.isOw
 have htb:=hob.isOw
 have gy0:H y=.vec 4 [[.int .i64 a.op,.int .i64 a.n,.str a.name,ta],[.int .i64 b.op,.int .i64 b.n,.str b.name,tb]]:=hm (y,.vec 4 _) (by simp)
 have n11:decide (op=11)=false:=decide_eq_false (by omega)
 have n12:decide (op=12)=false:=decide_eq_false (by omega)
 have n13:decide (op=13)=false:=decide_eq_false (by omega)
 have c2:((2:Nat):Int)=2:=rfl
 have c20:decide ((2:Int)=0)=false:=rfl
 have c21:(2:Int)-1=1:=rfl
 refine Qc Qah Qqx ?_
 refine Qa ?_
 simp only[go_sem]
 intro x2 hx2 H1 h1
 have kn:=(Kn.start0 H).al hx2 h1
 have gy:H1 y=_:=(kn.chg y (by rw[gy0];nofun) (by simp)).trans gy0
 refine Qu ?_
 refine Qa ?_
 simp only[go_sem,gy,c2,c20,n13,n12,List.length_cons,List.length_nil]
 intro _
 refine Qe (Qb rfl (fun h=>by simp[lk]at h) (fun _=>?_))
 refine Qd ?_
 try simp only[go_sem]
 refine Qbg ?_
 simp only[go_sem,gy,hta,htb,c2,c21,List.length_cons,List.length_nil,List.getD_cons_zero,List.getD_cons_succ,List.take_succ_cons,List.take_zero,List.all_cons,List.all_nil]
 refine⟨by omega,Qr (by omega) (by omega),by omega,fun x3 hx3 H2 h2=>?_⟩
 have kn:=kn.al hx3 h2
 have gy:H2 y=_:=(kn.chg y (by rw[gy0];nofun) (by simp)).trans gy0
 have g3:=kn.l 1 rfl
 simp only[go_sem,Qjt,g3,gy,hta,htb,c2,c21,List.length_cons,List.length_nil,List.getD_cons_zero,List.getD_cons_succ,List.take_succ_cons,List.take_zero,List.all_cons,List.all_nil]
 refine⟨by omega,by omega,fun x4 hx4 H3 h3'=>?_⟩
 have kn:=kn.al hx4 h3'
 have gy:H3 y=_:=(kn.chg y (by rw[gy0];nofun) (by simp)).trans gy0
 have g3:=kn.l 1 rfl
 simp only[go_sem,Qjs,g3,gy,hta,htb,c2,c21,List.length_cons,List.length_nil,List.getD_cons_zero,List.getD_cons_succ,List.take_succ_cons,List.take_zero,List.all_cons,List.all_nil]
 refine⟨by omega,by omega,fun H4 h4=>?_⟩
 have kn:=kn.stL 1 rfl h4
 have gy:H4 y=_:=(kn.chg y (by rw[gy0];nofun) (by simp)).trans gy0
 have g4:=kn.l 2 rfl
 simp only[go_sem,Qjr,g4,gy,hta,htb,c2,c21,List.length_cons,List.length_nil,List.getD_cons_zero,List.getD_cons_succ,List.take_succ_cons,List.take_zero,List.all_cons,List.all_nil]
 refine⟨by omega,fun H5 h5=>?_⟩
 have kn:Kn H H5 [] [(x2,.st z4),(x3,.st [.int .i64 a.op,.int .i64 a.n,.str a.name,ta]),(x4,.st [.int .i64 b.op,.int .i64 b.n,.str b.name,tb])]:=kn.stL 2 rfl h5
 have gy:H5 y=_:=(kn.chg y (by rw[gy0];nofun) (by simp)).trans gy0
 have g2:=kn.l 0 rfl
 have g3:=kn.l 1 rfl
 have g4:=kn.l 2 rfl
 have retf:∀(cs:List C) (H6:Heap) (e:Env),(∃o3 o4,Kn H H6 [] [(x2,.st cs),(x3,o3),(x4,o4)])→cs.length=4→noOw cs=true→FoR ((y,.vec 4 [[.int .i64 a.op,.int .i64 a.n,.str a.name,ta],[.int .i64 b.op,.int .i64 b.n,.str b.name,tb]])::(La++Lb)) (Qa4 op n nm [a,b]) cs→lk 2 e=.c (.ptr x2 0)→Qq Qy7 K .ret e H6:=by
  rintro cs H6 e ⟨o3,o4,kn⟩ hl hno hr h2
  have g2:=kn.l 0 rfl
  have htk:List.take 4 cs=cs:=List.take_of_length_le (by omega)
  have hno2:(cs.all fun c=>!c.isOw)=true:=hno
  simp only[go_sem,Qq,Qz,Qy7,List.mem_singleton,forall_eq,RS.op,h2,g2,hl,htk,hno2]
  exact hK _ _ (kn.sub (List.nil_sublist _)) hr
 have end35:Qa4 op n nm [a,b]=.mk op n nm [a,b]→Qae prog Qfd (Qq Qy7 K) [(1,.c (.pp [.int .i64 op,.int .i64 n,.str nm,.vsl y 4 0 2])),(2,.c (.ptr x2 0))] H5:=by
  intro he
  refine Qa ?_
  simp only[go_sem,g2]
  intro H6 h6
  have kn:=kn.stL 0 rfl h6
  refine Qg ?_
  exact retf _ _ _ ⟨_,_,kn⟩ rfl rfl ⟨_,List.Sublist.refl _,by rw[he];exact .atom rfl (.atom rfl (.atom rfl ho0.one))⟩ rfl
 have rest36:∀e:Env,Qa4 op n nm [a,b]=Qb4 op n nm a b→lk 1 e=.c (.pp [.int .i64 op,.int .i64 n,.str nm,.vsl y 4 0 2])→lk 2 e=.c (.ptr x2 0)→lk 3 e=.c (.ptr x3 0)→lk 4 e=.c (.ptr x4 0)→Qae prog Qsm (Qq Qy7 K) e H5:=by
  intro e hF l1 l2 l3 l4
  refine Qu ?_
  refine Qa ?_
  simp only[go_sem,l1,l2,l3,l4]
  refine Qe (Qf ?_)
  refine Qa ?_
  simp only[go_sem,n11]
  refine Qb rfl (fun h=>by simp[lk]at h) (fun _=>?_)
  have hops:op=3∨op=4∨op=5∨op=6∨op=7∨op=8∨op=9∨op=10:=by omega
  rcases hops with rfl|rfl|rfl|rfl|rfl|rfl|rfl|rfl
  ·skip
   have d3:decide ((3:Int)=3)=true:=by decide
   have d4:decide ((3:Int)=4)=false:=by decide
   have d5:decide ((3:Int)=5)=false:=by decide
   have d6:decide ((3:Int)=6)=false:=by decide
   have d10:decide ((3:Int)=10)=false:=by decide
   refine Qa ?_
   simp only[go_sem,d3,d4,d5,d6,d10]
   refine Qb rfl (fun h=>by simp[lk]at h) (fun _=>?_)
   refine Qa ?_
   simp only[go_sem,d3,d4,d5,d6,d10]
   refine Qb rfl (fun _=>?_) (fun h=>by simp[lk]at h)
   refine Qu ?_
   refine Qa ?_
   simp only[go_sem,g4,htb]
   refine Qfb htb ?_
   rw[show (decide (b.op=1)&&decide (b.n=0))=isN b 0 from rfl]
   try simp only[go_sem]
   cases zb:isN b 0
   rotate_left
   ·refine Qe (Qb rfl (fun _=>?_) (fun h=>by simp[lk]at h))
    refine Qa ?_
    simp only[go_sem,g2,g3,hta]
    intro H6 h6
    have kn:=kn.stL 0 rfl h6
    refine Qg ?_
    exact retf [.int .i64 a.op,.int .i64 a.n,.str a.name,ta] _ _ ⟨_,_,kn⟩ rfl hoa0.noOw ⟨_,(List.sublist_append_left La Lb).cons _,by rw[hF,show Qb4 _ n nm a b=a from by simp[Qb4,zb]];exact hoa0⟩ rfl
   ·refine Qe (Qb rfl (fun h=>by simp[lk]at h) (fun _=>?_))
    refine Qd ?_
    try simp only[go_sem,AE.X.next]
    refine Qa ?_
    simp only[go_sem,g3,hta]
    refine Qfb hta ?_
    rw[show (decide (a.op=1)&&decide (a.n=0))=isN a 0 from rfl]
    try simp only[go_sem]
    cases za:isN a 0
    rotate_left
    ·refine Qb rfl (fun _=>?_) (fun h=>by simp[lk]at h)
     refine Qa ?_
     simp only[go_sem,g2,g4,htb]
     intro H6 h6
     have kn:=kn.stL 0 rfl h6
     refine Qg ?_
     exact retf [.int .i64 b.op,.int .i64 b.n,.str b.name,tb] _ _ ⟨_,_,kn⟩ rfl hob0.noOw ⟨_,(List.sublist_append_right La Lb).cons _,by rw[hF,show Qb4 _ n nm a b=b from by simp[Qb4,za,zb]];exact hob0⟩ rfl
    ·refine Qb rfl (fun h=>by simp[lk]at h) (fun _=>?_)
     refine Qd ?_
     try simp only[go_sem,AE.X.next]
     exact end35 (by rw[hF];simp[Qb4,za,zb])
  ·skip
   have d3:decide ((4:Int)=3)=false:=by decide
   have d4:decide ((4:Int)=4)=true:=by decide
   have d5:decide ((4:Int)=5)=false:=by decide
   have d6:decide ((4:Int)=6)=false:=by decide
   have d10:decide ((4:Int)=10)=false:=by decide
   refine Qa ?_
   simp only[go_sem,d3,d4,d5,d6,d10]
   refine Qb rfl (fun h=>by simp[lk]at h) (fun _=>?_)
   refine Qa ?_
   simp only[go_sem,d3,d4,d5,d6,d10]
   refine Qb rfl (fun h=>by simp[lk]at h) (fun _=>?_)
   refine Qa ?_
   simp only[go_sem,d3,d4,d5,d6,d10]
   refine Qb rfl (fun _=>?_) (fun h=>by simp[lk]at h)
   refine Qa ?_
   simp only[go_sem,g4,htb]
   refine Qfb htb ?_
   rw[show (decide (b.op=1)&&decide (b.n=0))=isN b 0 from rfl]
   try simp only[go_sem]
   cases zb:isN b 0
   rotate_left
   ·refine Qb rfl (fun _=>?_) (fun h=>by simp[lk]at h)
    refine Qa ?_
    simp only[go_sem,g2,g3,hta]
    intro H6 h6
    have kn:=kn.stL 0 rfl h6
    refine Qg ?_
    exact retf [.int .i64 a.op,.int .i64 a.n,.str a.name,ta] _ _ ⟨_,_,kn⟩ rfl hoa0.noOw ⟨_,(List.sublist_append_left La Lb).cons _,by rw[hF,show Qb4 _ n nm a b=a from by simp[Qb4,zb]];exact hoa0⟩ rfl
   ·refine Qb rfl (fun h=>by simp[lk]at h) (fun _=>?_)
    refine Qd ?_
    try simp only[go_sem,AE.X.next]
    exact end35 (by rw[hF];simp[Qb4,zb])
  ·skip
   have d3:decide ((5:Int)=3)=false:=by decide
   have d4:decide ((5:Int)=4)=false:=by decide
   have d5:decide ((5:Int)=5)=true:=by decide
   have d6:decide ((5:Int)=6)=false:=by decide
   have d10:decide ((5:Int)=10)=false:=by decide
   refine Qa ?_
   simp only[go_sem,d3,d4,d5,d6,d10]
   refine Qb rfl (fun h=>by simp[lk]at h) (fun _=>?_)
   refine Qa ?_
   simp only[go_sem,d3,d4,d5,d6,d10]
   refine Qb rfl (fun h=>by simp[lk]at h) (fun _=>?_)
   refine Qa ?_
   simp only[go_sem,d3,d4,d5,d6,d10]
   refine Qb rfl (fun h=>by simp[lk]at h) (fun _=>?_)
   refine Qa ?_
   simp only[go_sem,d3,d4,d5,d6,d10]
   refine Qb rfl (fun _=>?_) (fun h=>by simp[lk]at h)
   refine Qf ?_
   refine Qa ?_
   simp only[go_sem,g4,htb]
   refine Qfb htb ?_
   rw[show (decide (b.op=1)&&decide (b.n=1))=isN b 1 from rfl]
   try simp only[go_sem,Qpe]
   cases ob:isN b 1
   rotate_left
   ·refine Qb rfl (fun _=>?_) (fun h=>by simp[lk]at h)
    refine Qa ?_
    simp only[go_sem,g2,g3,hta]
    intro H6 h6
    have kn:=kn.stL 0 rfl h6
    refine Qg ?_
    exact retf [.int .i64 a.op,.int .i64 a.n,.str a.name,ta] _ _ ⟨_,_,kn⟩ rfl hoa0.noOw ⟨_,(List.sublist_append_left La Lb).cons _,by rw[hF,show Qb4 _ n nm a b=a from by simp[Qb4,ob]];exact hoa0⟩ rfl
   ·refine Qb rfl (fun h=>by simp[lk]at h) (fun _=>?_)
    refine Qa ?_
    simp only[go_sem,g3,hta]
    refine Qfb hta ?_
    rw[show (decide (a.op=1)&&decide (a.n=1))=isN a 1 from rfl]
    try simp only[go_sem,Qpf]
    cases oa:isN a 1
    rotate_left
    ·refine Qb rfl (fun _=>?_) (fun h=>by simp[lk]at h)
     refine Qa ?_
     simp only[go_sem,g2,g4,htb]
     intro H6 h6
     have kn:=kn.stL 0 rfl h6
     refine Qg ?_
     exact retf [.int .i64 b.op,.int .i64 b.n,.str b.name,tb] _ _ ⟨_,_,kn⟩ rfl hob0.noOw ⟨_,(List.sublist_append_right La Lb).cons _,by rw[hF,show Qb4 _ n nm a b=b from by simp[Qb4,ob,oa]];exact hob0⟩ rfl
    ·refine Qb rfl (fun h=>by simp[lk]at h) (fun _=>?_)
     refine Qu ?_
     refine Qa ?_
     simp only[go_sem,g4,htb]
     refine Qfb htb ?_
     rw[show (decide (b.op=1)&&decide (b.n=0))=isN b 0 from rfl]
     try simp only[go_sem]
     cases zb:isN b 0
     rotate_left
     ·simp only[go_sem,Qim,g3,hta]
      have hma:∀p∈La,H5 p.1=p.2:=fun p hp=>by
       have h1:=hm p (by simp[hp])
       obtain⟨z,r,h2,_⟩:=hoa0.vecs p hp
       rw[kn.chg p.1 (by rw[h1,h2];nofun) (by simp),h1]
      refine Qeh (v:=.c (.bool a.safe)) (lntL La) (args':=[.ag a.cells]) rfl (Qax5 (hoa0.frzA hma)) rfl (fun K' hk=>Qapg hva (gk.kn kn).hideG hk) ?_
      simp only[go_sem,Qil]
      cases sa:a.safe
      rotate_left
      ·refine Qe (Qb rfl (fun _=>?_) (fun h=>by simp[lk]at h))
       refine Qd ?_
       try simp only[go_sem]
       refine Qb rfl (fun _=>?_) (fun h=>by simp[lk]at h)
       refine Qa ?_
       simp only[go_sem]
       refine Ql5 fun H6 k6=>?_
       have kn:=kn.comp0 k6
       have g2:=kn.l 0 rfl
       simp only[go_sem,Qeu,g2,numC]
       intro H7 h7
       have kn:=kn.stL 0 rfl h7
       refine Qg ?_
       exact retf (numC 0) _ _ ⟨_,_,kn⟩ rfl rfl ⟨[],List.nil_sublist _,by rw[hF,show Qb4 _ n nm a b=Qxm 0 from by simp[Qb4,ob,oa,zb,sa]];exact Q54 _⟩ rfl
      ·skip
       refine Qe (Qb rfl (fun h=>by simp[lk]at h) (fun _=>?_))
       refine Qp ?_
       simp only[go_sem,g3,hta]
       refine Qfb hta ?_
       rw[show (decide (a.op=1)&&decide (a.n=0))=isN a 0 from rfl]
       try simp only[go_sem]
       cases za:isN a 0
       rotate_left
       ·simp only[go_sem,Qck,g4,htb]
        have hmb:∀p∈Lb,H5 p.1=p.2:=fun p hp=>by
         have h1:=hm p (by simp[hp])
         obtain⟨z,r,h2,_⟩:=hob0.vecs p hp
         rw[kn.chg p.1 (by rw[h1,h2];nofun) (by simp),h1]
        refine Qeh (v:=.c (.bool b.safe)) (lntL Lb) (args':=[.ag b.cells]) rfl (Qax5 (hob0.frzA hmb)) rfl (fun K' hk=>Qapg hvb (gk.kn kn).hideG hk) ?_
        simp only[go_sem,Qcj]
        cases sb:b.safe
        rotate_left
        ·try simp only[go_sem,AE.X.next]
         refine Qb rfl (fun _=>?_) (fun h=>by simp[lk]at h)
         refine Qa ?_
         simp only[go_sem]
         refine Ql5 fun H6 k6=>?_
         have kn:=kn.comp0 k6
         have g2:=kn.l 0 rfl
         simp only[go_sem,Qeu,g2,numC]
         intro H7 h7
         have kn:=kn.stL 0 rfl h7
         refine Qg ?_
         exact retf (numC 0) _ _ ⟨_,_,kn⟩ rfl rfl ⟨[],List.nil_sublist _,by rw[hF,show Qb4 _ n nm a b=Qxm 0 from by simp[Qb4,ob,oa,zb,sa,za,sb]];exact Q54 _⟩ rfl
        ·try simp only[go_sem,AE.X.next]
         refine Qb rfl (fun h=>by simp[lk]at h) (fun _=>?_)
         refine Qd ?_
         try simp only[go_sem,AE.X.next]
         exact end35 (by rw[hF];simp[Qb4,ob,oa,zb,sa,za,sb])
       ·simp only[go_sem,Qck,Qcj,AE.X.next]
        refine Qb rfl (fun h=>by simp[lk]at h) (fun _=>?_)
        refine Qd ?_
        try simp only[go_sem,AE.X.next]
        exact end35 (by rw[hF];simp[Qb4,ob,oa,zb,sa,za])
     ·simp only[go_sem,Qim,Qil]
      refine Qe (Qb rfl (fun h=>by simp[lk]at h) (fun _=>?_))
      refine Qp ?_
      simp only[go_sem,g3,hta]
      refine Qfb hta ?_
      rw[show (decide (a.op=1)&&decide (a.n=0))=isN a 0 from rfl]
      try simp only[go_sem]
      cases za:isN a 0
      rotate_left
      ·simp only[go_sem,Qck,g4,htb]
       have hmb:∀p∈Lb,H5 p.1=p.2:=fun p hp=>by
        have h1:=hm p (by simp[hp])
        obtain⟨z,r,h2,_⟩:=hob0.vecs p hp
        rw[kn.chg p.1 (by rw[h1,h2];nofun) (by simp),h1]
       refine Qeh (v:=.c (.bool b.safe)) (lntL Lb) (args':=[.ag b.cells]) rfl (Qax5 (hob0.frzA hmb)) rfl (fun K' hk=>Qapg hvb (gk.kn kn).hideG hk) ?_
       simp only[go_sem,Qcj]
       cases sb:b.safe
       rotate_left
       ·try simp only[go_sem,AE.X.next]
        refine Qb rfl (fun _=>?_) (fun h=>by simp[lk]at h)
        refine Qa ?_
        simp only[go_sem]
        refine Ql5 fun H6 k6=>?_
        have kn:=kn.comp0 k6
        have g2:=kn.l 0 rfl
        simp only[go_sem,Qeu,g2,numC]
        intro H7 h7
        have kn:=kn.stL 0 rfl h7
        refine Qg ?_
        exact retf (numC 0) _ _ ⟨_,_,kn⟩ rfl rfl ⟨[],List.nil_sublist _,by rw[hF,show Qb4 _ n nm a b=Qxm 0 from by simp[Qb4,ob,oa,zb,za,sb]];exact Q54 _⟩ rfl
       ·try simp only[go_sem,AE.X.next]
        refine Qb rfl (fun h=>by simp[lk]at h) (fun _=>?_)
        refine Qd ?_
        try simp only[go_sem,AE.X.next]
        exact end35 (by rw[hF];simp[Qb4,ob,oa,zb,za,sb])
      ·simp only[go_sem,Qck,Qcj,AE.X.next]
       refine Qb rfl (fun h=>by simp[lk]at h) (fun _=>?_)
       refine Qd ?_
       try simp only[go_sem,AE.X.next]
       exact end35 (by rw[hF];simp[Qb4,ob,oa,zb,za])
  ·skip
   have d3:decide ((6:Int)=3)=false:=by decide
   have d4:decide ((6:Int)=4)=false:=by decide
   have d5:decide ((6:Int)=5)=false:=by decide
   have d6:decide ((6:Int)=6)=true:=by decide
   have d10:decide ((6:Int)=10)=false:=by decide
   refine Qa ?_
   simp only[go_sem,d3,d4,d5,d6,d10]
   refine Qb rfl (fun h=>by simp[lk]at h) (fun _=>?_)
   refine Qa ?_
   simp only[go_sem,d3,d4,d5,d6,d10]
   refine Qb rfl (fun h=>by simp[lk]at h) (fun _=>?_)
   refine Qa ?_
   simp only[go_sem,d3,d4,d5,d6,d10]
   refine Qb rfl (fun h=>by simp[lk]at h) (fun _=>?_)
   refine Qa ?_
   simp only[go_sem,d3,d4,d5,d6,d10]
   refine Qb rfl (fun h=>by simp[lk]at h) (fun _=>?_)
   refine Qa ?_
   simp only[go_sem,d3,d4,d5,d6,d10]
   refine Qb rfl (fun _=>?_) (fun h=>by simp[lk]at h)
   refine Qa ?_
   simp only[go_sem,g4,htb]
   refine Qfb htb ?_
   rw[show (decide (b.op=1)&&decide (b.n=1))=isN b 1 from rfl]
   try simp only[go_sem]
   cases ob:isN b 1
   rotate_left
   ·refine Qb rfl (fun _=>?_) (fun h=>by simp[lk]at h)
    refine Qa ?_
    simp only[go_sem,g2,g3,hta]
    intro H6 h6
    have kn:=kn.stL 0 rfl h6
    refine Qg ?_
    exact retf [.int .i64 a.op,.int .i64 a.n,.str a.name,ta] _ _ ⟨_,_,kn⟩ rfl hoa0.noOw ⟨_,(List.sublist_append_left La Lb).cons _,by rw[hF,show Qb4 _ n nm a b=a from by simp[Qb4,ob]];exact hoa0⟩ rfl
   ·refine Qb rfl (fun h=>by simp[lk]at h) (fun _=>?_)
    refine Qd ?_
    try simp only[go_sem,AE.X.next]
    exact end35 (by rw[hF];simp[Qb4,ob])
  ·skip
   have d3:decide ((7:Int)=3)=false:=by decide
   have d4:decide ((7:Int)=4)=false:=by decide
   have d5:decide ((7:Int)=5)=false:=by decide
   have d6:decide ((7:Int)=6)=false:=by decide
   have d10:decide ((7:Int)=10)=false:=by decide
   refine Qa ?_
   simp only[go_sem,d3,d4,d5,d6,d10]
   refine Qb rfl (fun h=>by simp[lk]at h) (fun _=>?_)
   refine Qa ?_
   simp only[go_sem,d3,d4,d5,d6,d10]
   refine Qb rfl (fun h=>by simp[lk]at h) (fun _=>?_)
   refine Qa ?_
   simp only[go_sem,d3,d4,d5,d6,d10]
   refine Qb rfl (fun h=>by simp[lk]at h) (fun _=>?_)
   refine Qa ?_
   simp only[go_sem,d3,d4,d5,d6,d10]
   refine Qb rfl (fun h=>by simp[lk]at h) (fun _=>?_)
   refine Qa ?_
   simp only[go_sem,d3,d4,d5,d6,d10]
   refine Qb rfl (fun h=>by simp[lk]at h) (fun _=>?_)
   refine Qd ?_
   try simp only[go_sem,AE.X.next]
   exact end35 (by rw[hF];simp[Qb4])
  ·skip
   have d3:decide ((8:Int)=3)=false:=by decide
   have d4:decide ((8:Int)=4)=false:=by decide
   have d5:decide ((8:Int)=5)=false:=by decide
   have d6:decide ((8:Int)=6)=false:=by decide
   have d10:decide ((8:Int)=10)=false:=by decide
   refine Qa ?_
   simp only[go_sem,d3,d4,d5,d6,d10]
   refine Qb rfl (fun h=>by simp[lk]at h) (fun _=>?_)
   refine Qa ?_
   simp only[go_sem,d3,d4,d5,d6,d10]
   refine Qb rfl (fun h=>by simp[lk]at h) (fun _=>?_)
   refine Qa ?_
   simp only[go_sem,d3,d4,d5,d6,d10]
   refine Qb rfl (fun h=>by simp[lk]at h) (fun _=>?_)
   refine Qa ?_
   simp only[go_sem,d3,d4,d5,d6,d10]
   refine Qb rfl (fun h=>by simp[lk]at h) (fun _=>?_)
   refine Qa ?_
   simp only[go_sem,d3,d4,d5,d6,d10]
   refine Qb rfl (fun h=>by simp[lk]at h) (fun _=>?_)
   refine Qd ?_
   try simp only[go_sem,AE.X.next]
   exact end35 (by rw[hF];simp[Qb4])
  ·skip
   have d3:decide ((9:Int)=3)=false:=by decide
   have d4:decide ((9:Int)=4)=false:=by decide
   have d5:decide ((9:Int)=5)=false:=by decide
   have d6:decide ((9:Int)=6)=false:=by decide
   have d10:decide ((9:Int)=10)=false:=by decide
   refine Qa ?_
   simp only[go_sem,d3,d4,d5,d6,d10]
   refine Qb rfl (fun h=>by simp[lk]at h) (fun _=>?_)
   refine Qa ?_
   simp only[go_sem,d3,d4,d5,d6,d10]
   refine Qb rfl (fun h=>by simp[lk]at h) (fun _=>?_)
   refine Qa ?_
   simp only[go_sem,d3,d4,d5,d6,d10]
   refine Qb rfl (fun h=>by simp[lk]at h) (fun _=>?_)
   refine Qa ?_
   simp only[go_sem,d3,d4,d5,d6,d10]
   refine Qb rfl (fun h=>by simp[lk]at h) (fun _=>?_)
   refine Qa ?_
   simp only[go_sem,d3,d4,d5,d6,d10]
   refine Qb rfl (fun h=>by simp[lk]at h) (fun _=>?_)
   refine Qd ?_
   try simp only[go_sem,AE.X.next]
   exact end35 (by rw[hF];simp[Qb4])
  ·skip
   have d3:decide ((10:Int)=3)=false:=by decide
   have d4:decide ((10:Int)=4)=false:=by decide
   have d5:decide ((10:Int)=5)=false:=by decide
   have d6:decide ((10:Int)=6)=false:=by decide
   have d10:decide ((10:Int)=10)=true:=by decide
   refine Qa ?_
   simp only[go_sem,d3,d4,d5,d6,d10]
   refine Qb rfl (fun _=>?_) (fun h=>by simp[lk]at h)
   refine Qa ?_
   simp only[go_sem,g3,hta]
   refine Qfb hta ?_
   rw[show (decide (a.op=1)&&decide (a.n=0))=isN a 0 from rfl]
   try simp only[go_sem]
   cases za:isN a 0
   rotate_left
   ·refine Qb rfl (fun _=>?_) (fun h=>by simp[lk]at h)
    refine Qa ?_
    simp only[go_sem]
    refine Ql5 fun H6 k6=>?_
    have kn:=kn.comp0 k6
    have g2:=kn.l 0 rfl
    simp only[go_sem,Qpd,g2,numC]
    intro H7 h7
    have kn:=kn.stL 0 rfl h7
    refine Qg ?_
    exact retf (numC 0) _ _ ⟨_,_,kn⟩ rfl rfl ⟨[],List.nil_sublist _,by rw[hF,show Qb4 _ n nm a b=Qxm 0 from by simp[Qb4,za]];exact Q54 _⟩ rfl
   ·refine Qb rfl (fun h=>by simp[lk]at h) (fun _=>?_)
    refine Qd ?_
    try simp only[go_sem,AE.X.next]
    exact end35 (by rw[hF];simp[Qb4,za])
 refine Qu ?_
 refine Qa ?_
 by_cases hab:a.op=1∧b.op=1
 ·have a1:decide (a.op=1)=true:=decide_eq_true hab.1
  have b1:decide (b.op=1)=true:=decide_eq_true hab.2
  simp only[go_sem,g3,g4,hta,htb,a1,b1]
  refine Qe (Qb rfl (fun _=>?_) (fun h=>by simp[lk]at h))
  refine Qa ?_
  simp only[go_sem,g3,g4,hta,htb]
  refine Qbcv (Qan6 hfa hab.1).2 (Qan6 hfb hab.2).2 h3 h10 ?_
  simp only[go_sem,Qju,List.getD_cons_zero,List.getD_cons_succ]
  refine Qa ?_
  simp only[go_sem]
  cases hr:arF op a.n b.n with
  |some z=>
   simp only[Option.isSome_some,Option.getD_some]
   refine Qb rfl (fun _=>?_) (fun h=>by simp[lk]at h)
   refine Qa ?_
   simp only[go_sem]
   refine Ql5 fun H6 k6=>?_
   have kn:=kn.comp0 k6
   have g2:=kn.l 0 rfl
   simp only[go_sem,Qjv,g2,numC]
   intro H7 h7
   have kn:=kn.stL 0 rfl h7
   refine Qg ?_
   have e:Qa4 op n nm [a,b]=Qxm z:=by simp[Qa4,h3,h10,hab,hr]
   exact retf (numC z) _ _ ⟨_,_,kn⟩ rfl rfl ⟨[],List.nil_sublist _,by rw[e];exact Q54 _⟩ rfl
  |none=>
   simp only[Option.isSome_none]
   refine Qb rfl (fun h=>by simp[lk]at h) (fun _=>?_)
   refine Qd ?_
   try simp only[go_sem]
   exact rest36 _ (by simp[Qa4,h3,h10,hab,hr]) rfl rfl rfl rfl
 ·have hF:Qa4 op n nm [a,b]=Qb4 op n nm a b:=by simp only[Qa4,h3,h10,hab,and_self,if_true,if_false]
  cases a1:decide (a.op=1) <;> cases b1:decide (b.op=1)
  all_goals
   first
   |(exfalso;exact hab ⟨of_decide_eq_true a1,of_decide_eq_true b1⟩)
   |skip
  all_goals
   simp only[go_sem,g3,g4,hta,htb,a1,b1]
   refine Qe (Qb rfl (fun h=>by simp[lk]at h) (fun _=>?_))
   refine Qd ?_
   try simp only[go_sem]
   exact rest36 _ hF rfl rfl rfl rfl
end Go.AE.Y

namespace Go.AE.Y
attribute [local go_sem] cond_true cond_false Bool.not_true Bool.not_false
open Go.Proofs.Tryz
variable {H H0:Heap}{K:V→Heap→Prop}{L:List (Nat×Obj)}
theorem GK.same {H1:Heap}(g:GK H)(h:∀m,H m≠.none→H1 m=H m):GK H1:=by
 obtain⟨ks,rows,h3,h4⟩:=g.sign
 exact⟨(h _ (by rw[g.keys];nofun)).trans g.keys,ks,rows,(h _ (by rw[h3];nofun)).trans h3,h4⟩
theorem Q43 {x y:Ex}(h:x.valid=true)(hy:y∈x.kids):y.valid=true:=by
 rw[Ex.valid,Bool.and_eq_true,decide_eq_true_eq]at h⊢
 have:=Q29 hy
 exact⟨y.form_le 5 6 (Ql1 h.1 y hy) (by omega),by omega⟩
theorem Qaxv {op n:Int}{nm:List UInt8}{t:C}{kids:List Ex}(hv:(Ex.mk op n nm kids).valid=true)(gk:GK H)(ho:OwS L 4 (Qm kids) t)(hm:∀p∈L,H p.1=p.2)
  (hK:∀H' cs,Kn H H' [] []→FoR L (Qa4 op n nm kids) cs→K (.ag cs) H'):Ql prog Qdo [.ag [.int .i64 op,.int .i64 n,.str nm,t]] H K:=by
 have hf:(Ex.mk op n nm kids).form 6=true:=by simp only[Ex.valid,Bool.and_eq_true]at hv;exact hv.1
 have hm2:=Qi4 hf
 have hkv:∀y∈kids,y.valid=true:=fun y hy=>Q43 hv hy
 by_cases hq:kids=[]∨op=13∨op=12
 ·have e:Qa4 op n nm kids=.mk op n nm kids:=by
   rcases hq with h|h|h
   ·subst h;rfl
   ·subst h
    unfold Qa4
    split
    ·rw[if_neg (by decide)]
    ·rw[if_neg (by omega)]
    ·rfl
   ·subst h
    unfold Qa4
    split
    ·rw[if_neg (by decide)]
    ·rw[if_neg (by omega)]
    ·rfl
  rw[e]at hK
  exact Qaxs hq ho hm hK
 ·have h0:kids≠[]:=fun h=>hq (.inl h)
  have h1:¬(op=1∨op=2):=fun h=>h0 (hm2.2.1 h)
  have h13:op≠13:=fun h=>hq (.inr (.inl h))
  have h12:op≠12:=fun h=>hq (.inr (.inr h))
  by_cases h11:op=11
  ·subst h11
   have hl:=hm2.2.2.2.1 (.inl rfl)
   match kids,hl with
   |[a],_=>exact Qaxu hf ho hm hK
  ·have hl:=hm2.2.2.1 (by omega) (by omega)
   match kids,hl with
   |[a,b],_=>exact Qaxt (by omega) (by omega) (hkv a (by simp)) (hkv b (by simp)) gk ho hm hK
theorem Q2y {x:Ex}(hv:x.valid=true):(Ex.mk x.op x.n x.name (x.kids.map Ex.fold)).valid=true:=by
 rw[Ex.valid,Bool.and_eq_true,decide_eq_true_eq]at hv⊢
 obtain⟨h1,h2⟩:=hv
 rw[Ex.form_eq,Bool.and_eq_true,Bool.and_eq_true]at h1
 obtain⟨h3,h4⟩:=Qfp x.kids _ h1.2
 rw[Qc4]at h3 h4
 refine⟨?_,?_⟩
 ·simp only[Ex.form,Bool.and_eq_true,h4]
  exact⟨h1.1,h3⟩
 ·have h5:=Qnc x.kids _ h1.2
  rw[Qc4]at h5
  have:=x.size_kids
  simp only[Ex.size]
  rcases h5 with h5|h5
  ·rw[h5];omega
  ·omega
theorem Qbhp:∀(n:Nat) (x:Ex) {H:Heap} {K:V→Heap→Prop},x.size≤n→x.valid=true→GK H→(∀H' L cs,Kn H H' [] L→OwL L cs x.fold.cells→K (.ag cs) H')→Ql prog Qok [.ag x.cells] H K:=by
 intro n
 induction n with
 |zero=>intro x H K h;have:=x.size_pos;omega
 |succ n ih=>
 intro x H K hn hv gk hK
 have hsz:=x.size_kids
 refine Qc Qah Qa9q ?_
 refine Qa ?_
 simp only[go_sem,x.cells_eq]
 intro x1 hx1 H1 h1
 have kn:=(Kn.start0 H).al hx1 h1
 simp only[go_sem,Q88]
 intro x2 hx2 H2 h2
 have kn:=kn.al hx2 h2
 have g1:=kn.l 0 rfl
 refine Qa ?_
 simp only[go_sem,g1]
 have gk2:=gk.kn kn
 refine Q3e (g:=Ex.fold) (caps:=[]) (fun y hy H3 K' hke hK'=>ih y (by have:=Qac hy;omega) (Q43 hv hy) (gk2.same hke) hK') fun H3 L t k2 ho=>?_
 have kn:=kn.comp0 k2
 have g1:=kn.l 0 rfl
 have hto:=ho.isOw
 simp only[go_sem,Q89,g1,hto]
 intro H4 h4
 have kn:Kn H H4 [] ([(x1,.st [.int .i64 x.op,.int .i64 x.n,.str x.name,t]),(x2,.st z4)]++L):=kn.stL 0 rfl h4
 have g1:=kn.l 0 rfl
 refine Qa ?_
 simp only[go_sem,g1,hto]
 refine Qaxv (Q2y hv) (gk.kn kn) ho (fun p hp=>(kn.get p (by simp[hp])).1) fun H5 cs k5 hr=>?_
 obtain⟨L',hs,hr⟩:=hr
 have hcl:cs.length=4:=by rw[←hr.len,Ex.cells_len]
 have hno:(cs.all fun c=>!c.isOw)=true:=hr.noOw
 have htk:List.take 4 cs=cs:=List.take_of_length_le (by omega)
 have kn:=kn.comp0 k5
 rw[List.append_nil]at kn
 have g2:=kn.l 1 rfl
 simp only[go_sem,Q9a,g2,hcl,hno,List.drop_nil,List.append_nil]
 intro H6 h6
 have kn:Kn H H6 [] ([(x1,.st [.int .i64 x.op,.int .i64 x.n,.str x.name,t]),(x2,.st cs)]++L):=kn.stL 1 rfl h6
 have g2:=kn.l 1 rfl
 refine Qg ?_
 simp only[go_sem,Qq,Qz,Qy7,List.mem_singleton,forall_eq,RS.op,g2,hcl,hno,htk]
 refine hK _ L' _ (kn.sub ?_) (by rw[x.fold_eq,Qc4];exact hr)
 exact hs.trans (List.sublist_append_right [_,_] _)
end Go.AE.Y

namespace Go.AE
theorem Qeo {α:Type}{l1 l2:List α}(h:∀f:List α→Nat,(∀a b,f (a++b)=f a+f b)→f []=0→(∀x l,f (x::l)=f [x]+f l)→(∀a b:List α,a.Perm b→f a=f b)→f l1=f l2):l1.Perm l2:=by
 classical
 exact List.perm_iff_count.2 fun a=>h (List.count a) (fun _ _=>List.count_append) rfl (fun x l=>by rw[List.count_cons,List.count_cons];simp;omega) (fun _ _ hp=>hp.count_eq a)
end Go.AE
namespace Go.AE.Y
attribute [local go_sem] cond_true cond_false Bool.not_true Bool.not_false
open Go.Proofs.Tryz
variable {H H0:Heap}{K:V→Heap→Prop}{L:List (Nat×Obj)}
def St.foldA (x:St):St:=.mk x.op x.name (x.args.map Ex.fold) x.body x.els
theorem Qaxr (x:St):x.foldA.cells=[.int .i64 x.op,.str x.name,.sl false 4 (Qm (x.args.map Ex.fold)),.sl false 5 (Qk x.body),.sl false 5 (Qk x.els)]:=by rw[St.foldA,St.cells]
def BlkO (f:Nat)(B:List St→List St)(Pl:List St→Prop):Prop:=∀(l:List St) (L:List (Nat×Obj)) (t:C) (H:Heap) (K:V→Heap→Prop),Pl l→GK H→OwS L 5 (Qk l) t→(∀p∈L,H p.1=p.2)→(L.map Prod.fst).Nodup→
 (∀H' E' N Lr rest t',Kn H H' E' N→E'.map Prod.fst=L.map Prod.fst→(E'++N).Perm (Lr++rest)→OwS Lr 5 (Qk (B l)) t'→K (.c t') H')→Ql prog f [.c t] H K
theorem Qa4r:BlkO Qex (fun l=>l.map St.foldA) (fun l=>∀x∈l,∀a∈x.args,a.valid=true):=by
 intro l L t H K hv gk ho hm hd hK
 rcases ho with ⟨rfl,h1,rfl⟩|⟨y,M,rows,rfl,rfl,hrl,hr4,_,ho⟩
 ·have:l=[]:=List.length_eq_zero_iff.1 (by rw[←Qo,h1];rfl)
  subst this
  refine Qc Qah Qml ?_
  refine Qa ?_
  simp only[go_sem]
  refine Qu ?_
  refine Qa ?_
  simp only[go_sem]
  refine Qe (Qf (Qy (fun m e1 H1=>H1=H∧e1=[(0,.c (.sl true 5 [])),(5,.c (.int .i64 0)),(6,.c (.int .i64 0))]) 0 ?_ ?_))
  ·exact⟨rfl,rfl⟩
  ·rintro m e1 H1 ⟨rfl,rfl⟩
   refine Qa ?_
   simp only[go_sem]
   refine Qe (Qb rfl (fun h=>by simp[lk]at h) (fun _=>?_))
   refine Qt ?_
   simp only[go_sem,AE.X.next]
   refine Qa ?_
   simp only[go_sem]
   refine Qg ?_
   simp only[go_sem,Qq,Qz,Qic,List.mem_singleton,forall_eq,RS.op]
   exact hK _ [] [] [] [] _ (Kn.start0 _) rfl (by simp) (.inl ⟨rfl,rfl,rfl⟩)
 ·have hll:l.length=rows.length:=by rw[←Qo];exact hrl
  refine Qc Qah Qml ?_
  refine Qa ?_
  simp only[go_sem]
  have gy0:H y=.vec 5 rows:=hm (y,.vec 5 rows) (by simp)
  refine Qu ?_
  refine Qa ?_
  simp only[go_sem,gy0]
  refine⟨by omega,fun hlm=>?_⟩
  simp only[LIM]at hlm
  refine Qe (Qf (Qy (fun m e1 H1=>∃(i:Nat) (dn td:List (List C)) (Md Mt N G:List (Nat×Obj)),m=l.length-i∧i≤l.length∧dn.length=i∧td.length=l.length-i∧(∀r∈dn,r.length=5)∧(∀r∈td,r.length=5)∧
   OwL Md dn.flatten (Qk ((l.take i).map St.foldA)).flatten∧OwL Mt td.flatten (Qk (l.drop i)).flatten∧(M++N).Perm (Md++(Mt++G))∧Kn H H1 ((y,.vec 5 (dn++td))::M) N∧
   e1=[(0,.c (.vsl y 5 0 rows.length)),(5,.c (.int .i64 rows.length)),(6,.c (.int .i64 i))]) l.length ?_ ?_))
  ·exact⟨0,[],rows,[],M,[],[],by omega,by omega,rfl,by omega,by simp,hr4,.nil,ho,by simp,.startE (fun p hp=>⟨hm p hp,by
    rcases List.mem_cons.1 hp with rfl|hp
    ·nofun
    ·obtain⟨z,r,h1,_⟩:=ho.vecs p hp
     rw[h1];nofun⟩) hd,rfl⟩
  ·rintro m e1 H1 ⟨i,dn,td,Md,Mt,N,G,hm1,hi,hdn,htd,hd4,ht4,hod,hot,hpm,kn,rfl⟩
   have gy:=kn.e 0 rfl
   refine Qa ?_
   simp only[go_sem]
   refine Qe (Qb rfl ?_ ?_)
   ·intro hc
    have hlt:i<l.length:=by have:=of_decide_eq_true hc;omega
    have hlt2:i<rows.length:=by omega
    obtain⟨x,hx⟩:∃x,l[i]=x:=⟨_,rfl⟩
    have hxs:x∈l:=by rw[←hx];exact List.getElem_mem hlt
    have hdr:l.drop i=x::l.drop (i+1):=by rw[List.drop_eq_getElem_cons hlt,hx]
    have htk:l.take (i+1)=l.take i++[x]:=by rw[List.take_succ_eq_append_getElem hlt,hx]
    obtain⟨r,td,rfl⟩:∃r td',td=r::td':=by
     cases td with
     |nil=>simp at htd;omega
     |cons r td'=>exact⟨r,td',rfl⟩
    have hr:=ht4 r (by simp)
    rw[hdr,show Qk (x::l.drop (i+1))=x.cells::Qk (l.drop (i+1)) from by simp[Qe8]]at hot
    obtain⟨M1,M2,rfl,ho1,ho2⟩:=hot.uncons (by rw[hr,x.cells_len])
    obtain⟨Ma,Mb,Mc,ta,tb,tc,rfl,rfl,ha,hb',hc'⟩:=OwL.st ho1
    have hta:=ha.isOw
    have htb:=hb'.isOw
    have htc:=hc'.isOw
    have hlen:∀r:List C,(dn++r::td).length=rows.length:=fun r=>by
     simp only[List.length_append,List.length_cons]at htd⊢;omega
    have htake:∀r:List C,List.take rows.length (dn++r::td)=dn++r::td:=fun r=>List.take_of_length_le (by rw[hlen r];omega)
    have hmem:∀p∈Ma,p∈M++N:=fun p hp=>(hpm.mem_iff).2 (by simp[hp])
    have hma:∀p∈Ma,H1 p.1=p.2:=fun p hp=>(kn.get p (by
     rcases List.mem_append.1 (hmem p hp)with h|h
     ·exact List.mem_append_left _ (List.mem_cons_of_mem _ h)
     ·exact List.mem_append_right _ h)).1
    have gk1:GK H1:=by
     refine gk.upd kn.upd ?_ ?_
     all_goals
      intro hh
      obtain⟨p,hp,he⟩:=List.mem_map.1 hh
      have h1:H p.1=p.2∨p.1=y:=by
       rcases List.mem_cons.1 hp with rfl|hp
       ·exact .inr rfl
       ·exact .inl (hm p (by simp[hp]))
      have hvec:∃z r,H p.1=.vec z r:=by
       rcases h1 with h1|h1
       ·rcases List.mem_cons.1 hp with rfl|hp
        ·exact⟨_,_,gy0⟩
        ·obtain⟨z,r,h2,_⟩:=ho.vecs p hp
         exact⟨z,r,by rw[h1,h2]⟩
       ·exact⟨_,_,by rw[h1];exact gy0⟩
      obtain⟨z,r,h2⟩:=hvec
      rw[he]at h2
      first
      |(rw[gk.keys]at h2;cases h2)
      |(obtain⟨_,_,h3,_⟩:=gk.sign;rw[h3]at h2;cases h2)
    refine Qd ?_
    try simp only[go_sem]
    refine Qe (Qf ?_)
    refine Qa ?_
    simp only[go_sem]
    refine Qp ?_
    simp only[go_sem,gy,hlen,hlt2,htake,Qt5 hdn,hta,htb,htc]
    refine⟨by omega,by omega,?_⟩
    refine Qqe (x':=.c (.sl false 4 (Qm (x.args.map Ex.fold)))) (lntL Ma) (args':=[.c (.sl false 4 (Qm x.args)),.c (.fn Qok [])]) rfl (Qax6 (ha.lendC hma) (.c _ _ (.same _ rfl))) (fun K' hk=>Q3e (g:=Ex.fold) (caps:=[]) (fun z hz H3 K'' hke hK''=>Qbhp z.size z (Nat.le_refl _) (hv x hxs z hz) (gk1.hideG.same hke) hK'') fun H' L t kn ho=>hk H' L (.c t) kn ho.one) fun H2 Ln v k2 hx2=>?_
    obtain⟨tn,rfl,hn⟩:=hx2.c1
    have htn:=hn.isOw
    have kn:=kn.comp0 k2
    have gy:=kn.e 0 rfl
    simp only[go_sem,Qhd,gy,hlen,hlt2,Q8n hdn,hta,htb,htc,htn]
    refine⟨by omega,by omega,fun H3 h3=>?_⟩
    rw[Q98 hdn]at h3
    have kn:Kn H H3 ((y,.vec 5 (dn++([.int .i64 x.op,.str x.name,tn,tb,tc]:List C)::td))::M) (N++Ln):=kn.stE 0 rfl h3
    try simp only[go_sem,AE.X.next]
    refine Qp ?_
    simp only[go_sem,AE.X.next]
    refine⟨Qr (by omega) (by omega),l.length-(i+1),by omega,i+1,dn++[[.int .i64 x.op,.str x.name,tn,tb,tc]],td,Md++(Ln++(Mb++Mc)),M2,N++Ln,G++Ma,rfl,by omega,by simp[hdn],by simp only[List.length_cons]at htd;omega,?_,fun r hr=>ht4 r (by simp[hr]),?_,ho2,?_,?_,rfl⟩
    ·intro r hr
     rcases List.mem_append.1 hr with hr|hr
     ·exact hd4 r hr
     ·rw[List.mem_singleton.1 hr];rfl
    ·rw[htk,List.map_append,←Qm6,List.flatten_append,List.flatten_append]
     refine hod.app ?_
     simp only[List.map_cons,List.map_nil,Qk,Qaxr,List.flatten_cons,List.flatten_nil,List.append_nil]
     exact .atom rfl (.atom rfl (hn.cons (hb'.cons hc'.one)))
    ·refine Qeo fun f hf h0 hc hp=>?_
     have:=hp _ _ hpm
     simp only[hf]at this⊢
     omega
    ·simpa only[List.append_assoc,List.cons_append,List.nil_append,List.singleton_append]using kn
   ·intro hc
    have hge:l.length≤i:=by have:=of_decide_eq_false hc;omega
    rw[List.take_of_length_le hge]at hod
    have htd0:td=[]:=List.length_eq_zero_iff.1 (by omega)
    subst htd0
    rw[List.append_nil]at kn
    have hn2:rows.length=dn.length:=by omega
    refine Qt ?_
    simp only[go_sem,AE.X.next]
    refine Qa ?_
    simp only[go_sem]
    refine Qg ?_
    simp only[go_sem,Qq,Qz,Qic,List.mem_singleton,forall_eq,RS.op]
    refine hK _ _ N ((y,.vec 5 dn)::Md) (Mt++G) _ kn rfl ?_ (.inr ⟨y,Md,dn,by rw[hn2],rfl,by rw[Qo,List.length_map];omega,hd4,Qzy,hod⟩)
    exact (hpm.cons _)
end Go.AE.Y

namespace Go.AE.Y
attribute [local go_sem] cond_true cond_false Bool.not_true Bool.not_false
open Go.Proofs.Tryz
variable {H H0:Heap}{K:V→Heap→Prop}{L:List (Nat×Obj)}
def cutB:List St→List St
 |[]=>[]
 |x::r=>if x.op=6∧isN (arg0 x.args) 0=true then cutB r else Qzz x.op x.name x.args x.body x.els::(if x.op=7 then []else cutB r)
theorem Qa78:BlkO Qn7 cutB (fun l=>∀x∈l,0<x.args.length):=by
 intro l L t H K hv gk ho hm hd hK
 obtain⟨Ly,M,rows,rfl,hgr0,hrl,hr4,_,ho⟩:=ho.gr
 have hto:=hgr0.isOw
 have hln:=hgr0.lenC
 refine Qc Qah Qapr ?_
 refine Qa ?_
 simp only[go_sem,hto]
 refine Qa ?_
 simp only[go_sem,hto]
 refine Qu ?_
 refine Qa ?_
 have hsl:Qy4 H t:=by
  rcases hgr0 with ⟨rfl,_,_⟩|⟨y,rfl,rfl⟩
  ·trivial
  ·have g:H y=.vec 5 rows:=hm (y,.vec 5 rows) (by simp)
   simp[Qy4,g]
 simp only[go_sem,hto,hln,hsl]
 intro hlm
 simp only[LIM]at hlm
 have hll:l.length=rows.length:=by rw[←Qo];exact hrl
 refine Qe (Qf (Qy (fun m e1 H1=>∃(i:Nat) (t3:C) (Lg Mo Mt G:List (Nat×Obj)) (dn td ro:List (List C)) (out:List St),m=l.length-i∧i≤l.length∧dn.length=i∧td.length=l.length-i∧rows=dn++td∧(∀r∈td,r.length=5)∧
  Gr Lg 5 ro t3∧ro.length=out.length∧(∀r∈ro,r.length=5)∧OwL Mo ro.flatten (Qk out).flatten∧OwL Mt td.flatten (Qk (l.drop i)).flatten∧M.Perm (Mo++(Mt++G))∧Kn H H1 (Ly++M) Lg∧out++cutB (l.drop i)=cutB l∧out.length≤i∧
  e1=[(3,.c t3),(6,.c t),(7,.c (.int .i64 rows.length)),(8,.c (.int .i64 i))]) l.length ?_ ?_))
 ·refine⟨0,_,[],[],M,[],[],rows,[],[],by omega,by omega,rfl,by omega,rfl,hr4,.nil 5,rfl,by simp,.nil,ho,by simp,.startE (fun p hp=>⟨hm p hp,?_⟩) hd,rfl,Nat.le_refl _,rfl⟩
  rcases List.mem_append.1 hp with hp|hp
  ·rcases hgr0 with ⟨_,_,rfl⟩|⟨y,_,rfl⟩
   ·simp at hp
   ·rw[List.mem_singleton.1 hp];nofun
  ·obtain⟨z,r,h1,_⟩:=ho.vecs p hp
   rw[h1];nofun
 ·rintro m e1 H1 ⟨i,t3,Lg,Mo,Mt,G,dn,td,ro,out,hm1,hi,hdn,htd,hrows,ht4,hgr,hrl2,hro,hoo,hot,hpm,kn,hcb,hol,rfl⟩
  have hgo:=hgr.isOw
  refine Qa ?_
  simp only[go_sem,hgo,hto]
  refine Qe (Qb rfl ?_ ?_)
  ·intro hc
   have hlt:i<l.length:=by have:=of_decide_eq_true hc;omega
   have hlt2:i<rows.length:=by omega
   rcases hgr0 with ⟨_,h0,_⟩|⟨y,rfl,rfl⟩
   ·rw[h0]at hlt2;simp at hlt2
   have gy:=kn.e 0 rfl
   obtain⟨x,hx⟩:∃x,l[i]=x:=⟨_,rfl⟩
   have hxs:x∈l:=by rw[←hx];exact List.getElem_mem hlt
   have hdr:l.drop i=x::l.drop (i+1):=by rw[List.drop_eq_getElem_cons hlt,hx]
   obtain⟨r,td,rfl⟩:∃r td',td=r::td':=by
    cases td with
    |nil=>simp at htd;omega
    |cons r td'=>exact⟨r,td',rfl⟩
   have hr:=ht4 r (by simp)
   rw[hdr,show Qk (x::l.drop (i+1))=x.cells::Qk (l.drop (i+1)) from by simp[Qe8]]at hot
   obtain⟨M1,M2,rfl,ho1,ho2⟩:=hot.uncons (by rw[hr,x.cells_len])
   have ho10:=ho1
   obtain⟨Ma,Mb,Mc,ta,tb,tc,rfl,rfl,ha,hb',hc'⟩:=OwL.st ho1
   have hta:=ha.isOw
   have htb:=hb'.isOw
   have htc:=hc'.isOw
   have hrow:rows.getD i []=[.int .i64 x.op,.str x.name,ta,tb,tc]:=by rw[hrows];exact Qt5 hdn
   have hev:∀p∈M,H1 p.1=p.2:=fun p hp=>(kn.get p (by simp[hp])).1
   have hma:∀p∈Ma,H1 p.1=p.2:=fun p hp=>hev p ((hpm.mem_iff).2 (by simp[hp]))
   obtain⟨a,ar,hka0⟩:∃a ar,x.args=a::ar:=by
    have:=hv x hxs
    rcases hA:x.args with _|⟨a,ar⟩
    ·rw[hA]at this;simp at this
    ·exact⟨a,ar,rfl⟩
   have harg:arg0 x.args=a:=by rw[hka0];rfl
   rcases ha with ⟨_,h0,_⟩|⟨ya,Na,rowsA,rfl,rfl,hrlA,hr4A,hr5A,hoA⟩
   ·rw[hka0]at h0;simp[Qm]at h0
   have hoA0:OwS ((ya,.vec 4 rowsA)::Na) 4 (Qm x.args) (.vsl ya 4 0 rowsA.length):=.inr ⟨ya,Na,rowsA,rfl,rfl,hrlA,hr4A,hr5A,hoA⟩
   have gya:H1 ya=.vec 4 rowsA:=hma (ya,.vec 4 rowsA) (by simp)
   rw[hka0]at hrlA hoA
   obtain⟨ra,rs,rfl⟩:∃ra rs,rowsA=ra::rs:=by
    rcases rowsA with _|⟨ra,rs⟩
    ·simp[Qm]at hrlA
    ·exact⟨ra,rs,rfl⟩
   simp only[Qm]at hoA
   obtain⟨N1,N2,rfl,hoA1,_⟩:=hoA.uncons (by rw[hr4A ra (by simp),a.cells_len])
   obtain⟨tka,rfl,hoka⟩:=OwL.ex hoA1
   have hka:=hoka.isOw
   have hta3:(C.vsl ya 4 0 (rs.length+1)).isOw=false:=rfl
   refine Qd ?_
   try simp only[go_sem]
   refine Qe (Qf ?_)
   refine Qa ?_
   simp only[go_sem,hgo,gy,hlt2,hrow,htb,htc,hta3,List.take_length,List.length_cons,List.length_nil,List.all_cons,List.all_nil,List.take_succ_cons,List.take_zero]
   refine⟨by omega,by omega,fun x5 hx5 H2 h2=>?_⟩
   have kn:=(kn.al hx5 h2).perm List.perm_append_comm
   have g5:=kn.l 0 rfl
   simp only[go_sem,Qsg,g5,htb,htc,hta3]
   intro H3 h3
   have kn:Kn H H3 ([(y,.vec 5 rows)]++M) ([(x5,.st [.int .i64 x.op,.str x.name,.vsl ya 4 0 (rs.length+1),tb,tc])]++Lg):=kn.stL 0 rfl h3
   have g5:=kn.l 0 rfl
   have gya:H3 ya=.vec 4 ([.int .i64 a.op,.int .i64 a.n,.str a.name,tka]::rs):=(kn.get (ya,.vec 4 _) (List.mem_append_left _ (List.mem_append_right _ ((hpm.mem_iff).2 (by simp))))).1
   refine Qe (Qf ?_)
   refine Qa ?_
   cases c6:decide (x.op=6)
   ·have n6:=of_decide_eq_false c6
    have hskip:¬(x.op=6∧isN (arg0 x.args) 0=true):=fun h=>n6 h.1
    simp only[go_sem,g5,gya,hta3,htb,htc,hka,c6,List.length_cons,List.getD_cons_zero,List.take_succ_cons,List.take_zero,List.drop_zero,List.all_cons,List.all_nil]
    simp only[go_sem,Qjq]
    refine Qb rfl (fun h=>by simp[lk]at h) (fun _=>?_)
    refine Qa ?_
    cases c5:decide (x.op=5)
    ·have n5:=of_decide_eq_false c5
     have hcut:Qzz x.op x.name x.args x.body x.els=.mk x.op x.name x.args x.body x.els:=by rw[Qzz,if_neg (fun h=>n5 h.1)]
     simp only[go_sem,g5,gya,hta3,htb,htc,hka,c5,List.length_cons,List.getD_cons_zero,List.take_succ_cons,List.take_zero,List.drop_zero,List.all_cons,List.all_nil]
     simp only[go_sem,Qfc]
     refine Qb rfl (fun h=>by simp[lk]at h) (fun _=>?_)
     refine Qa ?_
     simp only[go_sem,g5,gya,hta3,htb,htc,hka,c5,List.length_cons,List.getD_cons_zero,List.take_succ_cons,List.take_zero,List.drop_zero,List.all_cons,List.all_nil]
     refine Qb rfl (fun h=>by simp[lk]at h) (fun _=>?_)
     refine Qd ?_
     try simp only[go_sem,AE.X.next]
     refine Qa ?_
     simp only[go_sem,hgo,g5,hta3,htb,htc,List.length_cons,List.length_nil]
     refine Kn.growR (B:=[(x5,.st [.int .i64 x.op,.str x.name,.vsl ya 4 0 (rs.length+1),tb,tc])]) kn hgr (new:=[[.int .i64 x.op,.str x.name,.vsl ya 4 0 (rs.length+1),tb,tc]]) (.mk' _ true 5 _) (by simp[noOw,Qqv,Qni,Qz7,hta3,htb,htc]) (by simp only[List.length_cons,List.length_nil,LIM];omega) fun t4 Lg2 H6 hgr2 hto2 kn=>?_
     have g5:=kn.l 0 rfl
     have hoD:OwL (Mo++(((ya,Obj.vec 4 ([.int .i64 a.op,.int .i64 a.n,.str a.name,tka]::rs))::(N1++N2))++(Mb++Mc))) (ro++[[.int .i64 x.op,.str x.name,.vsl ya 4 0 (rs.length+1),tb,tc]]).flatten (Qk (out++[St.mk x.op x.name x.args x.body x.els])).flatten:=by
      rw[←Qm6,List.flatten_append,List.flatten_append]
      refine hoo.app ?_
      simp only[Qk,St.cells,List.flatten_cons,List.flatten_nil,List.append_nil]
      exact .atom rfl (.atom rfl (hoA0.cons (hb'.cons hc'.one)))
     have hro2:∀r∈ro++[([.int .i64 x.op,.str x.name,.vsl ya 4 0 (rs.length+1),tb,tc]:List C)],r.length=5:=by
      intro r hr
      rcases List.mem_append.1 hr with hr|hr
      ·exact hro r hr
      ·rw[List.mem_singleton.1 hr];rfl
     simp only[go_sem,Qbz,hto2]
     refine Qa ?_
     simp only[go_sem,g5,hto2,hta3,htb,htc]
     refine Qb rfl (fun h7=>?_) (fun h7=>?_)
     ·have h7':x.op=7:=of_decide_eq_true h7
      refine Qt ?_
      try simp only[go_sem,AE.X.next]
      refine Qa ?_
      simp only[go_sem,hto2]
      refine Qg ?_
      simp only[go_sem,Qq,Qz,Qic,List.mem_singleton,forall_eq,RS.op,hto2]
      rw[hdr,cutB,if_neg hskip,if_pos h7',hcut]at hcb
      refine hK _ _ Lg2 (Lg2++(Mo++(((ya,Obj.vec 4 ([.int .i64 a.op,.int .i64 a.n,.str a.name,tka]::rs))::(N1++N2))++(Mb++Mc)))) ((y,.vec 5 rows)::(M2++G)) _ (kn.sub (List.sublist_append_right _ _)) rfl ?_ (by rw[←hcb];exact hgr2.ows (by rw[Qo];simp[hrl2]) hro2 Qzy hoD)
      refine Qeo fun f hf h0 hc hp=>?_
      have h1:=hp _ _ hpm
      have h2:=hc (y,.vec 5 rows) M
      have h3:=hc (y,.vec 5 rows) (M2++G)
      simp only[hf]at h1 h2 h3⊢
      omega
     ·have h7':¬x.op=7:=of_decide_eq_false h7
      rw[hdr,cutB,if_neg hskip,if_neg h7',hcut]at hcb
      refine Qd ?_
      try simp only[go_sem,AE.X.next]
      refine Qp ?_
      simp only[go_sem,AE.X.next,hto2]
      refine⟨Qr (by omega) (by omega),l.length-(i+1),by omega,i+1,t4,Lg2,Mo++(((ya,Obj.vec 4 ([.int .i64 a.op,.int .i64 a.n,.str a.name,tka]::rs))::(N1++N2))++(Mb++Mc)),M2,G,dn++[[.int .i64 x.op,.str x.name,.vsl ya 4 0 (rs.length+1),tb,tc]],td,ro++[[.int .i64 x.op,.str x.name,.vsl ya 4 0 (rs.length+1),tb,tc]],out++[St.mk x.op x.name x.args x.body x.els],rfl,by omega,by simp[hdn],by simp only[List.length_cons]at htd;omega,by simp[hrows],fun r hr=>ht4 r (by simp[hr]),hgr2,by simp[hrl2],hro2,hoD,ho2,?_,kn.sub (List.sublist_append_right _ _),by rw[List.append_assoc];exact hcb,by simp;omega,rfl⟩
      refine Qeo fun f hf h0 hc hp=>?_
      have h1:=hp _ _ hpm
      simp only[hf]at h1⊢
      omega
    ·have e5:=of_decide_eq_true c5
     simp only[go_sem,g5,gya,hta3,htb,htc,hka,c5,List.length_cons,List.getD_cons_zero,List.take_succ_cons,List.take_zero,List.drop_zero,List.all_cons,List.all_nil]
     refine⟨⟨by omega,by omega,by omega⟩,⟨by omega,by omega⟩,?_⟩
     refine Qfb hka ?_
     rw[show (decide (a.op=1)&&decide (a.n=0))=isN a 0 from rfl]
     simp only[go_sem,Qfc]
     cases za:isN a 0
     ·refine Qb rfl (fun h=>by simp[lk]at h) (fun _=>?_)
      refine Qa ?_
      cases a1:decide (a.op=1)
      ·have hcut:Qzz x.op x.name x.args x.body x.els=.mk x.op x.name x.args x.body x.els:=by rw[Qzz,if_neg (fun h=>by rw[harg]at h;exact of_decide_eq_false a1 h.2)]
       simp only[go_sem,g5,gya,hta3,htb,htc,hka,c5,a1,List.length_cons,List.getD_cons_zero,List.take_succ_cons,List.take_zero,List.drop_zero,List.all_cons,List.all_nil]
       refine⟨⟨by omega,by omega,by omega⟩,⟨by omega,by omega⟩,?_⟩
       refine Qb rfl (fun h=>by simp[lk]at h) (fun _=>?_)
       refine Qd ?_
       try simp only[go_sem,AE.X.next]
       refine Qa ?_
       simp only[go_sem,hgo,g5,hta3,htb,htc,List.length_cons,List.length_nil]
       refine Kn.growR (B:=[(x5,.st [.int .i64 x.op,.str x.name,.vsl ya 4 0 (rs.length+1),tb,tc])]) kn hgr (new:=[[.int .i64 x.op,.str x.name,.vsl ya 4 0 (rs.length+1),tb,tc]]) (.mk' _ true 5 _) (by simp[noOw,Qqv,Qni,Qz7,hta3,htb,htc]) (by simp only[List.length_cons,List.length_nil,LIM];omega) fun t4 Lg2 H6 hgr2 hto2 kn=>?_
       have g5:=kn.l 0 rfl
       have hoD:OwL (Mo++(((ya,Obj.vec 4 ([.int .i64 a.op,.int .i64 a.n,.str a.name,tka]::rs))::(N1++N2))++(Mb++Mc))) (ro++[[.int .i64 x.op,.str x.name,.vsl ya 4 0 (rs.length+1),tb,tc]]).flatten (Qk (out++[St.mk x.op x.name x.args x.body x.els])).flatten:=by
        rw[←Qm6,List.flatten_append,List.flatten_append]
        refine hoo.app ?_
        simp only[Qk,St.cells,List.flatten_cons,List.flatten_nil,List.append_nil]
        exact .atom rfl (.atom rfl (hoA0.cons (hb'.cons hc'.one)))
       have hro2:∀r∈ro++[([.int .i64 x.op,.str x.name,.vsl ya 4 0 (rs.length+1),tb,tc]:List C)],r.length=5:=by
        intro r hr
        rcases List.mem_append.1 hr with hr|hr
        ·exact hro r hr
        ·rw[List.mem_singleton.1 hr];rfl
       simp only[go_sem,Qbz,hto2]
       refine Qa ?_
       simp only[go_sem,g5,hto2,hta3,htb,htc]
       refine Qb rfl (fun h7=>?_) (fun h7=>?_)
       ·have h7':x.op=7:=of_decide_eq_true h7
        refine Qt ?_
        try simp only[go_sem,AE.X.next]
        refine Qa ?_
        simp only[go_sem,hto2]
        refine Qg ?_
        simp only[go_sem,Qq,Qz,Qic,List.mem_singleton,forall_eq,RS.op,hto2]
        rw[hdr,cutB,if_neg hskip,if_pos h7',hcut]at hcb
        refine hK _ _ Lg2 (Lg2++(Mo++(((ya,Obj.vec 4 ([.int .i64 a.op,.int .i64 a.n,.str a.name,tka]::rs))::(N1++N2))++(Mb++Mc)))) ((y,.vec 5 rows)::(M2++G)) _ (kn.sub (List.sublist_append_right _ _)) rfl ?_ (by rw[←hcb];exact hgr2.ows (by rw[Qo];simp[hrl2]) hro2 Qzy hoD)
        refine Qeo fun f hf h0 hc hp=>?_
        have h1:=hp _ _ hpm
        have h2:=hc (y,.vec 5 rows) M
        have h3:=hc (y,.vec 5 rows) (M2++G)
        simp only[hf]at h1 h2 h3⊢
        omega
       ·have h7':¬x.op=7:=of_decide_eq_false h7
        rw[hdr,cutB,if_neg hskip,if_neg h7',hcut]at hcb
        refine Qd ?_
        try simp only[go_sem,AE.X.next]
        refine Qp ?_
        simp only[go_sem,AE.X.next,hto2]
        refine⟨Qr (by omega) (by omega),l.length-(i+1),by omega,i+1,t4,Lg2,Mo++(((ya,Obj.vec 4 ([.int .i64 a.op,.int .i64 a.n,.str a.name,tka]::rs))::(N1++N2))++(Mb++Mc)),M2,G,dn++[[.int .i64 x.op,.str x.name,.vsl ya 4 0 (rs.length+1),tb,tc]],td,ro++[[.int .i64 x.op,.str x.name,.vsl ya 4 0 (rs.length+1),tb,tc]],out++[St.mk x.op x.name x.args x.body x.els],rfl,by omega,by simp[hdn],by simp only[List.length_cons]at htd;omega,by simp[hrows],fun r hr=>ht4 r (by simp[hr]),hgr2,by simp[hrl2],hro2,hoD,ho2,?_,kn.sub (List.sublist_append_right _ _),by rw[List.append_assoc];exact hcb,by simp;omega,rfl⟩
        refine Qeo fun f hf h0 hc hp=>?_
        have h1:=hp _ _ hpm
        simp only[hf]at h1⊢
        omega
      ·have a1':=of_decide_eq_true a1
       have hn0:¬a.n=0:=fun h=>by rw[isN_iff.2 ⟨a1',h⟩]at za;cases za
       have hcut:Qzz x.op x.name x.args x.body x.els=.mk x.op x.name x.args x.body []:=by rw[Qzz,if_pos ⟨e5,by rw[harg];exact a1'⟩,harg,if_neg hn0]
       simp only[go_sem,g5,gya,hta3,htb,htc,hka,c5,a1,List.length_cons,List.getD_cons_zero,List.take_succ_cons,List.take_zero,List.drop_zero,List.all_cons,List.all_nil]
       refine⟨⟨by omega,by omega,by omega⟩,⟨by omega,by omega⟩,?_⟩
       refine Qb rfl (fun _=>?_) (fun h=>by simp[lk]at h)
       refine Qp ?_
       simp only[go_sem,g5,hta3,htb,htc]
       intro H4 h4
       have kn:Kn H H4 ([(y,.vec 5 rows)]++M) ([(x5,.st [.int .i64 x.op,.str x.name,.vsl ya 4 0 (rs.length+1),tb,.sl true 5 []])]++Lg):=kn.stL 0 rfl h4
       have g5:=kn.l 0 rfl
       try simp only[go_sem,AE.X.next]
       refine Qa ?_
       simp only[go_sem,hgo,g5,hta3,htb,htc,List.length_cons,List.length_nil]
       refine Kn.growR (B:=[(x5,.st [.int .i64 x.op,.str x.name,.vsl ya 4 0 (rs.length+1),tb,.sl true 5 []])]) kn hgr (new:=[[.int .i64 x.op,.str x.name,.vsl ya 4 0 (rs.length+1),tb,.sl true 5 []]]) (.mk' _ true 5 _) (by simp[noOw,Qqv,Qni,Qz7,hta3,htb,htc]) (by simp only[List.length_cons,List.length_nil,LIM];omega) fun t4 Lg2 H6 hgr2 hto2 kn=>?_
       have g5:=kn.l 0 rfl
       have hoD:OwL (Mo++(((ya,Obj.vec 4 ([.int .i64 a.op,.int .i64 a.n,.str a.name,tka]::rs))::(N1++N2))++Mb)) (ro++[[.int .i64 x.op,.str x.name,.vsl ya 4 0 (rs.length+1),tb,.sl true 5 []]]).flatten (Qk (out++[St.mk x.op x.name x.args x.body []])).flatten:=by
        rw[←Qm6,List.flatten_append,List.flatten_append]
        refine hoo.app ?_
        simp only[Qk,St.cells,List.flatten_cons,List.flatten_nil,List.append_nil]
        exact .atom rfl (.atom rfl (hoA0.cons (by have:=hb'.cons (OwL.sln (sz:=5) OwL.nil);rwa [List.append_nil]at this)))
       have hro2:∀r∈ro++[([.int .i64 x.op,.str x.name,.vsl ya 4 0 (rs.length+1),tb,.sl true 5 []]:List C)],r.length=5:=by
        intro r hr
        rcases List.mem_append.1 hr with hr|hr
        ·exact hro r hr
        ·rw[List.mem_singleton.1 hr];rfl
       simp only[go_sem,Qbz,hto2]
       refine Qa ?_
       simp only[go_sem,g5,hto2,hta3,htb,htc]
       refine Qb rfl (fun h7=>?_) (fun h7=>?_)
       ·have h7':x.op=7:=of_decide_eq_true h7
        refine Qt ?_
        try simp only[go_sem,AE.X.next]
        refine Qa ?_
        simp only[go_sem,hto2]
        refine Qg ?_
        simp only[go_sem,Qq,Qz,Qic,List.mem_singleton,forall_eq,RS.op,hto2]
        rw[hdr,cutB,if_neg hskip,if_pos h7',hcut]at hcb
        refine hK _ _ Lg2 (Lg2++(Mo++(((ya,Obj.vec 4 ([.int .i64 a.op,.int .i64 a.n,.str a.name,tka]::rs))::(N1++N2))++Mb))) ((y,.vec 5 rows)::(M2++(G++Mc))) _ (kn.sub (List.sublist_append_right _ _)) rfl ?_ (by rw[←hcb];exact hgr2.ows (by rw[Qo];simp[hrl2]) hro2 Qzy hoD)
        refine Qeo fun f hf h0 hc hp=>?_
        have h1:=hp _ _ hpm
        have h2:=hc (y,.vec 5 rows) M
        have h3:=hc (y,.vec 5 rows) (M2++(G++Mc))
        simp only[hf]at h1 h2 h3⊢
        omega
       ·have h7':¬x.op=7:=of_decide_eq_false h7
        rw[hdr,cutB,if_neg hskip,if_neg h7',hcut]at hcb
        refine Qd ?_
        try simp only[go_sem,AE.X.next]
        refine Qp ?_
        simp only[go_sem,AE.X.next,hto2]
        refine⟨Qr (by omega) (by omega),l.length-(i+1),by omega,i+1,t4,Lg2,Mo++(((ya,Obj.vec 4 ([.int .i64 a.op,.int .i64 a.n,.str a.name,tka]::rs))::(N1++N2))++Mb),M2,(G++Mc),dn++[[.int .i64 x.op,.str x.name,.vsl ya 4 0 (rs.length+1),tb,tc]],td,ro++[[.int .i64 x.op,.str x.name,.vsl ya 4 0 (rs.length+1),tb,.sl true 5 []]],out++[St.mk x.op x.name x.args x.body []],rfl,by omega,by simp[hdn],by simp only[List.length_cons]at htd;omega,by simp[hrows],fun r hr=>ht4 r (by simp[hr]),hgr2,by simp[hrl2],hro2,hoD,ho2,?_,kn.sub (List.sublist_append_right _ _),by rw[List.append_assoc];exact hcb,by simp;omega,rfl⟩
        refine Qeo fun f hf h0 hc hp=>?_
        have h1:=hp _ _ hpm
        simp only[hf]at h1⊢
        omega
     ·have z1:=isN_iff.1 za
      have hcut:Qzz x.op x.name x.args x.body x.els=.mk x.op x.name x.args [] x.els:=by rw[Qzz,if_pos ⟨e5,by rw[harg];exact z1.1⟩,harg,if_pos z1.2]
      refine Qb rfl (fun _=>?_) (fun h=>by simp[lk]at h)
      refine Qp ?_
      simp only[go_sem,g5,hta3,htb,htc]
      intro H4 h4
      have kn:Kn H H4 ([(y,.vec 5 rows)]++M) ([(x5,.st [.int .i64 x.op,.str x.name,.vsl ya 4 0 (rs.length+1),.sl true 5 [],tc])]++Lg):=kn.stL 0 rfl h4
      have g5:=kn.l 0 rfl
      try simp only[go_sem,AE.X.next]
      refine Qa ?_
      simp only[go_sem,hgo,g5,hta3,htb,htc,List.length_cons,List.length_nil]
      refine Kn.growR (B:=[(x5,.st [.int .i64 x.op,.str x.name,.vsl ya 4 0 (rs.length+1),.sl true 5 [],tc])]) kn hgr (new:=[[.int .i64 x.op,.str x.name,.vsl ya 4 0 (rs.length+1),.sl true 5 [],tc]]) (.mk' _ true 5 _) (by simp[noOw,Qqv,Qni,Qz7,hta3,htb,htc]) (by simp only[List.length_cons,List.length_nil,LIM];omega) fun t4 Lg2 H6 hgr2 hto2 kn=>?_
      have g5:=kn.l 0 rfl
      have hoD:OwL (Mo++(((ya,Obj.vec 4 ([.int .i64 a.op,.int .i64 a.n,.str a.name,tka]::rs))::(N1++N2))++Mc)) (ro++[[.int .i64 x.op,.str x.name,.vsl ya 4 0 (rs.length+1),.sl true 5 [],tc]]).flatten (Qk (out++[St.mk x.op x.name x.args [] x.els])).flatten:=by
       rw[←Qm6,List.flatten_append,List.flatten_append]
       refine hoo.app ?_
       simp only[Qk,St.cells,List.flatten_cons,List.flatten_nil,List.append_nil]
       exact .atom rfl (.atom rfl (hoA0.cons (.sln hc'.one)))
      have hro2:∀r∈ro++[([.int .i64 x.op,.str x.name,.vsl ya 4 0 (rs.length+1),.sl true 5 [],tc]:List C)],r.length=5:=by
       intro r hr
       rcases List.mem_append.1 hr with hr|hr
       ·exact hro r hr
       ·rw[List.mem_singleton.1 hr];rfl
      simp only[go_sem,Qbz,hto2]
      refine Qa ?_
      simp only[go_sem,g5,hto2,hta3,htb,htc]
      refine Qb rfl (fun h7=>?_) (fun h7=>?_)
      ·have h7':x.op=7:=of_decide_eq_true h7
       refine Qt ?_
       try simp only[go_sem,AE.X.next]
       refine Qa ?_
       simp only[go_sem,hto2]
       refine Qg ?_
       simp only[go_sem,Qq,Qz,Qic,List.mem_singleton,forall_eq,RS.op,hto2]
       rw[hdr,cutB,if_neg hskip,if_pos h7',hcut]at hcb
       refine hK _ _ Lg2 (Lg2++(Mo++(((ya,Obj.vec 4 ([.int .i64 a.op,.int .i64 a.n,.str a.name,tka]::rs))::(N1++N2))++Mc))) ((y,.vec 5 rows)::(M2++(G++Mb))) _ (kn.sub (List.sublist_append_right _ _)) rfl ?_ (by rw[←hcb];exact hgr2.ows (by rw[Qo];simp[hrl2]) hro2 Qzy hoD)
       refine Qeo fun f hf h0 hc hp=>?_
       have h1:=hp _ _ hpm
       have h2:=hc (y,.vec 5 rows) M
       have h3:=hc (y,.vec 5 rows) (M2++(G++Mb))
       simp only[hf]at h1 h2 h3⊢
       omega
      ·have h7':¬x.op=7:=of_decide_eq_false h7
       rw[hdr,cutB,if_neg hskip,if_neg h7',hcut]at hcb
       refine Qd ?_
       try simp only[go_sem,AE.X.next]
       refine Qp ?_
       simp only[go_sem,AE.X.next,hto2]
       refine⟨Qr (by omega) (by omega),l.length-(i+1),by omega,i+1,t4,Lg2,Mo++(((ya,Obj.vec 4 ([.int .i64 a.op,.int .i64 a.n,.str a.name,tka]::rs))::(N1++N2))++Mc),M2,(G++Mb),dn++[[.int .i64 x.op,.str x.name,.vsl ya 4 0 (rs.length+1),tb,tc]],td,ro++[[.int .i64 x.op,.str x.name,.vsl ya 4 0 (rs.length+1),.sl true 5 [],tc]],out++[St.mk x.op x.name x.args [] x.els],rfl,by omega,by simp[hdn],by simp only[List.length_cons]at htd;omega,by simp[hrows],fun r hr=>ht4 r (by simp[hr]),hgr2,by simp[hrl2],hro2,hoD,ho2,?_,kn.sub (List.sublist_append_right _ _),by rw[List.append_assoc];exact hcb,by simp;omega,rfl⟩
       refine Qeo fun f hf h0 hc hp=>?_
       have h1:=hp _ _ hpm
       simp only[hf]at h1⊢
       omega
   ·have e6:=of_decide_eq_true c6
    have c5:decide (x.op=5)=false:=decide_eq_false (by omega)
    simp only[go_sem,g5,gya,hta3,htb,htc,hka,c6,List.length_cons,List.getD_cons_zero,List.take_succ_cons,List.take_zero,List.drop_zero,List.all_cons,List.all_nil]
    refine⟨⟨by omega,by omega,by omega⟩,⟨by omega,by omega⟩,?_⟩
    refine Qfb hka ?_
    rw[show (decide (a.op=1)&&decide (a.n=0))=isN a 0 from rfl]
    simp only[go_sem,Qjq]
    cases za:isN a 0
    ·have hskip:¬(x.op=6∧isN (arg0 x.args) 0=true):=fun h=>by rw[harg,za]at h;cases h.2
     have hcut:Qzz x.op x.name x.args x.body x.els=.mk x.op x.name x.args x.body x.els:=by rw[Qzz,if_neg (fun h=>of_decide_eq_false c5 h.1)]
     refine Qb rfl (fun h=>by simp[lk]at h) (fun _=>?_)
     refine Qa ?_
     simp only[go_sem,g5,gya,hta3,htb,htc,hka,c5,List.length_cons,List.getD_cons_zero,List.take_succ_cons,List.take_zero,List.drop_zero,List.all_cons,List.all_nil]
     simp only[go_sem,Qfc]
     refine Qb rfl (fun h=>by simp[lk]at h) (fun _=>?_)
     refine Qa ?_
     simp only[go_sem,g5,gya,hta3,htb,htc,hka,c5,List.length_cons,List.getD_cons_zero,List.take_succ_cons,List.take_zero,List.drop_zero,List.all_cons,List.all_nil]
     refine Qb rfl (fun h=>by simp[lk]at h) (fun _=>?_)
     refine Qd ?_
     try simp only[go_sem,AE.X.next]
     refine Qa ?_
     simp only[go_sem,hgo,g5,hta3,htb,htc,List.length_cons,List.length_nil]
     refine Kn.growR (B:=[(x5,.st [.int .i64 x.op,.str x.name,.vsl ya 4 0 (rs.length+1),tb,tc])]) kn hgr (new:=[[.int .i64 x.op,.str x.name,.vsl ya 4 0 (rs.length+1),tb,tc]]) (.mk' _ true 5 _) (by simp[noOw,Qqv,Qni,Qz7,hta3,htb,htc]) (by simp only[List.length_cons,List.length_nil,LIM];omega) fun t4 Lg2 H6 hgr2 hto2 kn=>?_
     have g5:=kn.l 0 rfl
     have hoD:OwL (Mo++(((ya,Obj.vec 4 ([.int .i64 a.op,.int .i64 a.n,.str a.name,tka]::rs))::(N1++N2))++(Mb++Mc))) (ro++[[.int .i64 x.op,.str x.name,.vsl ya 4 0 (rs.length+1),tb,tc]]).flatten (Qk (out++[St.mk x.op x.name x.args x.body x.els])).flatten:=by
      rw[←Qm6,List.flatten_append,List.flatten_append]
      refine hoo.app ?_
      simp only[Qk,St.cells,List.flatten_cons,List.flatten_nil,List.append_nil]
      exact .atom rfl (.atom rfl (hoA0.cons (hb'.cons hc'.one)))
     have hro2:∀r∈ro++[([.int .i64 x.op,.str x.name,.vsl ya 4 0 (rs.length+1),tb,tc]:List C)],r.length=5:=by
      intro r hr
      rcases List.mem_append.1 hr with hr|hr
      ·exact hro r hr
      ·rw[List.mem_singleton.1 hr];rfl
     simp only[go_sem,Qbz,hto2]
     refine Qa ?_
     simp only[go_sem,g5,hto2,hta3,htb,htc]
     refine Qb rfl (fun h7=>?_) (fun h7=>?_)
     ·have h7':x.op=7:=of_decide_eq_true h7
      refine Qt ?_
      try simp only[go_sem,AE.X.next]
      refine Qa ?_
      simp only[go_sem,hto2]
      refine Qg ?_
      simp only[go_sem,Qq,Qz,Qic,List.mem_singleton,forall_eq,RS.op,hto2]
      rw[hdr,cutB,if_neg hskip,if_pos h7',hcut]at hcb
      refine hK _ _ Lg2 (Lg2++(Mo++(((ya,Obj.vec 4 ([.int .i64 a.op,.int .i64 a.n,.str a.name,tka]::rs))::(N1++N2))++(Mb++Mc)))) ((y,.vec 5 rows)::(M2++G)) _ (kn.sub (List.sublist_append_right _ _)) rfl ?_ (by rw[←hcb];exact hgr2.ows (by rw[Qo];simp[hrl2]) hro2 Qzy hoD)
      refine Qeo fun f hf h0 hc hp=>?_
      have h1:=hp _ _ hpm
      have h2:=hc (y,.vec 5 rows) M
      have h3:=hc (y,.vec 5 rows) (M2++G)
      simp only[hf]at h1 h2 h3⊢
      omega
     ·have h7':¬x.op=7:=of_decide_eq_false h7
      rw[hdr,cutB,if_neg hskip,if_neg h7',hcut]at hcb
      refine Qd ?_
      try simp only[go_sem,AE.X.next]
      refine Qp ?_
      simp only[go_sem,AE.X.next,hto2]
      refine⟨Qr (by omega) (by omega),l.length-(i+1),by omega,i+1,t4,Lg2,Mo++(((ya,Obj.vec 4 ([.int .i64 a.op,.int .i64 a.n,.str a.name,tka]::rs))::(N1++N2))++(Mb++Mc)),M2,G,dn++[[.int .i64 x.op,.str x.name,.vsl ya 4 0 (rs.length+1),tb,tc]],td,ro++[[.int .i64 x.op,.str x.name,.vsl ya 4 0 (rs.length+1),tb,tc]],out++[St.mk x.op x.name x.args x.body x.els],rfl,by omega,by simp[hdn],by simp only[List.length_cons]at htd;omega,by simp[hrows],fun r hr=>ht4 r (by simp[hr]),hgr2,by simp[hrl2],hro2,hoD,ho2,?_,kn.sub (List.sublist_append_right _ _),by rw[List.append_assoc];exact hcb,by simp;omega,rfl⟩
      refine Qeo fun f hf h0 hc hp=>?_
      have h1:=hp _ _ hpm
      simp only[hf]at h1⊢
      omega
    ·have hskip:x.op=6∧isN (arg0 x.args) 0=true:=⟨e6,by rw[harg];exact za⟩
     rw[hdr,cutB,if_pos hskip]at hcb
     refine Qb rfl (fun _=>?_) (fun h=>by simp[lk]at h)
     refine Qt ?_
     try simp only[go_sem,AE.X.next]
     refine Qp ?_
     simp only[go_sem,AE.X.next,hgo]
     refine⟨Qr (by omega) (by omega),l.length-(i+1),by omega,i+1,t3,Lg,Mo,M2,G++(((ya,Obj.vec 4 ([.int .i64 a.op,.int .i64 a.n,.str a.name,tka]::rs))::(N1++N2))++(Mb++Mc)),dn++[[.int .i64 x.op,.str x.name,.vsl ya 4 0 (rs.length+1),tb,tc]],td,ro,out,rfl,by omega,by simp[hdn],by simp only[List.length_cons]at htd;omega,by simp[hrows],fun r hr=>ht4 r (by simp[hr]),hgr,hrl2,hro,hoo,ho2,?_,kn.sub (List.sublist_append_right _ _),hcb,by omega,rfl⟩
     refine Qeo fun f hf h0 hc hp=>?_
     have h1:=hp _ _ hpm
     simp only[hf]at h1⊢
     omega
  ·intro hc
   have hge:l.length≤i:=by have:=of_decide_eq_false hc;omega
   rw[List.drop_of_length_le hge,cutB,List.append_nil]at hcb
   refine Qt ?_
   simp only[go_sem,AE.X.next]
   refine Qa ?_
   simp only[go_sem,hgo]
   refine Qg ?_
   simp only[go_sem,Qq,Qz,Qic,List.mem_singleton,forall_eq,RS.op,hgo]
   refine hK _ _ Lg (Lg++Mo) (Ly++(Mt++G)) _ kn rfl ?_ (by rw[←hcb];exact hgr.ows (by rw[Qo];omega) hro Qzy hoo)
   refine Qeo fun f hf h0 hc hp=>?_
   have h1:=hp _ _ hpm
   simp only[hf]at h1⊢
   omega
end Go.AE.Y

namespace Go.AE.Y
attribute [local go_sem] cond_true cond_false Bool.not_true Bool.not_false
open Go.Proofs.Tryz
variable {H H0:Heap}{K:V→Heap→Prop}{L E:List (Nat×Obj)}{fns:List Fn}
abbrev fnnO (x:Fn):Obj:=.st [.str x.name,.sl false 1 (Q1 x.params),.sl false 5 (Qk x.body)]
def St.wk (G:List St→List St)(x:St):St:=.mk x.op x.name x.args (G x.body) (G x.els)
theorem Qbdi (x:St):x.foldS=(x.wk Qao).foldA:=by cases x;simp only[St.foldS,St.wk,St.foldA,St.op,St.name,St.args,St.body,St.els,Qc4]
theorem Qa7k (l:List St):Qao l=(l.map (St.wk Qao)).map St.foldA:=by
 rw[Qr1,List.map_map]
 exact List.map_congr_left fun x _=>Qbdi x
theorem Qaw8:∀l:List St,Q3 l=cutB (l.map (St.wk Q3))
 |[]=>by simp[Q3,cutB]
 |x::r=>by
  rw[Q3,List.map_cons,cutB,Qaw8 r,St.cutS_eq]
  cases x
  simp only[St.wk,St.op,St.name,St.args,St.body,St.els]
  rfl
def wkO (x5 fB:Nat):Nat×Obj:=(x5,.st [.fn Qa0 [.pp [.fn fB []],.ptr x5 0]])
theorem Qa3n {g:Fn→Fn}{f:Nat}{caps:List C}{l:List Fn}{fl:Bool}
  (hf:∀x∈l,∀(H1:Heap) (K':V→Heap→Prop),(∀m,H m≠.none→H1 m=H m)→(∀H2 L cs,Kn H1 H2 [] L→OwL L cs (g x).cells→K' (.ag cs) H2)→Ql prog f ([.ag x.cells]++caps.map .c) H1 K')
  (hK:∀H' L t,Kn H H' [] L→OwS L 3 (Qn (l.map g)) t→K (.c t) H'):Ql prog Qdu [.c (.sl fl 3 (Qn l)),.c (.fn f caps)] H K:=by
 refine Qc Qah Q5v ?_
 refine Qa ?_
 simp only[go_sem]
 refine Qa ?_
 simp only[go_sem]
 refine Qu ?_
 refine Qa ?_
 simp only[go_sem,Qw]
 intro hl
 simp only[LIM]at hl
 refine Qe (Qf (Qy (fun m e1 H1=>∃(i:Nat) (t:C) (Lg M:List (Nat×Obj)) (rows:List (List C)),m=l.length-i∧i≤l.length∧Gr Lg 3 rows t∧rows.length=i∧(∀r∈rows,r.length=3)∧OwL M rows.flatten (Qn ((l.take i).map g)).flatten∧Kn H H1 [] (M++Lg)∧
  e1=[(1,.c (.fn f caps)),(5,.c t),(8,.c (.sl fl 3 (Qn l))),(9,.c (.int .i64 l.length)),(10,.c (.int .i64 i))]) l.length ?_ ?_))
 ·exact⟨0,_,[],[],[],by omega,by omega,.nil 3,rfl,by simp,.nil,Kn.start0 H,rfl⟩
 ·rintro m e1 H1 ⟨i,t,Lg,M,rows,hm,hi,hgr,hrl,hr4,how,kn,rfl⟩
  have hto:=hgr.isOw
  refine Qa ?_
  simp only[go_sem,hto]
  refine Qe (Qb rfl ?_ ?_)
  ·intro hc
   have hlt:i<l.length:=by simpa using hc
   obtain⟨x,hx⟩:∃x,l[i]=x:=⟨_,rfl⟩
   have hxm:x∈l:=by rw[←hx];exact List.getElem_mem hlt
   have htk:Qn ((l.take (i+1)).map g)=Qn ((l.take i).map g)++[(g x).cells]:=by
    rw[Q5h,List.take_succ_eq_append_getElem hlt,hx];simp
   refine Qd ?_
   try simp only[go_sem]
   refine Qe (Qf ?_)
   refine Qa ?_
   simp only[go_sem,hto,hlt,Qw,Qal _ _ hlt,hx,Fn.cells]
   intro x7 hx7 H3 h3
   have kn:Kn H H3 [] ([(x7,.st [.str [],.sl true 1 [],.sl true 5 []])]++(M++Lg)):=(kn.al hx7 h3).perm List.perm_append_comm
   have g7:=kn.l 0 rfl
   simp only[go_sem,Qle,g7,hto]
   intro H4 h4
   have kn:Kn H H4 [] ([(x7,fnnO x)]++(M++Lg)):=kn.stL 0 rfl h4
   have g7:=kn.l 0 rfl
   refine Qp ?_
   simp only[go_sem,fnnO,g7,hto]
   have hfx:=hf x hxm H4
   rw[show x.cells=[.str x.name,.sl false 1 (Q1 x.params),.sl false 5 (Qk x.body)] from rfl]at hfx
   refine hfx _ (fun m hm=>kn.chg m hm (by simp)) fun H5 L2 cs k2 ho=>?_
   have hcl:cs.length=3:=by rw[←ho.len,(g x).cells_len]
   have kn:=kn.comp0 k2
   have kn:Kn H H5 [] (([(x7,fnnO x)]++(M++L2))++Lg):=kn.perm (by
    simp only[List.append_assoc]
    exact (List.Perm.append_left M List.perm_append_comm).append_left _)
   simp only[go_sem,Qlg,hto,hcl]
   refine kn.growR hgr (new:=[cs]) (.mk' _ true 3 _) (by simpa using ho.noOw) (by simp only[hrl,List.length_cons,List.length_nil,LIM];omega) fun t2 Lg2 H6 hgr2 hto2 kn=>?_
   simp only[go_sem,Qlf,hto2]
   refine Qp ?_
   simp only[go_sem,AE.X.next,hto2]
   refine⟨Qr (by omega) (by omega),l.length-(i+1),by omega,i+1,t2,Lg2,M++L2,rows++[cs],rfl,by omega,hgr2,by simp[hrl],?_,?_,kn.sub ?_,rfl⟩
   ·intro r hr
    rcases List.mem_append.1 hr with hr|hr
    ·exact hr4 r hr
    ·rw[List.mem_singleton.1 hr];exact hcl
   ·rw[htk]
    simp only[List.flatten_append,List.flatten_cons,List.flatten_nil,List.append_nil]
    exact how.app ho
   ·simp only[List.append_assoc];exact List.sublist_append_right _ _
  ·intro hc
   have hge:l.length≤i:=by simpa using hc
   rw[List.take_of_length_le hge]at how
   refine Qt ?_
   simp only[go_sem,AE.X.next]
   refine Qa ?_
   simp only[go_sem,hto]
   refine Qg ?_
   simp only[go_sem,Qq,Qz,Qat4,List.mem_singleton,forall_eq,RS.op,hto]
   exact hK _ _ _ (kn.perm List.perm_append_comm) (hgr.ows (by simp only[Qw,List.length_map];omega) hr4 Qa8m how)
theorem Qbje {x5 fB:Nat}{G:List St→List St}{x:St}(hh:H x5=(wkO x5 fB).2)(gk:GK H)
  (hw:∀(l:List St) (fl:Bool) (H1:Heap) (K':V→Heap→Prop),(l=x.body∨l=x.els)→(∀m,H m≠.none→H1 m=H m)→(∀H' L t,Kn H1 H' [] L→OwS L 5 (Qk (G l)) t→K' (.c t) H')→Ql prog Qa0 ([.c (.sl fl 5 (Qk l))]++[C.pp [.fn fB []],.ptr x5 0].map .c) H1 K')
  (hK:∀H' L cs,Kn H H' [] L→OwL L cs (x.wk G).cells→K (.ag cs) H'):Ql prog Qff ([.ag x.cells]++[C.ptr x5 0].map .c) H K:=by
 refine Qc Qah Q3c ?_
 refine Qa ?_
 simp only[go_sem,x.cells_eq]
 intro x2 hx2 H1 h1
 have kn:=(Kn.start0 H).al hx2 h1
 simp only[go_sem,Qjb]
 intro x3 hx3 H2 h2
 have kn:=kn.al hx3 h2
 have g2:=kn.l 0 rfl
 refine Qa ?_
 simp only[go_sem,g2]
 refine Q3e (g:=id) (caps:=[]) (fun y hy H1 K' _ hK'=>Q8k y.size y (Nat.le_refl _) hK') fun H3 La ta k2 ha=>?_
 rw[List.map_id]at ha
 have kn:=kn.comp0 k2
 have g2:=kn.l 0 rfl
 have hta:=ha.isOw
 simp only[go_sem,Qjc,g2,hta]
 intro H4 h4
 have kn:=kn.stL 0 rfl h4
 have g2:=kn.l 0 rfl
 have keep:∀{H':Heap} {L:List (Nat×Obj)},Kn H H' [] L→H' x5=.st [.fn Qa0 [.pp [.fn fB []],.ptr x5 0]]:=fun k=>(k.chg x5 (by rw[hh];nofun) (by simp)).trans hh
 have g5:=keep kn
 refine Qa ?_
 simp only[go_sem,g2,g5,hta]
 refine hw x.body false _ _ (.inl rfl) (fun m hm=>kn.chg m hm (by simp)) fun H3 Lb tb k2 hb=>?_
 have kn:=kn.comp0 k2
 have g2:=kn.l 0 rfl
 have htb:=hb.isOw
 simp only[go_sem,Qjd,g2,hta,htb]
 intro H4 h4
 have kn:=kn.stL 0 rfl h4
 have g2:=kn.l 0 rfl
 have g5:=keep kn
 refine Qa ?_
 simp only[go_sem,g2,g5,hta,htb]
 refine hw x.els false _ _ (.inr rfl) (fun m hm=>kn.chg m hm (by simp)) fun H3 Lc tc k2 hc=>?_
 have kn:=kn.comp0 k2
 have g2:=kn.l 0 rfl
 have htc:=hc.isOw
 simp only[go_sem,Qje,g2,hta,htb,htc]
 intro H4 h4
 have kn:=kn.stL 0 rfl h4
 have g2:=kn.l 0 rfl
 have g3:=kn.l 1 rfl
 refine Qa ?_
 simp only[go_sem,g2,g3,hta,htb,htc]
 intro H5 h5
 have kn:=kn.stL 1 rfl h5
 have g3:=kn.l 1 rfl
 refine Qg ?_
 simp only[go_sem,Qq,Qz,Qnm,List.mem_singleton,forall_eq,RS.op,g3,hta,htb,htc]
 refine hK _ (La++(Lb++Lc)) _ (kn.sub ?_) (by rw[St.wk,St.cells];exact .atom rfl (.atom rfl (ha.cons (hb.cons hc.one))))
 show (La++(Lb++Lc)).Sublist ((_::_::La)++Lb++Lc)
 rw[List.append_assoc]
 exact List.sublist_append_right [_,_] _
theorem Qbi5 {x5 fB:Nat}{B G:List St→List St}{Pl:List St→Prop}(hB:BlkO fB B Pl)(hG:∀l,G l=B (l.map (St.wk G)))(hP:∀(l:List St) (d:Int),Q2 l d=true→Pl (l.map (St.wk G))) :
  ∀(n:Nat) (l:List St) (fl:Bool) (d:Int) (H:Heap) (K:V→Heap→Prop),Qj l≤n→Q2 l d=true→GK H→H x5=(wkO x5 fB).2→(∀H' L t,Kn H H' [] L→OwS L 5 (Qk (G l)) t→K (.c t) H')→
   Ql prog Qa0 ([.c (.sl fl 5 (Qk l))]++[C.pp [.fn fB []],.ptr x5 0].map .c) H K:=by
 intro n
 induction n using Nat.strongRecOn with
 |ind n ih=>
 intro l fl d H K hn hf gk hh hK
 refine Qc Qah Qae7 ?_
 refine Qa ?_
 simp only[go_sem]
 refine Qbg ?_
 simp only[go_sem]
 refine Qad8 (g:=St.wk G) (caps:=[.ptr x5 0]) (fun y hy H1 K' hke hK'=>?_) fun H1 L t k2 ho=>?_
 ·have hys:=Qak hy
  have hsz:=y.size_eq
  have hsp:=y.size_pos2
  obtain⟨hva,hfb,hfe⟩:=Qev (List.all_eq_true.1 (by rw[←Qdb];exact hf) y hy)
  have h1:H1 x5=(wkO x5 fB).2:=(hke x5 (by rw[hh];nofun)).trans hh
  have gk1:=gk.same hke
  refine Qbje (G:=G) h1 gk1 (fun l2 fl2 H2 K2 hl2 hke2 hK2=>?_) hK'
  have hsz2:Qj l2<n∧Q2 l2 (d-1)=true:=by
   rcases hl2 with rfl|rfl
   ·exact⟨by omega,hfb⟩
   ·exact⟨by omega,hfe⟩
  exact ih _ hsz2.1 l2 fl2 (d-1) H2 K2 (Nat.le_refl _) hsz2.2 (gk1.same hke2) ((hke2 x5 (by rw[h1];nofun)).trans h1) hK2
 ·have kn:=(Kn.start0 H).comp0 k2
  have hto:=ho.isOw
  simp only[go_sem,Qns,hto]
  refine hB _ L t H1 _ (hP l d hf) (gk.kn k2) ho (fun p hp=>(k2.get p (by simpa using hp)).1) k2.dL fun H2 E' N Lr rest t' k3 hE hpm ho'=>?_
  have hto':=ho'.isOw
  have k4:=Kn.comp (L2:=[]) (by simpa using k2) k3 hE
  simp only[go_sem,Qnr,hto']
  refine Qg ?_
  simp only[go_sem,Qq,Qz,Qat4,List.mem_singleton,forall_eq,RS.op,hto']
  have k5:Kn H H2 [] (Lr++rest):=k4.perm (by simpa using hpm)
  exact hK _ Lr t' (k5.sub (List.sublist_append_left _ _)) (by rw[hG];exact ho')
end Go.AE.Y

namespace Go.AE.Y
attribute [local go_sem] cond_true cond_false Bool.not_true Bool.not_false
open Go.Proofs.Tryz
variable {H H0:Heap}{K:V→Heap→Prop}{L E:List (Nat×Obj)}{fns:List Fn}
def Fn.wkF (G:List St→List St)(f:Fn):Fn:=⟨f.name,f.params,G f.body⟩
theorem c2_c {x5 fB:Nat}{G:List St→List St}{f:Fn}(hh:H x5=(wkO x5 fB).2)(hl:f.params.length≤2^38)
  (hw:∀(fl:Bool) (H1:Heap) (K':V→Heap→Prop),(∀m,H m≠.none→H1 m=H m)→(∀H' L t,Kn H1 H' [] L→OwS L 5 (Qk (G f.body)) t→K' (.c t) H')→Ql prog Qa0 ([.c (.sl fl 5 (Qk f.body))]++[C.pp [.fn fB []],.ptr x5 0].map .c) H1 K')
  (hK:∀H' L cs,Kn H H' [] L→OwL L cs (f.wkF G).cells→K (.ag cs) H'):Ql prog Qjm ([.ag f.cells]++[C.ptr x5 0].map .c) H K:=by
 refine Qc Qah Qae8 ?_
 refine Qa ?_
 simp only[go_sem,Fn.cells]
 intro x2 hx2 H1 h1
 have kn:=(Kn.start0 H).al hx2 h1
 simp only[go_sem,Qnt]
 intro x3 hx3 H2 h2
 have kn:=kn.al hx3 h2
 have g2:=kn.l 0 rfl
 refine Qa ?_
 simp only[go_sem,g2]
 refine Qaed hl fun H3 La ta k2 ha=>?_
 have kn:=kn.comp0 k2
 have g2:=kn.l 0 rfl
 have hta:=ha.isOw
 simp only[go_sem,Qnu,g2,hta]
 intro H4 h4
 have kn:=kn.stL 0 rfl h4
 have g2:=kn.l 0 rfl
 have g5:H4 x5=.st [.fn Qa0 [.pp [.fn fB []],.ptr x5 0]]:=(kn.chg x5 (by rw[hh];nofun) (by simp)).trans hh
 refine Qa ?_
 simp only[go_sem,g2,g5,hta]
 refine hw false _ _ (fun m hm=>kn.chg m hm (by simp)) fun H3 Lb tb k2 hb=>?_
 have kn:=kn.comp0 k2
 have g2:=kn.l 0 rfl
 have htb:=hb.isOw
 simp only[go_sem,Qnv,g2,hta,htb]
 intro H4 h4
 have kn:=kn.stL 0 rfl h4
 have g2:=kn.l 0 rfl
 have g3:=kn.l 1 rfl
 refine Qa ?_
 simp only[go_sem,g2,g3,hta,htb]
 intro H5 h5
 have kn:=kn.stL 1 rfl h5
 have g3:=kn.l 1 rfl
 refine Qg ?_
 simp only[go_sem,Qq,Qz,Quf,List.mem_singleton,forall_eq,RS.op,g3,hta,htb]
 exact hK _ (La++Lb) _ (kn.sub (List.sublist_append_right [_,_] _)) (.atom rfl (ha.cons hb.one))
theorem Qann {fB:Nat}{B G:List St→List St}{Pl:List St→Prop}{fl:Bool}(hB:BlkO fB B Pl)(hG:∀l,G l=B (l.map (St.wk G)))(hP:∀(l:List St) (d:Int),Q2 l d=true→Pl (l.map (St.wk G)))
  (gk:GK H) (hf:∀f∈fns,Q2 f.body 4=true∧f.params.length≤2^38) (hK:∀H' L cs,Kn H H' [] L→OwL L cs [.sl false 3 (Qn (fns.map (Fn.wkF G)))]→K (.ag cs) H') :
  Ql prog Qls [.ag [.sl fl 3 (Qn fns)],.c (.fn fB [])] H K:=by
 refine Qc Qah Qatk ?_
 refine Qa ?_
 simp only[go_sem]
 intro x4 hx4 H1 h1
 have kn:=(Kn.start0 H).al hx4 h1
 refine Qa ?_
 simp only[go_sem]
 intro x5 hx5 H2 h2
 have kn:=kn.al hx5 h2
 have g5:=kn.l 1 rfl
 refine Qa ?_
 simp only[go_sem,g5]
 intro H3 h3
 have kn:Kn H H3 [] [(x4,.st [.sl true 3 []]),wkO x5 fB]:=kn.stL 1 rfl h3
 have g4:=kn.l 0 rfl
 have g5:H3 x5=(wkO x5 fB).2:=(kn.get (wkO x5 fB) (by simp)).1
 refine Qa ?_
 simp only[go_sem]
 have gk3:=gk.kn kn
 refine Qa3n (g:=Fn.wkF G) (caps:=[.ptr x5 0]) (fun f hfm H4 K' hke hK'=>?_) fun H4 L t k2 ho=>?_
 ·have h1:H4 x5=(wkO x5 fB).2:=(hke x5 (by rw[g5];nofun)).trans g5
  exact c2_c (G:=G) h1 (hf f hfm).2 (fun fl2 H5 K5 hke2 hK5=>Qbi5 hB hG hP (Qj f.body) f.body fl2 4 H5 K5 (Nat.le_refl _) (hf f hfm).1 ((gk3.same hke).same hke2) ((hke2 x5 (by rw[h1];nofun)).trans h1) hK5) hK'
 have kn:=kn.comp0 k2
 have g4:=kn.l 0 rfl
 have hto:=ho.isOw
 simp only[go_sem,Quy,g4,hto]
 intro H5 h5
 have kn:=kn.stL 0 rfl h5
 have g4:=kn.l 0 rfl
 refine Qg ?_
 simp only[go_sem,Qq,Qz,Qa3x,List.mem_singleton,forall_eq,RS.op,g4,hto]
 exact hK _ L _ (kn.sub (List.sublist_append_right [_,_] _)) ho.one
theorem Qxc (h:FineP fns):∀f∈fns,Q2 f.body 4=true∧f.params.length≤2^38:=fun f hf=>⟨h.bodies f hf,by have:=Qat3 h.v f hf;omega⟩
theorem Qbhq (l:List St)(d:Int)(h:Q2 l d=true):∀x∈l.map (St.wk Qao),∀a∈x.args,a.valid=true:=by
 intro x hx a ha
 obtain⟨y,hy,rfl⟩:=List.mem_map.1 hx
 exact (Qev (List.all_eq_true.1 (by rw[←Qdb];exact h) y hy)).1 a (show a∈y.args from ha)
theorem Qbjg (l:List St)(d:Int)(h:Q2 l d=true):∀x∈l.map (St.wk Q3),0<x.args.length:=by
 intro x hx
 obtain⟨y,hy,rfl⟩:=List.mem_map.1 hx
 have h1:=List.all_eq_true.1 (by rw[←Qdb];exact h) y hy
 rw[St.form_eq]at h1
 simp only[Bool.and_eq_true,Qp9,decide_eq_true_eq]at h1
 have h2:=h1.1.1.2.1.1.1.1.1.1.2
 show 0<y.args.length
 rw[h2,argN]
 split <;> omega
theorem Qa80 (h:FineP fns){fl:Bool}(gk:GK H)(hsz:Qs fns≤2^38)(hK:∀H' L cs,Kn H H' [] L→OwL L cs [.sl false 3 (Qn (foldA fns))]→K (.tup [.ag cs,.c (.bool true)]) H') :
  Ql prog Qej [.ag [.sl fl 3 (Qn fns)]] H K:=by
 refine Qc Qah Qaad ?_
 refine Qa ?_
 simp only[go_sem]
 intro x2 hx2 H1 h1
 have kn:=(Kn.start0 H).al hx2 h1
 simp only[go_sem,Qms]
 refine Qu ?_
 refine Qa ?_
 simp only[go_sem]
 refine Qapf hsz (gk.kn kn) fun H2 hu=>?_
 have kn:=kn.call0 hu
 have g2:=kn.l 0 rfl
 simp only[go_sem,Qfm,Qgy,fine_iff.2 h]
 refine Qe (Qb rfl (fun hc=>by cases hc) fun _=>Qd ?_)
 try simp only[go_sem]
 refine Qa ?_
 simp only[go_sem]
 refine Qann (fns:=fns) (G:=Qao) Qa4r Qa7k Qbhq (gk.kn kn) (Qxc h) fun H3 L cs k2 ho=>?_
 have kn:=kn.comp0 k2
 have g2:=kn.l 0 rfl
 obtain⟨t,rfl,ht⟩:∃t,cs=[t]∧OwS L 3 (Qn (foldA fns)) t:=ho.inv_one
 have hto:=ht.isOw
 simp only[go_sem,Qmu,Qmt,g2,hto]
 intro H4 h4
 have kn:=kn.stL 0 rfl h4
 have g2:=kn.l 0 rfl
 refine Qg ?_
 simp only[go_sem,Qq,Qz,Qfh,List.mem_singleton,forall_eq,RS.op,g2,hto]
 exact hK _ L _ (kn.sub (List.sublist_append_right [_] _)) ht.one
theorem Qbds (h:FineP fns){fl:Bool}(gk:GK H)(hsz:Qs fns≤2^38)(hK:∀H' L cs,Kn H H' [] L→OwL L cs [.sl false 3 (Qn (cutA fns))]→K (.tup [.ag cs,.c (.bool true)]) H') :
  Ql prog Qe9 [.ag [.sl fl 3 (Qn fns)]] H K:=by
 refine Qc Qah Qae5 ?_
 refine Qa ?_
 simp only[go_sem]
 intro x2 hx2 H1 h1
 have kn:=(Kn.start0 H).al hx2 h1
 simp only[go_sem,Qnn]
 refine Qu ?_
 refine Qa ?_
 simp only[go_sem]
 refine Qapf hsz (gk.kn kn) fun H2 hu=>?_
 have kn:=kn.call0 hu
 have g2:=kn.l 0 rfl
 simp only[go_sem,Qfm,Qgy,fine_iff.2 h]
 refine Qe (Qb rfl (fun hc=>by cases hc) fun _=>Qd ?_)
 try simp only[go_sem]
 refine Qa ?_
 simp only[go_sem]
 refine Qann (fns:=fns) (G:=Q3) Qa78 Qaw8 Qbjg (gk.kn kn) (Qxc h) fun H3 L cs k2 ho=>?_
 have kn:=kn.comp0 k2
 have g2:=kn.l 0 rfl
 obtain⟨t,rfl,ht⟩:∃t,cs=[t]∧OwS L 3 (Qn (cutA fns)) t:=ho.inv_one
 have hto:=ht.isOw
 simp only[go_sem,Qnp,Qno,g2,hto]
 intro H4 h4
 have kn:=kn.stL 0 rfl h4
 have g2:=kn.l 0 rfl
 refine Qg ?_
 simp only[go_sem,Qq,Qz,Qfh,List.mem_singleton,forall_eq,RS.op,g2,hto]
 exact hK _ L _ (kn.sub (List.sublist_append_right [_] _)) ht.one
end Go.AE.Y

namespace Go.AE.Y
attribute [local go_sem] cond_true cond_false Bool.not_true Bool.not_false
open Go.Proofs.Tryz
variable {H H0 F:Heap}{K:V→Heap→Prop}{E B Lg:List (Nat×Obj)}{fns:List Fn}
theorem Qr4 {α:Type}{l m:List α}{i:Nat}(h:l.take i=m.take i)(h1:i<l.length)(h2:i<m.length)(e:l[i]=m[i]):l.take (i+1)=m.take (i+1):=by
 rw[List.take_succ_eq_append_getElem h1,List.take_succ_eq_append_getElem h2,h,e]
theorem Q41 {α:Type}{l m:List α}{i:Nat}(h:l.take i=m.take i)(h1:l.length≤i)(h2:l.length=m.length):l=m:=by
 rwa [List.take_of_length_le h1,List.take_of_length_le (by omega)]at h
theorem Qapd {α:Type}{l m:List α}{i:Nat}(h1:i<l.length)(h2:i<m.length)(e:¬l[i]=m[i]):¬l=m:=fun h=>e (by subst h;rfl)
theorem fiff {P:Prop}(h:¬P):(false=true↔P):=⟨fun e=>(by cases e),fun e=>absurd e h⟩
theorem tiff {P:Prop}(h:P):(true=true↔P):=⟨fun _=>h,fun _=>rfl⟩
theorem Ex.ext4 {x y:Ex}(h1:x.op=y.op)(h2:x.n=y.n)(h3:x.name=y.name)(h4:x.kids=y.kids):x=y:=by
 cases x;cases y;simp only[Ex.op,Ex.n,Ex.name,Ex.kids]at h1 h2 h3 h4;rw[h1,h2,h3,h4]
theorem St.ext5 {x y:St}(h1:x.op=y.op)(h2:x.name=y.name)(h3:x.args=y.args)(h4:x.body=y.body)(h5:x.els=y.els):x=y:=by
 cases x;cases y;simp only[St.op,St.name,St.args,St.body,St.els]at h1 h2 h3 h4 h5;rw[h1,h2,h3,h4,h5]
theorem Fn.ext3 {x y:Fn}(h1:x.name=y.name)(h3:x.params=y.params)(h4:x.body=y.body):x=y:=by
 cases x;cases y;simp only at h1 h3 h4;rw[h1,h3,h4]
theorem Qax7 {α:Type}{l m:List α}(e:¬l.length=m.length):¬l=m:=fun h=>e (by rw[h])
theorem Qanj {f:Nat}{l l':List Ex}{fl fl2:Bool}
  (hf:∀x∈l,∀(y:Ex) (H1:Heap) (K':V→Heap→Prop),(∀r H2,(r=true↔x=y)→Upd H1 H2 []→K' (.c (.bool r)) H2)→Ql prog f [.ag x.cells,.ag y.cells] H1 K')
  (hK:∀r H',(r=true↔l=l')→Upd H H' []→K (.c (.bool r)) H'):Ql prog Qca [.c (.sl fl 4 (Qm l)),.c (.sl fl2 4 (Qm l')),.c (.fn f [])] H K:=by
 refine Qab ?_
 refine Qc Qah Qz9 ?_
 refine Qa ?_
 simp only[go_sem]
 refine Qu ?_
 refine Qa ?_
 simp only[go_sem,Qh]
 intro hl hl2
 try intro _
 simp only[LIM]at hl hl2
 refine Qe (Qb rfl (fun hc=>?_) (fun hc=>?_))
 ·have hne:¬l.length=l'.length:=fun h=>by rw[h]at hc;simp at hc
  refine Qa ?_
  simp only[go_sem]
  refine Qg ?_
  simp only[go_sem,Qq,Qz,Quj,List.mem_singleton,forall_eq,RS.op]
  exact⟨_,.c _ _ (Qi rfl),hK _ _ (fiff (Qax7 hne)) (Kn.start0 H).fin⟩
 have hle:l.length=l'.length:=(by have:(l.length:Int)=l'.length:=(by simpa using hc);omega)
 refine Qd ?_
 try simp only[go_sem]
 refine Qu ?_
 refine Qa ?_
 simp only[go_sem,Qh]
 try intro _
 refine Qe (Qf (Qy (fun m e1 H1=>∃(i:Nat),m=l.length-i∧i≤l.length∧l.take i=l'.take i∧Kn H H1 [] []∧
  e1=[(1,.c (.sl fl2 4 (Qm l'))),(2,.c (.fn f [])),(15,.c (.sl fl 4 (Qm l))),(16,.c (.int .i64 l.length)),(17,.c (.int .i64 i))]) l.length ?_ ?_))
 ·exact⟨0,by omega,by omega,by simp,Kn.start0 H,rfl⟩
 ·rintro m e1 H1 ⟨i,hm,hi,hpp,kn,rfl⟩
  refine Qa ?_
  simp only[go_sem]
  refine Qe (Qb rfl ?_ ?_)
  ·intro hc
   have hlt:i<l.length:=by simpa using hc
   have hlt2:i<l'.length:=by omega
   obtain⟨x,hx⟩:∃x,l[i]=x:=⟨_,rfl⟩
   obtain⟨y,hy⟩:∃y,l'[i]=y:=⟨_,rfl⟩
   have hxm:x∈l:=by rw[←hx];exact List.getElem_mem hlt
   refine Qd ?_
   try simp only[go_sem]
   refine Qe (Qf ?_)
   refine Qa ?_
   simp only[go_sem,hlt,Qh,Q6 _ _ hlt,hx,x.cells_eq]
   intro x8 hx8 H3 h3
   have kn:=kn.al hx8 h3
   have g8:=kn.l 0 rfl
   simp only[go_sem,Qhp,g8]
   intro H4 h4
   have kn:=kn.stL 0 rfl h4
   have g8:=kn.l 0 rfl
   refine Qa ?_
   simp only[go_sem,hlt2,Qh,Q6 _ _ hlt2,hy,y.cells_eq]
   intro x9 hx9 H5 h5
   have kn:=kn.al hx9 h5
   have g9:=kn.l 1 rfl
   simp only[go_sem,Qhq,g9]
   intro H6 h6
   have kn:=kn.stL 1 rfl h6
   have g8:=kn.l 0 rfl
   have g9:=kn.l 1 rfl
   refine Qa ?_
   simp only[go_sem,g8,g9]
   have hfx:=hf x hxm y H6
   simp only[x.cells_eq,y.cells_eq]at hfx
   refine hfx _ fun rr H7 hrr hu=>?_
   have kn:=kn.call0 hu
   simp only[go_sem,Qhr]
   refine Qb rfl (fun hc2=>?_) (fun hc2=>?_)
   ·have hne:¬l[i]=l'[i]:=fun h=>(by rw[hx,hy]at h;rw[hrr.2 h]at hc2;simp at hc2)
    refine Qa ?_
    simp only[go_sem]
    refine Qg ?_
    simp only[go_sem,X.next,Qq,Qz,Quj,List.mem_singleton,forall_eq,RS.op]
    exact⟨_,.c _ _ (Qi rfl),hK _ _ (fiff (Qapd hlt hlt2 hne)) kn.fin⟩
   have hee:l[i]=l'[i]:=by rw[hx,hy];exact hrr.1 (by simpa using hc2)
   have kn:=Kn.drop (A:=[]) kn
   refine Qd ?_
   simp only[go_sem,AE.X.next]
   refine Qp ?_
   simp only[go_sem,AE.X.next]
   exact⟨Qr (by omega) (by omega),l.length-(i+1),by omega,i+1,rfl,by omega,Qr4 hpp hlt hlt2 hee,kn,rfl⟩
  ·intro hc
   have hie:l.length≤i:=by simpa using hc
   refine Qt ?_
   simp only[go_sem,AE.X.next]
   refine Qa ?_
   simp only[go_sem]
   refine Qg ?_
   simp only[go_sem,Qq,Qz,Quj,List.mem_singleton,forall_eq,RS.op]
   exact⟨_,.c _ _ (Qi rfl),hK _ _ (tiff (Q41 hpp hie hle)) kn.fin⟩
theorem Q46 {f:Nat}{l l':List St}{fl fl2:Bool}
  (hf:∀x∈l,∀(y:St) (H1:Heap) (K':V→Heap→Prop),(∀r H2,(r=true↔x=y)→Upd H1 H2 []→K' (.c (.bool r)) H2)→Ql prog f [.ag x.cells,.ag y.cells] H1 K')
  (hK:∀r H',(r=true↔l=l')→Upd H H' []→K (.c (.bool r)) H'):Ql prog Qbf [.c (.sl fl 5 (Qk l)),.c (.sl fl2 5 (Qk l')),.c (.fn f [])] H K:=by
 refine Qab ?_
 refine Qc Qah Q0a ?_
 refine Qa ?_
 simp only[go_sem]
 refine Qu ?_
 refine Qa ?_
 simp only[go_sem,Qo]
 intro hl hl2
 try intro _
 simp only[LIM]at hl hl2
 refine Qe (Qb rfl (fun hc=>?_) (fun hc=>?_))
 ·have hne:¬l.length=l'.length:=fun h=>by rw[h]at hc;simp at hc
  refine Qa ?_
  simp only[go_sem]
  refine Qg ?_
  simp only[go_sem,Qq,Qz,Quj,List.mem_singleton,forall_eq,RS.op]
  exact⟨_,.c _ _ (Qi rfl),hK _ _ (fiff (Qax7 hne)) (Kn.start0 H).fin⟩
 have hle:l.length=l'.length:=(by have:(l.length:Int)=l'.length:=(by simpa using hc);omega)
 refine Qd ?_
 try simp only[go_sem]
 refine Qu ?_
 refine Qa ?_
 simp only[go_sem,Qo]
 try intro _
 refine Qe (Qf (Qy (fun m e1 H1=>∃(i:Nat),m=l.length-i∧i≤l.length∧l.take i=l'.take i∧Kn H H1 [] []∧
  e1=[(1,.c (.sl fl2 5 (Qk l'))),(2,.c (.fn f [])),(15,.c (.sl fl 5 (Qk l))),(16,.c (.int .i64 l.length)),(17,.c (.int .i64 i))]) l.length ?_ ?_))
 ·exact⟨0,by omega,by omega,by simp,Kn.start0 H,rfl⟩
 ·rintro m e1 H1 ⟨i,hm,hi,hpp,kn,rfl⟩
  refine Qa ?_
  simp only[go_sem]
  refine Qe (Qb rfl ?_ ?_)
  ·intro hc
   have hlt:i<l.length:=by simpa using hc
   have hlt2:i<l'.length:=by omega
   obtain⟨x,hx⟩:∃x,l[i]=x:=⟨_,rfl⟩
   obtain⟨y,hy⟩:∃y,l'[i]=y:=⟨_,rfl⟩
   have hxm:x∈l:=by rw[←hx];exact List.getElem_mem hlt
   refine Qd ?_
   try simp only[go_sem]
   refine Qe (Qf ?_)
   refine Qa ?_
   simp only[go_sem,hlt,Qo,Q4 _ _ hlt,hx,x.cells_eq]
   intro x8 hx8 H3 h3
   have kn:=kn.al hx8 h3
   have g8:=kn.l 0 rfl
   simp only[go_sem,Qhs,g8]
   intro H4 h4
   have kn:=kn.stL 0 rfl h4
   have g8:=kn.l 0 rfl
   refine Qa ?_
   simp only[go_sem,hlt2,Qo,Q4 _ _ hlt2,hy,y.cells_eq]
   intro x9 hx9 H5 h5
   have kn:=kn.al hx9 h5
   have g9:=kn.l 1 rfl
   simp only[go_sem,Qht,g9]
   intro H6 h6
   have kn:=kn.stL 1 rfl h6
   have g8:=kn.l 0 rfl
   have g9:=kn.l 1 rfl
   refine Qa ?_
   simp only[go_sem,g8,g9]
   have hfx:=hf x hxm y H6
   simp only[x.cells_eq,y.cells_eq]at hfx
   refine hfx _ fun rr H7 hrr hu=>?_
   have kn:=kn.call0 hu
   simp only[go_sem,Qhu]
   refine Qb rfl (fun hc2=>?_) (fun hc2=>?_)
   ·have hne:¬l[i]=l'[i]:=fun h=>(by rw[hx,hy]at h;rw[hrr.2 h]at hc2;simp at hc2)
    refine Qa ?_
    simp only[go_sem]
    refine Qg ?_
    simp only[go_sem,X.next,Qq,Qz,Quj,List.mem_singleton,forall_eq,RS.op]
    exact⟨_,.c _ _ (Qi rfl),hK _ _ (fiff (Qapd hlt hlt2 hne)) kn.fin⟩
   have hee:l[i]=l'[i]:=by rw[hx,hy];exact hrr.1 (by simpa using hc2)
   have kn:=Kn.drop (A:=[]) kn
   refine Qd ?_
   simp only[go_sem,AE.X.next]
   refine Qp ?_
   simp only[go_sem,AE.X.next]
   exact⟨Qr (by omega) (by omega),l.length-(i+1),by omega,i+1,rfl,by omega,Qr4 hpp hlt hlt2 hee,kn,rfl⟩
  ·intro hc
   have hie:l.length≤i:=by simpa using hc
   refine Qt ?_
   simp only[go_sem,AE.X.next]
   refine Qa ?_
   simp only[go_sem]
   refine Qg ?_
   simp only[go_sem,Qq,Qz,Quj,List.mem_singleton,forall_eq,RS.op]
   exact⟨_,.c _ _ (Qi rfl),hK _ _ (tiff (Q41 hpp hie hle)) kn.fin⟩
theorem Qbcp {f:Nat}{l l':List Fn}{fl fl2:Bool}
  (hf:∀x∈l,∀(y:Fn) (H1:Heap) (K':V→Heap→Prop),(∀r H2,(r=true↔x=y)→Upd H1 H2 []→K' (.c (.bool r)) H2)→Ql prog f [.ag x.cells,.ag y.cells] H1 K')
  (hK:∀r H',(r=true↔l=l')→Upd H H' []→K (.c (.bool r)) H'):Ql prog Qgk [.c (.sl fl 3 (Qn l)),.c (.sl fl2 3 (Qn l')),.c (.fn f [])] H K:=by
 refine Qab ?_
 refine Qc Qah Q5x ?_
 refine Qa ?_
 simp only[go_sem]
 refine Qu ?_
 refine Qa ?_
 simp only[go_sem,Qw]
 intro hl hl2
 try intro _
 simp only[LIM]at hl hl2
 refine Qe (Qb rfl (fun hc=>?_) (fun hc=>?_))
 ·have hne:¬l.length=l'.length:=fun h=>by rw[h]at hc;simp at hc
  refine Qa ?_
  simp only[go_sem]
  refine Qg ?_
  simp only[go_sem,Qq,Qz,Quj,List.mem_singleton,forall_eq,RS.op]
  exact⟨_,.c _ _ (Qi rfl),hK _ _ (fiff (Qax7 hne)) (Kn.start0 H).fin⟩
 have hle:l.length=l'.length:=(by have:(l.length:Int)=l'.length:=(by simpa using hc);omega)
 refine Qd ?_
 try simp only[go_sem]
 refine Qu ?_
 refine Qa ?_
 simp only[go_sem,Qw]
 try intro _
 refine Qe (Qf (Qy (fun m e1 H1=>∃(i:Nat),m=l.length-i∧i≤l.length∧l.take i=l'.take i∧Kn H H1 [] []∧
  e1=[(1,.c (.sl fl2 3 (Qn l'))),(2,.c (.fn f [])),(15,.c (.sl fl 3 (Qn l))),(16,.c (.int .i64 l.length)),(17,.c (.int .i64 i))]) l.length ?_ ?_))
 ·exact⟨0,by omega,by omega,by simp,Kn.start0 H,rfl⟩
 ·rintro m e1 H1 ⟨i,hm,hi,hpp,kn,rfl⟩
  refine Qa ?_
  simp only[go_sem]
  refine Qe (Qb rfl ?_ ?_)
  ·intro hc
   have hlt:i<l.length:=by simpa using hc
   have hlt2:i<l'.length:=by omega
   obtain⟨x,hx⟩:∃x,l[i]=x:=⟨_,rfl⟩
   obtain⟨y,hy⟩:∃y,l'[i]=y:=⟨_,rfl⟩
   have hxm:x∈l:=by rw[←hx];exact List.getElem_mem hlt
   refine Qd ?_
   try simp only[go_sem]
   refine Qe (Qf ?_)
   refine Qa ?_
   simp only[go_sem,hlt,Qw,Qal _ _ hlt,hx,Fn.cells]
   intro x8 hx8 H3 h3
   have kn:=kn.al hx8 h3
   have g8:=kn.l 0 rfl
   simp only[go_sem,Qli,g8]
   intro H4 h4
   have kn:=kn.stL 0 rfl h4
   have g8:=kn.l 0 rfl
   refine Qa ?_
   simp only[go_sem,hlt2,Qw,Qal _ _ hlt2,hy,Fn.cells]
   intro x9 hx9 H5 h5
   have kn:=kn.al hx9 h5
   have g9:=kn.l 1 rfl
   simp only[go_sem,Qlj,g9]
   intro H6 h6
   have kn:=kn.stL 1 rfl h6
   have g8:=kn.l 0 rfl
   have g9:=kn.l 1 rfl
   refine Qa ?_
   simp only[go_sem,g8,g9]
   have hfx:=hf x hxm y H6
   simp only[Fn.cells]at hfx
   refine hfx _ fun rr H7 hrr hu=>?_
   have kn:=kn.call0 hu
   simp only[go_sem,Qlk]
   refine Qb rfl (fun hc2=>?_) (fun hc2=>?_)
   ·have hne:¬l[i]=l'[i]:=fun h=>(by rw[hx,hy]at h;rw[hrr.2 h]at hc2;simp at hc2)
    refine Qa ?_
    simp only[go_sem]
    refine Qg ?_
    simp only[go_sem,X.next,Qq,Qz,Quj,List.mem_singleton,forall_eq,RS.op]
    exact⟨_,.c _ _ (Qi rfl),hK _ _ (fiff (Qapd hlt hlt2 hne)) kn.fin⟩
   have hee:l[i]=l'[i]:=by rw[hx,hy];exact hrr.1 (by simpa using hc2)
   have kn:=Kn.drop (A:=[]) kn
   refine Qd ?_
   simp only[go_sem,AE.X.next]
   refine Qp ?_
   simp only[go_sem,AE.X.next]
   exact⟨Qr (by omega) (by omega),l.length-(i+1),by omega,i+1,rfl,by omega,Qr4 hpp hlt hlt2 hee,kn,rfl⟩
  ·intro hc
   have hie:l.length≤i:=by simpa using hc
   refine Qt ?_
   simp only[go_sem,AE.X.next]
   refine Qa ?_
   simp only[go_sem]
   refine Qg ?_
   simp only[go_sem,Qq,Qz,Quj,List.mem_singleton,forall_eq,RS.op]
   exact⟨_,.c _ _ (Qi rfl),hK _ _ (tiff (Q41 hpp hie hle)) kn.fin⟩
theorem Qbcq {f g:Bool}{ns ms:List (List UInt8)}(hK:∀r,(r=true↔ns=ms)→K (.c (.bool r)) H):Ql prog Qgl [.c (.sl f 1 (Q1 ns)),.c (.sl g 1 (Q1 ms))] H K:=by
 refine Qc Qah Q5y ?_
 refine Qa ?_
 simp only[go_sem]
 refine Qu ?_
 refine Qa ?_
 simp only[go_sem,Qv]
 intro hl hl2
 try intro _
 simp only[LIM]at hl hl2
 refine Qe (Qb rfl (fun hc=>?_) (fun hc=>?_))
 ·have hne:¬ns.length=ms.length:=fun h=>by rw[h]at hc;simp at hc
  refine Qa ?_
  simp only[go_sem]
  refine Qg ?_
  simp only[go_sem,Qq,Qz,Qat4,List.mem_singleton,forall_eq,RS.op]
  exact hK _ (fiff (Qax7 hne))
 have hle:ns.length=ms.length:=(by have:(ns.length:Int)=ms.length:=(by simpa using hc);omega)
 refine Qd ?_
 try simp only[go_sem]
 refine Qu ?_
 refine Qa ?_
 simp only[go_sem,Qv]
 try intro _
 refine Qe (Qf (Qy (fun m e1 H1=>∃(i:Nat),m=ns.length-i∧i≤ns.length∧ns.take i=ms.take i∧H1=H∧e1=[(0,.c (.sl f 1 (Q1 ns))),(1,.c (.sl g 1 (Q1 ms))),(12,.c (.int .i64 ns.length)),(13,.c (.int .i64 i))]) ns.length ?_ ?_))
 ·exact⟨0,by omega,by omega,by simp,rfl,rfl⟩
 ·rintro m e1 H1 ⟨i,hm,hi,hp,rfl,rfl⟩
  refine Qa ?_
  simp only[go_sem]
  refine Qe (Qb rfl ?_ ?_)
  ·intro hc
   have hlt:i<ns.length:=by simpa using hc
   have hlt2:i<ms.length:=by omega
   refine Qd ?_
   try simp only[go_sem]
   refine Qe (Qf ?_)
   refine Qa ?_
   simp only[go_sem]
   refine Qbg ?_
   simp only[go_sem,hlt,hlt2,Qv,Qbc _ _ hlt,Qbc _ _ hlt2]
   refine Qb rfl (fun hc2=>?_) (fun hc2=>?_)
   ·have hne:¬ns[i]=ms[i]:=by simpa[List.getElem?_eq_getElem hlt,List.getElem?_eq_getElem hlt2]using hc2
    refine Qa ?_
    simp only[go_sem]
    refine Qg ?_
    simp only[go_sem,X.next,Qq,Qz,Qat4,List.mem_singleton,forall_eq,RS.op]
    exact hK _ (fiff (Qapd hlt hlt2 hne))
   have hee:ns[i]=ms[i]:=by simpa[List.getElem?_eq_getElem hlt,List.getElem?_eq_getElem hlt2]using hc2
   refine Qd ?_
   try simp only[go_sem]
   refine Qp ?_
   simp only[go_sem,AE.X.next]
   exact⟨Qr (by omega) (by omega),ns.length-(i+1),by omega,i+1,rfl,by omega,Qr4 hp hlt hlt2 hee,rfl⟩
  ·intro hc
   have hie:ns.length≤i:=by simpa using hc
   refine Qt ?_
   simp only[go_sem,AE.X.next]
   refine Qa ?_
   simp only[go_sem]
   refine Qg ?_
   simp only[go_sem,Qq,Qz,Qat4,List.mem_singleton,forall_eq,RS.op]
   exact hK _ (tiff (Q41 hp hie hle))
theorem Qaph:∀(n:Nat) (x y:Ex) {H:Heap} {K:V→Heap→Prop},x.size≤n→(∀r H',(r=true↔x=y)→Upd H H' []→K (.c (.bool r)) H')→Ql prog Qit [.ag x.cells,.ag y.cells] H K:=by
 intro n
 induction n with
 |zero=>intro x y H K h;have:=x.size_pos;omega
 |succ n ih=>
 intro x y H K hn hK
 have hsz:=x.size_kids
 refine Qab ?_
 refine Qc Qah Qapo ?_
 have kn:=Kn.start0 H
 refine Qa ?_
 simp only[go_sem,x.cells_eq,y.cells_eq]
 have no:∀(H':Heap),¬x=y→Upd H H' []→K (.c (.bool false)) H':=fun H' h hu=>hK _ _ (fiff h) hu
 by_cases eop:x.op=y.op
 rotate_left
 ·have dop:decide (x.op=y.op)=false:=decide_eq_false eop
  refine Qa ?_
  simp only[go_sem,dop,Qde]
  refine Qg ?_
  simp only[go_sem,Qq,Qz,Qat4,List.mem_singleton,forall_eq,RS.op]
  exact⟨_,.c _ _ (Qi rfl),no _ (fun h=>eop (by rw[h])) kn.fin⟩
 have dop:decide (x.op=y.op)=true:=decide_eq_true eop
 by_cases en:x.n=y.n
 rotate_left
 ·have dn:decide (x.n=y.n)=false:=decide_eq_false en
  refine Qa ?_
  simp only[go_sem,dop,dn,Qde]
  refine Qg ?_
  simp only[go_sem,Qq,Qz,Qat4,List.mem_singleton,forall_eq,RS.op]
  exact⟨_,.c _ _ (Qi rfl),no _ (fun h=>en (by rw[h])) kn.fin⟩
 have dn:decide (x.n=y.n)=true:=decide_eq_true en
 by_cases ename:x.name=y.name
 rotate_left
 ·have dname:decide (x.name=y.name)=false:=decide_eq_false ename
  refine Qa ?_
  simp only[go_sem,dop,dn,dname,Qde]
  refine Qg ?_
  simp only[go_sem,Qq,Qz,Qat4,List.mem_singleton,forall_eq,RS.op]
  exact⟨_,.c _ _ (Qi rfl),no _ (fun h=>ename (by rw[h])) kn.fin⟩
 have dname:decide (x.name=y.name)=true:=decide_eq_true ename
 refine Qa ?_
 simp only[go_sem,dop,dn,dname]
 refine Qanj (fun z hz w H1 K' hK'=>ih z w (by have:=Qac hz;omega) hK') fun r0 H1 h0 hu=>?_
 have kn:=kn.call0 hu
 simp only[go_sem,Qde]
 refine Qg ?_
 simp only[go_sem,Qq,Qz,Qat4,List.mem_singleton,forall_eq,RS.op]
 refine⟨_,.c _ _ (Qi rfl),hK _ _ ⟨fun h=>?_,fun h=>h0.2 (by rw[h])⟩ kn.fin⟩
 have k0:=h0.1 h
 exact Ex.ext4 eop en ename k0
theorem Qapi:∀(n:Nat) (x y:St) {H:Heap} {K:V→Heap→Prop},x.size≤n→(∀r H',(r=true↔x=y)→Upd H H' []→K (.c (.bool r)) H')→Ql prog Qe3 [.ag x.cells,.ag y.cells] H K:=by
 intro n
 induction n with
 |zero=>intro x y H K h;have:=x.size_pos;omega
 |succ n ih=>
 intro x y H K hn hK
 have hsz:=x.size_eq
 refine Qab ?_
 refine Qc Qah Qapt ?_
 have kn:=Kn.start0 H
 refine Qa ?_
 simp only[go_sem,x.cells_eq,y.cells_eq]
 have no:∀(H':Heap),¬x=y→Upd H H' []→K (.c (.bool false)) H':=fun H' h hu=>hK _ _ (fiff h) hu
 by_cases eop:x.op=y.op
 rotate_left
 ·have dop:decide (x.op=y.op)=false:=decide_eq_false eop
  refine Qa ?_
  simp only[go_sem,dop,Qb2,Qb1,Qb0]
  refine Qg ?_
  simp only[go_sem,Qq,Qz,Qat4,List.mem_singleton,forall_eq,RS.op]
  exact⟨_,.c _ _ (Qi rfl),no _ (fun h=>eop (by rw[h])) kn.fin⟩
 have dop:decide (x.op=y.op)=true:=decide_eq_true eop
 by_cases ename:x.name=y.name
 rotate_left
 ·have dname:decide (x.name=y.name)=false:=decide_eq_false ename
  refine Qa ?_
  simp only[go_sem,dop,dname,Qb2,Qb1,Qb0]
  refine Qg ?_
  simp only[go_sem,Qq,Qz,Qat4,List.mem_singleton,forall_eq,RS.op]
  exact⟨_,.c _ _ (Qi rfl),no _ (fun h=>ename (by rw[h])) kn.fin⟩
 have dname:decide (x.name=y.name)=true:=decide_eq_true ename
 refine Qa ?_
 simp only[go_sem,dop,dname]
 refine Qanj (fun z hz w H1 K' hK'=>Qaph z.size z w (Nat.le_refl _) hK') fun r0 H1 h0 hu=>?_
 have kn:=kn.call0 hu
 cases r0 with
 |false=>
  simp only[go_sem,Qb2,Qb1,Qb0]
  refine Qg ?_
  simp only[go_sem,Qq,Qz,Qat4,List.mem_singleton,forall_eq,RS.op]
  exact⟨_,.c _ _ (Qi rfl),no _ (fun h=>by simpa using h0.2 (by rw[h])) kn.fin⟩
 |true=>
  simp only[go_sem,Qb2]
  refine Q46 (fun z hz w H1 K' hK'=>ih z w (by have:=Qak hz;omega) hK') fun r1 H2 h1 hu=>?_
  have kn:=kn.call0 hu
  cases r1 with
  |false=>
   simp only[go_sem,Qb2,Qb1,Qb0]
   refine Qg ?_
   simp only[go_sem,Qq,Qz,Qat4,List.mem_singleton,forall_eq,RS.op]
   exact⟨_,.c _ _ (Qi rfl),no _ (fun h=>by simpa using h1.2 (by rw[h])) kn.fin⟩
  |true=>
   simp only[go_sem,Qb1]
   refine Q46 (fun z hz w H1 K' hK'=>ih z w (by have:=Qak hz;omega) hK') fun r2 H3 h2 hu=>?_
   have kn:=kn.call0 hu
   simp only[go_sem,Qb0]
   refine Qg ?_
   simp only[go_sem,Qq,Qz,Qat4,List.mem_singleton,forall_eq,RS.op]
   refine⟨_,.c _ _ (Qi rfl),hK _ _ ⟨fun h=>?_,fun h=>h2.2 (by rw[h])⟩ kn.fin⟩
   have k0:=h0.1 rfl
   have k1:=h1.1 rfl
   have k2:=h2.1 h
   exact St.ext5 eop ename k0 k1 k2
theorem Qbkm {x y:Fn}(hK:∀r H',(r=true↔x=y)→Upd H H' []→K (.c (.bool r)) H'):Ql prog Qd1 [.ag x.cells,.ag y.cells] H K:=by
 refine Qab ?_
 refine Qc Qah Qxs ?_
 have kn:=Kn.start0 H
 refine Qa ?_
 simp only[go_sem,Fn.cells]
 have no:∀(H':Heap),¬x=y→Upd H H' []→K (.c (.bool false)) H':=fun H' h hu=>hK _ _ (fiff h) hu
 by_cases ename:x.name=y.name
 rotate_left
 ·have dname:decide (x.name=y.name)=false:=decide_eq_false ename
  refine Qa ?_
  simp only[go_sem,dname,Qbo,Qbn]
  refine Qg ?_
  simp only[go_sem,Qq,Qz,Qat4,List.mem_singleton,forall_eq,RS.op]
  exact⟨_,.c _ _ (Qi rfl),no _ (fun h=>ename (by rw[h])) kn.fin⟩
 have dname:decide (x.name=y.name)=true:=decide_eq_true ename
 refine Qa ?_
 simp only[go_sem,dname]
 refine Qbcq fun r0 h0=>?_
 cases r0 with
 |false=>
  simp only[go_sem,Qbo,Qbn]
  refine Qg ?_
  simp only[go_sem,Qq,Qz,Qat4,List.mem_singleton,forall_eq,RS.op]
  exact⟨_,.c _ _ (Qi rfl),no _ (fun h=>by simpa using h0.2 (by rw[h])) kn.fin⟩
 |true=>
  simp only[go_sem,Qbo]
  refine Q46 (fun z hz w H1 K' hK'=>Qapi z.size z w (Nat.le_refl _) hK') fun r1 H2 h1 hu=>?_
  have kn:=kn.call0 hu
  simp only[go_sem,Qbn]
  refine Qg ?_
  simp only[go_sem,Qq,Qz,Qat4,List.mem_singleton,forall_eq,RS.op]
  refine⟨_,.c _ _ (Qi rfl),hK _ _ ⟨fun h=>?_,fun h=>h1.2 (by rw[h])⟩ kn.fin⟩
  have k0:=h0.1 rfl
  have k1:=h1.1 h
  exact Fn.ext3 ename k0 k1
theorem Q5j {f g:Bool}{gns:List Fn}(hK:∀r H',(r=true↔fns=gns)→Upd H H' []→K (.c (.bool r)) H'):Ql prog Qga [.ag [.sl f 3 (Qn fns)],.ag [.sl g 3 (Qn gns)]] H K:=by
 refine Qc Qah Q5q ?_
 refine Qa ?_
 simp only[go_sem]
 refine Qa ?_
 simp only[go_sem]
 refine Qbcp (fun x hx y H1 K' hK'=>Qbkm hK') fun r H1 hr hu=>?_
 simp only[go_sem,Qlb]
 refine Qg ?_
 simp only[go_sem,Qq,Qz,Qat4,List.mem_singleton,forall_eq,RS.op]
 exact hK _ _ hr hu
end Go.AE.Y

namespace Go.AE.Y
attribute [local go_sem] cond_true cond_false Bool.not_true Bool.not_false
open Go.Proofs.Tryz
variable {H H0:Heap}{K:V→Heap→Prop}{L E:List (Nat×Obj)}{fns:List Fn}
theorem Qa4v {fl:Bool}(hp:∀f∈fns,f.params.length≤2^38)(hK:∀H' L cs,Kn H H' [] L→OwL L cs [.sl false 3 (Qn fns)]→K (.ag cs) H'):Ql prog Qgd [.ag [.sl fl 3 (Qn fns)]] H K:=by
 refine Qc Qah Q5u ?_
 refine Qa ?_
 simp only[go_sem]
 intro x2 hx2 H1 h1
 have kn:=(Kn.start0 H).al hx2 h1
 refine Qa ?_
 simp only[go_sem]
 refine Qa3n (g:=id) (caps:=[]) (fun f hfm H4 K' hke hK'=>Qa4g (hp f hfm) hK') fun H4 L t k2 ho=>?_
 rw[List.map_id]at ho
 have kn:=kn.comp0 k2
 have g2:=kn.l 0 rfl
 have hto:=ho.isOw
 simp only[go_sem,Qld,g2,hto]
 intro H4 h4
 have kn:=kn.stL 0 rfl h4
 have g2:=kn.l 0 rfl
 refine Qg ?_
 simp only[go_sem,Qq,Qz,Qa3u,List.mem_singleton,forall_eq,RS.op,g2,hto]
 exact hK _ L _ (kn.sub (List.sublist_append_right [_] _)) ho.one
theorem Qa81 (h:FineP fns){fl:Bool}(gk:GK H)(hsz:Qs fns≤2^38)(hK:∀H' L x,Kn H H' [] L→OwV L x (.tup [.ag [.sl false 3 (Qn (foldA fns))],.c (.bool true)])→K x H') :
  Ql prog Qej [.ag [.sl fl 3 (Qn fns)]] H K:=Qa80 h gk hsz fun H' L cs kn ho=>hK H' L _ kn (show OwL L (.bool true::cs) _ from .atom rfl ho)
theorem Qbdt (h:FineP fns){fl:Bool}(gk:GK H)(hsz:Qs fns≤2^38)(hK:∀H' L x,Kn H H' [] L→OwV L x (.tup [.ag [.sl false 3 (Qn (cutA fns))],.c (.bool true)])→K x H') :
  Ql prog Qe9 [.ag [.sl fl 3 (Qn fns)]] H K:=Qbds h gk hsz fun H' L cs kn ho=>hK H' L _ kn (show OwL L (.bool true::cs) _ from .atom rfl ho)
theorem Qa4q (h:FineP fns):Qs (foldA fns)≤Qs fns:=by
 have h1:=Q3f (F:=Fn.foldF) (fun f=>⟨rfl,rfl⟩) fns fun f hf=>Qef _ _ (h.bodies f hf)
 rcases h1 with h1|h1
 ·rw[show foldA fns=fns from h1];exact Nat.le_refl _
 ·exact Nat.le_of_lt h1
def simR (fns:List Fn):List (List C):=Qn (if Qz3 fns then simX fns else [])
theorem Q8o {fl:Bool}(hsz:Qs fns≤2^36)(gk0:GK H)(hK:∀H' L x,Kn H H' [] L→OwV L x (.tup [.ag [.sl false 3 (simR fns)],.c (.bool (Qz3 fns))])→K x H') :
  Ql prog Qbe [.ag [.sl fl 3 (Qn fns)]] H K:=by
 refine Qc Qah Qz8 ?_
 refine Qa ?_
 simp only[go_sem]
 intro x2 hx2 H1 h1
 have kn:=(Kn.start0 H).al hx2 h1
 have gk:=gk0.kn kn
 simp only[go_sem,Qhe]
 refine Qu ?_
 refine Qa ?_
 simp only[go_sem]
 refine Qapf (by omega) gk fun H2 hu=>?_
 have kn:=kn.call0 hu
 have gk:=gk0.kn kn
 have g2:=kn.l 0 rfl
 simp only[go_sem,Qhf]
 refine Qe (Qb rfl ?_ ?_)
 ·intro hc
  have hb:Qz3 fns=false:=by simpa using hc
  refine Qa ?_
  simp only[go_sem,g2]
  intro H3 h3
  have kn:=kn.stL 0 rfl h3
  have g2:=kn.l 0 rfl
  simp only[go_sem,Qhg]
  refine Qg ?_
  simp only[go_sem,AE.X.next,Qq,Qz,Qfh,List.forall_mem_cons,List.not_mem_nil,RS.op,g2]
  simp only[simR,hb]at hK
  exact⟨fun _=>trivial,hK _ [] _ (kn.sub (List.nil_sublist _)) (.atom rfl (.sln .nil))⟩
 intro hc
 have hb:Qz3 fns=true:=by simpa using hc
 have hg:=fine_iff.1 hb
 simp only[simR,hb,if_true]at hK
 refine Qd ?_
 try simp only[go_sem]
 refine Qa ?_
 simp only[go_sem]
 refine Qa4v (fun f hf=>(Qxc hg f hf).2) fun H3 L cs k2 hoa=>?_
 obtain⟨t,rfl,ho⟩:=hoa.inv_one
 have hto:=ho.isOw
 have kn:=kn.comp0 k2
 simp only[go_sem,Qhi,hto]
 intro x4 hx4 H4 h4
 have kn:=(kn.al hx4 h4).swap
 have g4:=kn.l 1 rfl
 simp only[go_sem,Qhh,g4,hto]
 intro H5 h5
 have kn:Kn H H5 [] ([(x2,.st [.sl true 3 []]),(x4,.st [t])]++L):=kn.stL 1 rfl h5
 refine Qf (Qy (fun m e1 H1=>∃(now:List Fn) (L:List (Nat×Obj)) (t:C) (x4:Nat),m=Qs now∧FineP now∧Qs now≤Qs fns∧simX now=simX fns∧OwS L 3 (Qn now) t∧
  Kn H H1 [] ([(x2,.st [.sl true 3 []]),(x4,.st [t])]++L)∧e1=[(2,.c (.ptr x2 0)),(4,.c (.ptr x4 0))]) (Qs fns) ?_ ?_)
 ·exact⟨fns,L,t,x4,rfl,hg,Nat.le_refl _,rfl,ho,kn,rfl⟩
 ·rintro m e1 H1 ⟨now,L,t,x4,rfl,hn,hns,hnx,ho,kn,rfl⟩
  have hto:=ho.isOw
  have g2:=kn.l 0 rfl
  have g4:=kn.l 1 rfl
  have gk:=gk0.kn kn
  refine Qe (Qf ?_)
  refine Qa ?_
  simp only[go_sem,g4,hto]
  refine Qqe (x':=.tup [.ag [.sl false 3 (Qn (foldA now))],.c (.bool true)]) (lntL L) (args':=[.ag [.sl false 3 (Qn now)]]) rfl (Qax5 (ho.lend fun p hp=>(kn.get p (by simp[hp])).1)) (fun K' hk=>Qa81 hn gk.hideG (by omega) hk) fun H2 L5 x k2 hx=>?_
  obtain⟨t5,rfl,ho5⟩:=hx.tup1
  have ht5:=ho5.isOw
  have kn:=kn.comp0 k2
  have hnf:=Qxj hn
  have hnfs:=Qa4q hn
  simp only[go_sem,Qhl,List.getD_cons_zero,List.getD_cons_succ,ht5]
  intro x5 hx5 H3 h3
  have kn:Kn H H3 [] ([(x2,.st [.sl true 3 []]),(x4,.st [t]),(x5,_)]++L++L5):=(kn.al hx5 h3).perm (by
   simp only[List.append_assoc,List.cons_append,List.nil_append]
   refine .cons _ (.cons _ ?_)
   rw[←List.append_assoc]
   exact List.perm_append_comm)
  have g5:=kn.l 2 rfl
  simp only[go_sem,Qhk,g5,ht5]
  intro H4 h4
  have kn:Kn H H4 [] ([(x2,.st [.sl true 3 []]),(x4,.st [t]),(x5,.st [t5])]++L++L5):=kn.stL 2 rfl h4
  have g5:=kn.l 2 rfl
  simp only[go_sem,Qhj]
  refine Qu ?_
  refine Qa ?_
  simp only[go_sem]
  refine Qe (Qb rfl ?_ (fun h=>by simp at h))
  intro _
  refine Qa ?_
  simp only[go_sem,g5,ht5]
  have gk:=gk0.kn kn
  refine Qqe (x':=.tup [.ag [.sl false 3 (Qn (Q4v now))],.c (.bool true)]) (lntL L5) (args':=[.ag [.sl false 3 (Qn (foldA now))]]) rfl (Qax5 (ho5.lend fun p hp=>(kn.get p (by simp[hp])).1)) (fun K' hk=>Qbdt hnf gk.hideG (by omega) hk) fun H5 L6 x k2 hx=>?_
  obtain⟨t6,rfl,ho6⟩:=hx.tup1
  have ht6:=ho6.isOw
  have kn:=kn.comp0 k2
  have g5:=kn.l 2 rfl
  simp only[go_sem,Qg0,List.getD_cons_zero,List.getD_cons_succ,g5,ht6]
  intro H6 h6
  have kn:Kn H H6 [] ([(x2,.st [.sl true 3 []]),(x4,.st [t]),(x5,.st [t6])]++L++L5++L6):=kn.stL 2 rfl h6
  have kn:Kn H H6 [] ([(x2,.st [.sl true 3 []]),(x4,.st [t]),(x5,.st [t6])]++L++L6):=kn.sub (by
   simp only[List.append_assoc]
   exact ((List.sublist_append_right L5 L6).append_left L).append_left _)
  have g2:=kn.l 0 rfl
  have g4:=kn.l 1 rfl
  have g5:=kn.l 2 rfl
  simp only[go_sem,Qhm]
  refine Qu ?_
  refine Qa ?_
  simp only[go_sem,g4,g5,hto,ht6]
  obtain⟨b,hb2⟩:∃b:Bool,(b=true↔Q4v now=now):=by
   by_cases h:Q4v now=now
   ·exact⟨true,tiff h⟩
   ·exact⟨false,fiff h⟩
  refine Qeh (v:=.c (.bool b)) (lntL (L6++L)) (args':=[.ag [.sl false 3 (Qn (Q4v now))],.ag [.sl false 3 (Qn now)]]) rfl (Qax6 ?_ ?_) rfl (fun K' hk=>Q5j fun r H' hr hu=>by
    rw[Bool.eq_iff_iff.2 (hr.trans hb2.symm)];exact hk _ hu) ?_
  ·exact (ho6.one.frz (S:=lntL (L6++L)) fun p hp=>⟨(kn.get p (by simp[hp])).1,Qapl (by simp[hp])⟩).ag
  ·exact (ho.one.frz (S:=lntL (L6++L)) fun p hp=>⟨(kn.get p (by simp[hp])).1,Qapl (by simp[hp])⟩).ag
  simp only[go_sem,Qg1]
  refine Qe (Qb rfl ?_ ?_)
  ·intro hc
   have he:Q4v now=now:=hb2.1 (by simpa using hc)
   refine Qa ?_
   simp only[go_sem,g4,g2,hto]
   intro H7 h7
   have kn:Kn H H7 [] ([(x2,.st [t]),(x4,.st [t]),(x5,.st [t6])]++L++L6):=kn.stL 0 rfl h7
   have g2:=kn.l 0 rfl
   simp only[go_sem,Qg2]
   refine Qg ?_
   simp only[go_sem,AE.X.next,Qq,Qz,Qfh,List.forall_mem_cons,List.not_mem_nil,RS.op,g2,hto]
   have hx:simX fns=now:=by rw[←hnx];exact Qrv he _
   rw[hx]at hK
   exact⟨fun _=>trivial,hK _ L _ (kn.sub ((List.sublist_append_right _ _).trans (List.sublist_append_left _ _))) (show OwL L [.bool true,t] _ from .atom rfl ho.one)⟩
  ·intro hc
   have he:¬Q4v now=now:=fun h=>by rw[hb2.2 h]at hc;simp at hc
   have hlt:=(Qwy hn).resolve_left he
   refine Qd ?_
   try simp only[go_sem]
   refine Qp ?_
   simp only[go_sem,AE.X.next,g4,g5,ht6]
   intro H7 h7
   have kn:Kn H H7 [] ([(x2,.st [.sl true 3 []]),(x4,.st [t6]),(x5,.st [t6])]++L++L6):=kn.stL 1 rfl h7
   have g4:=kn.l 1 rfl
   refine Qa ?_
   simp only[go_sem,g4,ht6]
   refine Qp ?_
   simp only[go_sem]
   intro y4 hy4 H8 h8
   have kn:=(Kn.al (kn.sub (L':=[(x2,.st [.sl true 3 []])]++L6) (by
    simp only[List.append_assoc,List.cons_append,List.nil_append]
    exact .cons_cons _ (.cons _ (.cons _ (List.sublist_append_right _ _))))) hy4 h8).swap
   have g4:=kn.l 1 rfl
   simp only[go_sem,Qg3,g4,ht6]
   intro H9 h9
   have kn:=kn.stL 1 rfl h9
   simp only[go_sem,AE.X.next]
   exact⟨Qs (Q4v now),hlt,Q4v now,L6,t6,y4,rfl,Qwx hn,by omega,by rw[Qaw3 hn,hnx],ho6,kn,rfl⟩
end Go.AE.Y

namespace Go.AE.Y
open Go.Proofs.Tryz
def Qaok:List Item:=[mJ 6 33,zJ 7 0]
def Qaol:List Item:=[mJ 6 39,zJ 7 0]
def Qbbm:SC:=cT 34 (sR (mJ 36 1::mJ 37 2::bJ 38 .eql 36 37::aJ 39 Qh8 [.t 38]::Qaol) [6,7] .ret) .skip
def Qbbn:SC:=cT 28 (sR (mJ 30 1::mJ 31 2::bJ 32 .lss 30 31::aJ 33 Qh8 [.t 32]::Qaok) [6,7] .ret) (sR [cJ 35 .eql 8 9,mJ 34 35] [0,1,2,34] Qbbm)
def Qbbo:SC:=cT 22 (sR [mJ 24 1,mJ 25 2,bJ 26 .mul 24 25,cJ 27 .rem 26 256,mJ 6 27,zJ 7 0] [6,7] .ret) (sR [cJ 29 .eql 8 8,mJ 28 29] [0,1,2,8,28] Qbbn)
def Qbbp:SC:=cT 15 (sR [mJ 17 1,mJ 18 2,bJ 19 .sub 17 18,cJ 20 .add 19 256,cJ 21 .rem 20 256,mJ 6 21,zJ 7 0] [6,7] .ret) (sR [cJ 23 .eql 8 5,mJ 22 23] [0,1,2,8,22] Qbbo)
def Qbbq:SC:=cT 9 (sR [mJ 11 1,mJ 12 2,bJ 13 .add 11 12,cJ 14 .rem 13 256,mJ 6 14,zJ 7 0] [6,7] .ret) (sR [cJ 16 .eql 8 4,mJ 15 16] [0,1,2,8,15] Qbbp)
def Qbbr:SC:=.block 0 (sR [cJ 10 .eql 8 3,mJ 9 10] [0,1,2,8,9] Qbbq)
def Qbbs:SC:=cT 41 (sR [zJ 6 0,zJ 7 1] [6,7] .ret) .skip
def Qbbt:SC:=cT 43 (sR [mJ 44 1,mJ 45 2,bJ 46 .quo 44 45,mJ 6 46,zJ 7 0] [6,7] .ret) .skip
def Qa6i:SC:=sR [mJ 47 1,mJ 48 2,bJ 49 .rem 47 48,mJ 6 49,zJ 7 0] [6,7] .ret
def Qa6j:SC:=.seq (sR [mJ 42 0,cJ 43 .eql 42 6] [1,2,43] Qbbt) Qa6i
def Qa6k:SC:=.seq (sR [mJ 40 2,cJ 41 .eql 40 0] [0,1,2,41] Qbbs) Qa6j
def Qa6l:SC:=.seq (sR [mJ 8 0] [0,1,2,8] Qbbr) Qa6k
def Qbim:SC:=sR [zJ 6 0,zJ 7 0] [0,1,2] Qa6l
theorem Qbic:mFn prog Qao7 3 50 Qbim Ql6=true:=by kernel_rfl
end Go.AE.Y

namespace Go.AE.Y
attribute [local go_sem] cond_true cond_false Bool.not_true Bool.not_false
open Go.Proofs.Tryz
variable {H H' H0:Heap}{K:V→Heap→Prop}
theorem Qbiy {p:Prop} [Decidable p]:(if decide p=true then (1:Int)else 0)=trI p:=by simp[trI]
def twI (r:Option Int):Int×Int:=match r with
 |some z=>(z,0)
 |none=>(0,1)
theorem Qbed {op a b:Int}(ha:byI a)(hb:byI b)(h3:3≤op)(h9:op≤9)(hK:K (.tup [.c (.int .i64 (twI (arR op a b)).1),.c (.int .i64 (twI (arR op a b)).2)]) H) :
  Ql prog Qao7 [.c (.int .i64 op),.c (.int .i64 a),.c (.int .i64 b)] H K:=by
 obtain⟨a0,a1⟩:=ha
 obtain⟨b0,b1⟩:=hb
 refine Qc Qah Qbic ?_
 have retf:∀(v t:Int) (e:Env),twI (arR op a b)=(v,t)→lk 6 e=.c (.int .i64 v)→lk 7 e=.c (.int .i64 t)→Qq Ql6 K .ret e H:=by
  intro v t e h1 h2 h3
  simp only[go_sem,Qq,Qz,Ql6,RS.op,h2,h3]
  rw[h1]at hK
  exact hK
 refine Qa ?_
 simp only[go_sem]
 refine Qu ?_
 refine Qa ?_
 simp only[go_sem]
 refine Qe (Qf ?_)
 refine Qa ?_
 simp only[go_sem]
 refine Qb rfl (fun hc=>?_) (fun hc=>?_)
 ·have ho:op=3:=of_decide_eq_true hc
  subst ho
  refine Qa ?_
  simp only[go_sem]
  refine⟨Qr (by omega) (by omega),by omega,?_⟩
  refine Qg ?_
  simp only[go_sem]
  refine retf _ _ _ ?_ rfl rfl
  rw[Qaaa (by omega)];rfl
 have n3:=of_decide_eq_false hc
 refine Qa ?_
 simp only[go_sem]
 refine Qb rfl (fun hc=>?_) (fun hc=>?_)
 ·have ho:op=4:=of_decide_eq_true hc
  subst ho
  refine Qa ?_
  simp only[go_sem]
  refine⟨Qr (by omega) (by omega),Qr (by omega) (by omega),by omega,?_⟩
  refine Qg ?_
  simp only[go_sem]
  refine retf _ _ _ ?_ rfl rfl
  rw[Qaaa (by omega)];rfl
 have n4:=of_decide_eq_false hc
 refine Qa ?_
 simp only[go_sem]
 refine Qb rfl (fun hc=>?_) (fun hc=>?_)
 ·have ho:op=5:=of_decide_eq_true hc
  subst ho
  have hab:0≤a * b:=Int.mul_nonneg a0 b0
  have hab2:a * b≤255 * 255:=Int.mul_le_mul a1 b1 b0 (by omega)
  refine Qa ?_
  simp only[go_sem]
  refine⟨Qr (by omega) (by omega),by omega,?_⟩
  refine Qg ?_
  simp only[go_sem]
  refine retf _ _ _ ?_ rfl rfl
  rw[Qaaa hab];rfl
 have n5:=of_decide_eq_false hc
 refine Qa ?_
 simp only[go_sem]
 refine Qb rfl (fun hc=>?_) (fun hc=>?_)
 ·have ho:op=8:=of_decide_eq_true hc
  subst ho
  refine Qa ?_
  simp only[go_sem]
  refine Q3a ?_
  rw[Qbiy]
  simp only[go_sem,Qaok]
  refine Qg ?_
  simp only[go_sem]
  exact retf _ _ _ rfl rfl rfl
 have n8:=of_decide_eq_false hc
 refine Qa ?_
 simp only[go_sem]
 refine Qb rfl (fun hc=>?_) (fun hc=>?_)
 ·have ho:op=9:=of_decide_eq_true hc
  subst ho
  refine Qa ?_
  simp only[go_sem]
  refine Q3a ?_
  rw[Qbiy]
  simp only[go_sem,Qaol]
  refine Qg ?_
  simp only[go_sem]
  exact retf _ _ _ rfl rfl rfl
 have n9:=of_decide_eq_false hc
 refine Qd ?_
 try simp only[go_sem,AE.X.next]
 have h67:op=6∨op=7:=by omega
 refine Qu ?_
 refine Qa ?_
 simp only[go_sem]
 refine Qe (Qb rfl (fun hc=>?_) (fun hc=>?_))
 ·have hb:b=0:=of_decide_eq_true hc
  subst hb
  refine Qa ?_
  simp only[go_sem]
  refine Qg ?_
  simp only[go_sem]
  rcases h67 with rfl|rfl <;> exact retf _ _ _ rfl rfl rfl
 have hb:¬b=0:=of_decide_eq_false hc
 refine Qd ?_
 try simp only[go_sem]
 refine Qu ?_
 refine Qa ?_
 simp only[go_sem]
 refine Qe (Qb rfl (fun hc=>?_) (fun hc=>?_))
 ·have ho:op=6:=of_decide_eq_true hc
  subst ho
  have hd1:0≤a / b:=Int.ediv_nonneg a0 b0
  have hd2:a / b≤a:=Int.ediv_le_self _ a0
  refine Qa ?_
  simp only[go_sem]
  refine⟨⟨hb,by rw[Qa35 a0];exact Qr (by omega) (by omega)⟩,?_⟩
  refine Qg ?_
  simp only[go_sem]
  refine retf _ _ _ ?_ rfl rfl
  rw[Qa35 a0,arR];simp[hb,twI]
 ·have ho:op=7:=by have:=of_decide_eq_false hc;omega
  subst ho
  refine Qd ?_
  try simp only[go_sem]
  refine Qa ?_
  simp only[go_sem]
  refine⟨hb,?_⟩
  refine Qg ?_
  try simp only[go_sem]
  refine retf _ _ _ ?_ rfl rfl
  rw[Qaaa a0,arR];simp[hb,twI]
theorem Qatd {x:Ex}(h1:x.op=1){f g:Bool}(hK:K (.tup [.c (.int .i64 x.n),.c (.int .i64 0)]) H):Ql prog Qme [.ag x.cells,.c (.sl f 1 []),.c (.sl g 1 [])] H K:=by
 refine Qc Qah Qa3m ?_
 refine Qa ?_
 simp only[go_sem,x.cells_eq]
 refine Qu ?_
 refine Qa ?_
 simp only[go_sem]
 refine Qe (Qf ?_)
 refine Qa ?_
 simp only[go_sem]
 refine Qb rfl (fun hc=>?_) (fun hc=>by simp[h1]at hc)
 refine Qa ?_
 simp only[go_sem]
 refine Qg ?_
 simp only[go_sem,AE.X.next,Qq,Qz,Ql6,RS.op]
 exact hK
theorem Qa9h {op n:Int}{nm:List UInt8}{a b:Ex}(h1:a.op=1)(h2:b.op=1)(ha:byI a.n)(hb:byI b.n)(h3:3≤op)(h10:op≤10){f g:Bool}
  (hK:K (.tup [.c (.int .i64 (twI (arF op a.n b.n)).1),.c (.int .i64 (twI (arF op a.n b.n)).2)]) H):Ql prog Qme [.ag (Ex.mk op n nm [a,b]).cells,.c (.sl f 1 []),.c (.sl g 1 [])] H K:=by
 have n1:decide (op=1)=false:=decide_eq_false (by omega)
 have n2:decide (op=2)=false:=decide_eq_false (by omega)
 have n11:decide (op=11)=false:=decide_eq_false (by omega)
 have hl:(Qm [a,b]).length=2:=by rw[Qh];rfl
 have g0:(Qm [a,b]).getD 0 []=a.cells:=by simp only[Qm];rfl
 have g1:(Qm [a,b]).getD 1 []=b.cells:=by simp only[Qm];rfl
 refine Qc Qah Qa3m ?_
 refine Qa ?_
 simp only[go_sem,Ex.cells_eq,Ex.op,Ex.n,Ex.name,Ex.kids]
 refine Qu ?_
 refine Qa ?_
 simp only[go_sem]
 refine Qe (Qf ?_)
 refine Qa ?_
 simp only[go_sem,n1]
 refine Qb rfl (fun hc=>by simp at hc) (fun _=>?_)
 refine Qa ?_
 simp only[go_sem,n2]
 refine Qb rfl (fun hc=>by simp at hc) (fun _=>?_)
 refine Qd ?_
 simp only[go_sem,AE.X.next]
 refine Qa ?_
 simp only[go_sem,hl,g0,Ex.take4,Ex.allOw,Ex.cells_len]
 refine⟨by omega,Qatd h1 ?_⟩
 simp only[go_sem,Qah2,List.getD_cons_zero,List.getD_cons_succ]
 refine Qu ?_
 refine Qa ?_
 simp only[go_sem]
 refine Qe (Qb rfl (fun hc=>by simp at hc) (fun _=>?_))
 refine Qd ?_
 try simp only[go_sem]
 refine Qu ?_
 refine Qa ?_
 simp only[go_sem,n11]
 refine Qe (Qb rfl (fun hc=>by simp at hc) (fun _=>?_))
 refine Qd ?_
 try simp only[go_sem]
 refine Qu ?_
 have rest:∀q:V,Qae prog Qah1 (Qq Ql6 K) [(1,.c (.sl f 1 [])),(2,.c (.sl g 1 [])),(3,.c (.pp [.int .i64 op,.int .i64 n,.str nm,.sl false 4 (Qm [a,b])])),(9,.c (.int .i64 a.n)),(10,.c (.int .i64 0)),(63,q)] H∨(op=10∧a.n=0):=by
  intro q
  by_cases hz:op=10∧a.n=0
  ·exact .inr hz
  left
  refine Qa ?_
  simp only[go_sem,hl,g1,Ex.take4,Ex.allOw,Ex.cells_len]
  refine⟨by omega,Qatd h2 ?_⟩
  simp only[go_sem,Q9n,List.getD_cons_zero,List.getD_cons_succ]
  refine Qu ?_
  refine Qa ?_
  simp only[go_sem]
  refine Qe (Qb rfl (fun hc=>by simp at hc) (fun _=>?_))
  refine Qd ?_
  try simp only[go_sem]
  refine Qu ?_
  by_cases ho:op=10
  ·subst ho
   have ha0:¬a.n=0:=fun h=>hz ⟨rfl,h⟩
   refine Qa ?_
   simp only[go_sem]
   refine Qe (Qb rfl (fun _=>?_) (fun hc=>by simp at hc))
   refine Qa ?_
   simp only[go_sem]
   refine Q3a ?_
   simp only[go_sem,Q9o]
   refine Qg ?_
   simp only[go_sem,AE.X.next,Qq,Qz,Ql6,RS.op]
   have e:twI (arF 10 a.n b.n)=((if (!decide (b.n=0))=true then 1 else 0),0):=by
    rw[arF,if_pos rfl,twI,trI]
    by_cases hb0:b.n=0 <;> simp[ha0,hb0]
   rw[e]at hK
   exact hK
  ·have n10:decide (op=10)=false:=decide_eq_false ho
   refine Qa ?_
   simp only[go_sem,n10]
   refine Qe (Qb rfl (fun hc=>by simp at hc) (fun _=>?_))
   refine Qd ?_
   try simp only[go_sem]
   refine Qa ?_
   simp only[go_sem]
   refine Qbed ha hb h3 (by omega) ?_
   simp only[go_sem,Q9p,List.getD_cons_zero,List.getD_cons_succ]
   refine Qg ?_
   simp only[go_sem,AE.X.next,Qq,Qz,Ql6,RS.op]
   rw[arF,if_neg ho]at hK
   exact hK
 cases n10:decide (op=10)with
 |false=>
  have ho:¬op=10:=of_decide_eq_false n10
  refine Qa ?_
  simp only[go_sem,n10]
  refine Qe (Qb rfl (fun hc=>by simp at hc) (fun _=>?_))
  refine Qd ?_
  try simp only[go_sem]
  exact (rest _).resolve_right fun h=>ho h.1
 |true=>
  have ho:op=10:=of_decide_eq_true n10
  refine Qa ?_
  simp only[go_sem,n10]
  refine Qe (Qb rfl (fun hc=>?_) (fun hc=>?_))
  ·have ha0:a.n=0:=by simpa using hc
   refine Qa ?_
   simp only[go_sem]
   refine Qg ?_
   simp only[go_sem,AE.X.next,Qq,Qz,Ql6,RS.op]
   have e:twI (arF op a.n b.n)=(0,0):=by rw[arF,if_pos ho,twI,trI];simp[ha0]
   rw[e]at hK
   exact hK
  ·have ha0:¬a.n=0:=by simpa using hc
   refine Qd ?_
   try simp only[go_sem]
   exact (rest _).resolve_right fun h=>ha0 h.2
end Go.AE.Y

namespace Go.AE.Y
attribute [local go_sem] cond_true cond_false Bool.not_true Bool.not_false
open Go.Proofs.Tryz
variable {H H' H0:Heap}{K:V→Heap→Prop}
theorem fzE {S:Nat→Bool}(x:Ex):FrzV H S (.ag x.cells) (.ag x.cells):=by
 rw[x.cells_eq]
 exact (FrzL.cons (Qi rfl) (.cons (Qi rfl) (.cons (Qi rfl) (.cons (Y.FrzR.same (Qbp _)).sl .nil)))).ag
theorem Qa9j {op n:Int}{nm:List UInt8}{kids:List Ex}(hq:¬(3≤op∧op≤10))(h11:op≠11)
  (hK:∀H',Upd H H' []→K (.ag (Ex.mk op n nm kids).cells) H'):Ql prog Qoo [.ag (Ex.mk op n nm kids).cells] H K:=by
 have n11:decide (op=11)=false:=decide_eq_false h11
 have i310:decide ((3:Int)≤op∧op≤10)=false:=decide_eq_false hq
 refine Qab ?_
 refine Qc Qah Qapx ?_
 refine Qa ?_
 simp only[go_sem,Ex.cells_eq,Ex.op,Ex.n,Ex.name,Ex.kids]
 intro x2 hx2 H1 h1
 have kn:=(Kn.start0 H).al hx2 h1
 refine Qu ?_
 refine Qa ?_
 cases hl:decide ((kids.length:Int)=1)
 all_goals
  simp only[go_sem,Qh,hl,n11]
  try intro _
  refine Qe (Qb rfl (fun h=>by simp[lk]at h) (fun _=>?_))
  refine Qd ?_
  try simp only[go_sem]
  refine Qu ?_
  refine Qa ?_
  simp only[go_sem]
  refine Qae0 ?_
  simp only[go_sem,Q08,i310]
  refine Qe (Qb rfl (fun _=>?_) (fun h=>by simp[lk]at h))
  have g2:=kn.l 0 rfl
  refine Qa ?_
  simp only[go_sem,g2]
  intro H2 h2
  have kn:=kn.stL 0 rfl h2
  have g2:=kn.l 0 rfl
  refine Qg ?_
  simp only[go_sem,Qq,Qz,Qy7,List.mem_singleton,forall_eq,RS.op,g2]
  have:=fzE (H:=H2) (S:=un H) (Ex.mk op n nm kids)
  have hk:=hK _ kn.fin
  simp only[Ex.cells_eq,Ex.op,Ex.n,Ex.name,Ex.kids]at this hk
  exact⟨_,this,hk⟩
theorem Qa9l {n:Int}{nm:List UInt8}{a:Ex}{d:Int}(hf:(Ex.mk 11 n nm [a]).form d=true)
  (hK:∀H',Upd H H' []→K (.ag (Qa4 11 n nm [a]).cells) H'):Ql prog Qoo [.ag (Ex.mk 11 n nm [a]).cells] H K:=by
 have hl:(Qm [a]).length=1:=by rw[Qh];rfl
 have c11:decide (((1:Nat):Int)=1)=true:=rfl
 have e0:(Qm [a]).getD 0 []=[.int .i64 a.op,.int .i64 a.n,.str a.name,.sl false 4 (Qm a.kids)]:=by simp only[Qm];exact a.cells_eq
 refine Qab ?_
 refine Qc Qah Qapx ?_
 refine Qa ?_
 simp only[go_sem,Ex.cells_eq,Ex.op,Ex.n,Ex.name,Ex.kids]
 intro x2 hx2 H1 h1
 have kn:=(Kn.start0 H).al hx2 h1
 refine Qu ?_
 refine Qa ?_
 simp only[go_sem,hl,c11]
 try intro _
 refine Qe (Qb rfl (fun _=>?_) (fun h=>by simp[lk]at h))
 refine Qa ?_
 simp only[go_sem,hl,e0,List.length_cons,List.length_nil,List.take_succ_cons,List.take_zero,List.all_cons,List.all_nil]
 refine⟨by omega,fun x3 hx3 H2 h2=>?_⟩
 have kn:=kn.al hx3 h2
 have g3:=kn.l 1 rfl
 simp only[go_sem,Qaij,g3,List.length_cons,List.length_nil,List.take_succ_cons,List.take_zero,List.all_cons,List.all_nil]
 intro H3 h3
 have kn:Kn H H3 [] [(x2,.st z4),(x3,.st [.int .i64 a.op,.int .i64 a.n,.str a.name,.sl false 4 (Qm a.kids)])]:=kn.stL 1 rfl h3
 have g2:=kn.l 0 rfl
 have g3:=kn.l 1 rfl
 have retf:∀(x:Ex) (H6:Heap) (e:Env),(∃o3,Kn H H6 [] [(x2,.st x.cells),(x3,o3)])→Qa4 11 n nm [a]=x→lk 2 e=.c (.ptr x2 0)→Qq Qy7 (fun x H'=>∃x',FrzV H' (un H) x x'∧K x' (H'.frz (un H))) .ret e H6:=by
  rintro x H6 e ⟨o3,kn⟩ hx l2
  have g2:=kn.l 0 rfl
  simp only[go_sem,Qq,Qz,Qy7,List.mem_singleton,forall_eq,RS.op,l2,g2,x.cells_len,x.take4,x.allOw]
  exact⟨_,fzE x,by rw[←hx];exact hK _ kn.fin⟩
 refine Qu ?_
 refine Qa ?_
 by_cases a1:a.op=1
 ·have d1:decide (a.op=1)=true:=decide_eq_true a1
  simp only[go_sem,g3,d1]
  refine Qe (Qb rfl (fun _=>?_) (fun h=>by simp[lk]at h))
  refine Qa ?_
  simp only[go_sem,g3]
  refine Q3a ?_
  rw[Qbiy]
  simp only[go_sem,Qail]
  refine Q5m fun H6 hu=>?_
  have kn:=kn.call0 hu
  have g2:=kn.l 0 rfl
  simp only[go_sem,Qaik,g2,Ex.cells_eq,Ex.op,Ex.n,Ex.name,Ex.kids,Qxm]
  intro H7 h7
  have kn:=kn.stL 0 rfl h7
  refine Qg ?_
  exact retf (Qxm (trI (a.n=0))) _ _ ⟨_,kn⟩ (by simp[Qa4,a1]) rfl
 have d1:decide (a.op=1)=false:=decide_eq_false a1
 simp only[go_sem,g3,d1]
 refine Qe (Qb rfl (fun h=>by simp[lk]at h) (fun _=>?_))
 refine Qd ?_
 try simp only[go_sem]
 refine Qu ?_
 have stay:∀(e:Env),Qa4 11 n nm [a]=.mk 11 n nm [a]→lk 1 e=.c (.pp [.int .i64 11,.int .i64 n,.str nm,.sl false 4 (Qm [a])])→lk 2 e=.c (.ptr x2 0)→Qae prog Qaom (Qq Qy7 (fun x H'=>∃x',FrzV H' (un H) x x'∧K x' (H'.frz (un H)))) e H3:=by
  intro e he l1 l2
  refine Qa ?_
  simp only[go_sem,l1,l2,g2]
  intro H6 h6
  have kn:=kn.stL 0 rfl h6
  refine Qg ?_
  exact retf _ _ _ ⟨_,by rw[Ex.cells_eq];exact kn⟩ he rfl
 by_cases a11:a.op=11
 ·have d11:decide (a.op=11)=true:=decide_eq_true a11
  obtain⟨k,hk⟩:∃k,a.kids=[k]:=by
   have hm:=(Qi4 hf).1
   simp only[Qa6,Bool.and_eq_true]at hm
   have hm2:=hm.1
   obtain⟨o2,n2,nm2,ks⟩:=a
   have:=(Qi4 hm2).2.2.2.1 (.inl a11)
   simp only[Ex.kids]
   match ks,this with
   |[k],_=>exact⟨k,rfl⟩
  have hlk:(Qm a.kids).length=1:=by rw[Qh,hk];rfl
  have ek:(Qm a.kids).getD 0 []=[.int .i64 k.op,.int .i64 k.n,.str k.name,.sl false 4 (Qm k.kids)]:=by rw[hk];simp only[Qm];exact k.cells_eq
  have hk0:kid0 a=k:=by rw[kid0,hk];rfl
  refine Qa ?_
  by_cases k11:k.op=11
  ·have dk:decide (k.op=11)=true:=decide_eq_true k11
   simp only[go_sem,g3,d11,hlk,ek,dk]
   refine⟨by omega,?_⟩
   refine Qe (Qb rfl (fun _=>?_) (fun h=>by simp[lk]at h))
   refine Qa ?_
   simp only[go_sem,g3,g2,hlk,ek]
   refine⟨by omega,fun H6 h6=>?_⟩
   have kn:=kn.stL 0 rfl h6
   refine Qg ?_
   exact retf k _ _ ⟨_,by rw[k.cells_eq];exact kn⟩ (by simp[Qa4,a11,hk0,k11]) rfl
  ·have dk:decide (k.op=11)=false:=decide_eq_false k11
   simp only[go_sem,g3,d11,hlk,ek,dk]
   refine⟨by omega,?_⟩
   refine Qe (Qb rfl (fun h=>by simp[lk]at h) (fun _=>?_))
   refine Qd ?_
   try simp only[go_sem]
   exact stay _ (by simp[Qa4,a11,hk0,k11]) rfl rfl
 ·have d11:decide (a.op=11)=false:=decide_eq_false a11
  refine Qa ?_
  have ek:(Qm a.kids).getD 0 []=[]∨∃z r,(Qm a.kids).getD 0 []=.int .i64 z::r:=by
   cases h:a.kids with
   |nil=>left;rfl
   |cons k r=>right;exact⟨k.op,_,by simp only[Qm];exact k.cells_eq⟩
  rcases ek with ek|⟨z,r,ek⟩
  all_goals
   simp only[go_sem,g3,d11,ek,List.take_nil,List.headD_nil,List.take_succ_cons,List.headD_cons]
   refine Qe (Qb rfl (fun h=>by simp[lk]at h) (fun _=>?_))
   refine Qd ?_
   try simp only[go_sem]
   exact stay _ (by simp[Qa4,a1,a11]) rfl rfl
end Go.AE.Y

namespace Go.AE.Y
attribute [local go_sem] cond_true cond_false Bool.not_true Bool.not_false
open Go.Proofs.Tryz
variable {H H' H0:Heap}{K:V→Heap→Prop}
theorem Qqw {e:Ex}{n:Int}(hK:K (.c (.bool (isN e n))) H):Ql prog Qmf [.ag [.int .i64 e.op,.int .i64 e.n,.str e.name,.sl false 4 (Qm e.kids)],.c (.int .i64 n)] H K:=by
 have:=Qbjy hK
 rwa [e.cells_eq]at this
theorem Qae1 {e:Ex}{d:Int}(hs:e.size≤2^38)(hf:e.form d=true)(hK:K (.c (.bool e.safe)) H):Ql prog Qop [.ag [.int .i64 e.op,.int .i64 e.n,.str e.name,.sl false 4 (Qm e.kids)]] H K:=by
 have:=Qbeh e.size e d H K (Nat.le_refl _) hs hf hK
 rwa [e.cells_eq]at this
theorem Qov (z:Int):(Qxm z).cells=[.int .i64 1,.int .i64 z,.str [],.sl false 4 []]:=by rw[Ex.cells_eq];rfl
theorem Qblg {op n:Int}{nm:List UInt8}{a b:Ex}(h1:a.op=1)(h2:b.op=1)(ha:byI a.n)(hb:byI b.n)(h3:3≤op)(h10:op≤10){f g:Bool}
  (hK:K (.tup [.c (.int .i64 (twI (arF op a.n b.n)).1),.c (.int .i64 (twI (arF op a.n b.n)).2)]) H):Ql prog Qme [.ag [.int .i64 op,.int .i64 n,.str nm,.sl false 4 (Qm [a,b])],.c (.sl f 1 []),.c (.sl g 1 [])] H K:=by
 have:=Qa9h (n:=n) (nm:=nm) (f:=f) (g:=g) h1 h2 ha hb h3 h10 hK
 rwa [show (Ex.mk op n nm [a,b]).cells=[.int .i64 op,.int .i64 n,.str nm,.sl false 4 (Qm [a,b])] from Ex.cells_eq _]at this
theorem Qa9k {op n:Int}{nm:List UInt8}{a b:Ex}(h3:3≤op)(h10:op≤10)(hva:a.valid=true)(hvb:b.valid=true)
  (hK:∀H',Upd H H' []→K (.ag (Qa4 op n nm [a,b]).cells) H'):Ql prog Qoo [.ag (Ex.mk op n nm [a,b]).cells] H K:=by
 have hfa:a.form 6=true:=by simp only[Ex.valid,Bool.and_eq_true]at hva;exact hva.1
 have hfb:b.form 6=true:=by simp only[Ex.valid,Bool.and_eq_true]at hvb;exact hvb.1
 have hsa:a.size≤2^38:=by simp only[Ex.valid,Bool.and_eq_true,decide_eq_true_eq]at hva;omega
 have hsb:b.size≤2^38:=by simp only[Ex.valid,Bool.and_eq_true,decide_eq_true_eq]at hvb;omega
 have n11:decide (op=11)=false:=decide_eq_false (by omega)
 have i310:decide ((3:Int)≤op∧op≤10)=true:=decide_eq_true ⟨h3,h10⟩
 have hl:(Qm [a,b]).length=2:=by rw[Qh];rfl
 have c21:decide (((2:Nat):Int)=1)=false:=rfl
 have e0:(Qm [a,b]).getD 0 []=[.int .i64 a.op,.int .i64 a.n,.str a.name,.sl false 4 (Qm a.kids)]:=by simp only[Qm];exact a.cells_eq
 have e1:(Qm [a,b]).getD 1 []=[.int .i64 b.op,.int .i64 b.n,.str b.name,.sl false 4 (Qm b.kids)]:=by simp only[Qm];exact b.cells_eq
 refine Qab ?_
 refine Qc Qah Qapx ?_
 refine Qa ?_
 simp only[go_sem,Ex.cells_eq,Ex.op,Ex.n,Ex.name,Ex.kids]
 intro x2 hx2 H1 h1
 have kn:=(Kn.start0 H).al hx2 h1
 refine Qu ?_
 refine Qa ?_
 simp only[go_sem,hl,c21]
 try intro _
 refine Qe (Qb rfl (fun h=>by simp[lk]at h) (fun _=>?_))
 refine Qd ?_
 try simp only[go_sem]
 refine Qu ?_
 refine Qa ?_
 simp only[go_sem]
 refine Qae0 ?_
 simp only[go_sem,Q08,i310]
 refine Qe (Qb rfl (fun h=>by simp[lk]at h) (fun _=>?_))
 refine Qd ?_
 try simp only[go_sem]
 refine Qa ?_
 simp only[go_sem,hl,e0,List.length_cons,List.length_nil,List.take_succ_cons,List.take_zero,List.all_cons,List.all_nil]
 refine⟨by omega,fun x4 hx4 H2 h2=>?_⟩
 have kn:=kn.al hx4 h2
 have g4:=kn.l 1 rfl
 simp only[go_sem,Q9w,g4,List.length_cons,List.length_nil,List.take_succ_cons,List.take_zero,List.all_cons,List.all_nil]
 intro H3 h3'
 have kn:=kn.stL 1 rfl h3'
 refine Qa ?_
 simp only[go_sem,hl,e1,List.length_cons,List.length_nil,List.take_succ_cons,List.take_zero,List.all_cons,List.all_nil]
 refine⟨by omega,fun x5 hx5 H4 h4=>?_⟩
 have kn:=kn.al hx5 h4
 have g5:=kn.l 2 rfl
 simp only[go_sem,Q9x,g5,List.length_cons,List.length_nil,List.take_succ_cons,List.take_zero,List.all_cons,List.all_nil]
 intro H5 h5
 have kn:Kn H H5 [] [(x2,.st z4),(x4,.st [.int .i64 a.op,.int .i64 a.n,.str a.name,.sl false 4 (Qm a.kids)]),(x5,.st [.int .i64 b.op,.int .i64 b.n,.str b.name,.sl false 4 (Qm b.kids)])]:=kn.stL 2 rfl h5
 have g2:=kn.l 0 rfl
 have g4:=kn.l 1 rfl
 have g5:=kn.l 2 rfl
 have retf:∀(x:Ex) (H6:Heap) (e:Env),(∃o3 o4,Kn H H6 [] [(x2,.st x.cells),(x4,o3),(x5,o4)])→Qa4 op n nm [a,b]=x→lk 2 e=.c (.ptr x2 0)→Qq Qy7 (unK H K) .ret e H6:=by
  rintro x H6 e ⟨o3,o4,kn⟩ hx l2
  have g2:=kn.l 0 rfl
  simp only[go_sem,Qq,Qz,Qy7,List.mem_singleton,forall_eq,RS.op,l2,g2,x.cells_len,x.take4,x.allOw]
  exact⟨_,fzE x,by rw[←hx];exact hK _ kn.fin⟩
 have end35:∀e:Env,Qa4 op n nm [a,b]=.mk op n nm [a,b]→lk 1 e=.c (.pp [.int .i64 op,.int .i64 n,.str nm,.sl false 4 (Qm [a,b])])→lk 2 e=.c (.ptr x2 0)→Qae prog Qio (Qq Qy7 (unK H K)) e H5:=by
  intro e he l1 l2
  refine Qa ?_
  simp only[go_sem,l1,l2,g2]
  intro H6 h6
  have kn:=kn.stL 0 rfl h6
  refine Qg ?_
  exact retf _ _ _ ⟨_,_,by rw[Ex.cells_eq];exact kn⟩ he rfl
 have rest36:∀e:Env,Qa4 op n nm [a,b]=Qb4 op n nm a b→lk 1 e=.c (.pp [.int .i64 op,.int .i64 n,.str nm,.sl false 4 (Qm [a,b])])→lk 2 e=.c (.ptr x2 0)→lk 4 e=.c (.ptr x4 0)→lk 5 e=.c (.ptr x5 0)→Qae prog Qaii (Qq Qy7 (unK H K)) e H5:=by
  intro e hF l1 l2 l4 l5
  have hops:op=3∨op=4∨op=5∨op=6∨op=7∨op=8∨op=9∨op=10:=by omega
  have kD:¬(op=10∧isN a 0=true)→¬((isN b 0=true∧(op=3∨op=4))∨(isN b 1=true∧(op=5∨op=6)))→¬((isN a 0=true∧op=3)∨(isN a 1=true∧op=5))→Qae prog Qaig (X.inBlock 0 (X.sq prog Qio (Qq Qy7 (unK H K)))) [(1,.c (.pp [.int .i64 op,.int .i64 n,.str nm,.sl false 4 (Qm [a,b])])),(2,.c (.ptr x2 0)),(4,.c (.ptr x4 0)),(5,.c (.ptr x5 0)),(110,.c (.bool false))] H5:=by
   intro q1 q2 q3
   have pY:(op=5∧((isN b 0=true∧a.safe=true)∨(isN a 0=true∧b.safe=true)))→Qa4 op n nm [a,b]=Qxm 0:=fun h=>by rw[hF,Qb4,if_neg q1,if_neg q2,if_neg q3,if_pos h]
   have pN:¬(op=5∧((isN b 0=true∧a.safe=true)∨(isN a 0=true∧b.safe=true)))→Qa4 op n nm [a,b]=.mk op n nm [a,b]:=fun h=>by rw[hF,Qb4,if_neg q1,if_neg q2,if_neg q3,if_neg h]
   refine Qb rfl (fun h=>by simp[lk]at h) (fun _=>?_)
   refine Qa ?_
   by_cases o5:op=5
   rotate_left
   ·have d5:decide (op=5)=false:=decide_eq_false o5
    simp only[go_sem,d5,Qn1,Qjk,Qed,Qb6]
    refine Qb rfl (fun h=>by simp[lk]at h) (fun _=>?_)
    refine Qd ?_
    try simp only[go_sem,AE.X.next]
    exact end35 _ (pN fun h=>o5 h.1) rfl rfl
   have d5:decide (op=5)=true:=decide_eq_true o5
   simp only[go_sem,g5,d5]
   refine Qqw ?_
   cases zb0:isN b 0
   ·skip
    simp only[go_sem,Qn1]
    simp only[go_sem,Qjk,g4]
    refine Qqw ?_
    cases za0:isN a 0
    ·skip
     simp only[go_sem,Qed,Qb6]
     refine Qb rfl (fun h=>by simp[lk]at h) (fun _=>?_)
     refine Qd ?_
     try simp only[go_sem,AE.X.next]
     exact end35 _ (pN (by simp[za0,zb0])) rfl rfl
    ·skip
     simp only[go_sem,Qed,g5]
     refine Qae1 hsb hfb ?_
     cases sb:b.safe
     ·skip
      simp only[go_sem,Qb6]
      refine Qb rfl (fun h=>by simp[lk]at h) (fun _=>?_)
      refine Qd ?_
      try simp only[go_sem,AE.X.next]
      exact end35 _ (pN (by simp[sb,zb0])) rfl rfl
     ·skip
      simp only[go_sem,Qb6]
      refine Qb rfl (fun _=>?_) (fun h=>by simp[lk]at h)
      refine Qa ?_
      simp only[go_sem]
      refine Q5m fun H6 hu=>?_
      have kn:=kn.call0 hu
      have g2:=kn.l 0 rfl
      simp only[go_sem,Qn2,g2,Qov]
      intro H7 h7
      have kn:=kn.stL 0 rfl h7
      refine Qg ?_
      exact retf (Qxm 0) _ _ ⟨_,_,kn⟩ (pY ⟨o5,.inr ⟨za0,sb⟩⟩) rfl
   ·skip
    simp only[go_sem,Qn1,g4]
    refine Qae1 hsa hfa ?_
    cases sa:a.safe
    ·skip
     simp only[go_sem,Qjk,g4]
     refine Qqw ?_
     cases za0:isN a 0
     ·skip
      simp only[go_sem,Qed,Qb6]
      refine Qb rfl (fun h=>by simp[lk]at h) (fun _=>?_)
      refine Qd ?_
      try simp only[go_sem,AE.X.next]
      exact end35 _ (pN (by simp[za0,sa])) rfl rfl
     ·skip
      simp only[go_sem,Qed,g5]
      refine Qae1 hsb hfb ?_
      cases sb:b.safe
      ·skip
       simp only[go_sem,Qb6]
       refine Qb rfl (fun h=>by simp[lk]at h) (fun _=>?_)
       refine Qd ?_
       try simp only[go_sem,AE.X.next]
       exact end35 _ (pN (by simp[sb,sa])) rfl rfl
      ·skip
       simp only[go_sem,Qb6]
       refine Qb rfl (fun _=>?_) (fun h=>by simp[lk]at h)
       refine Qa ?_
       simp only[go_sem]
       refine Q5m fun H6 hu=>?_
       have kn:=kn.call0 hu
       have g2:=kn.l 0 rfl
       simp only[go_sem,Qn2,g2,Qov]
       intro H7 h7
       have kn:=kn.stL 0 rfl h7
       refine Qg ?_
       exact retf (Qxm 0) _ _ ⟨_,_,kn⟩ (pY ⟨o5,.inr ⟨za0,sb⟩⟩) rfl
    ·skip
     simp only[go_sem,Qjk,Qed,Qb6]
     refine Qb rfl (fun _=>?_) (fun h=>by simp[lk]at h)
     refine Qa ?_
     simp only[go_sem]
     refine Q5m fun H6 hu=>?_
     have kn:=kn.call0 hu
     have g2:=kn.l 0 rfl
     simp only[go_sem,Qn2,g2,Qov]
     intro H7 h7
     have kn:=kn.stL 0 rfl h7
     refine Qg ?_
     exact retf (Qxm 0) _ _ ⟨_,_,kn⟩ (pY ⟨o5,.inl ⟨zb0,sa⟩⟩) rfl
  have kC:¬(op=10∧isN a 0=true)→¬((isN b 0=true∧(op=3∨op=4))∨(isN b 1=true∧(op=5∨op=6)))→Qae prog Q07 (X.inBlock 0 (X.sq prog Qio (Qq Qy7 (unK H K)))) [(1,.c (.pp [.int .i64 op,.int .i64 n,.str nm,.sl false 4 (Qm [a,b])])),(2,.c (.ptr x2 0)),(4,.c (.ptr x4 0)),(5,.c (.ptr x5 0)),(84,.c (.bool false))] H5:=by
   intro q1 q2
   have pY:((isN a 0=true∧op=3)∨(isN a 1=true∧op=5))→Qa4 op n nm [a,b]=b:=fun h=>by rw[hF,Qb4,if_neg q1,if_neg q2,if_pos h]
   refine Qb rfl (fun h=>by simp[lk]at h) (fun _=>?_)
   refine Qu ?_
   refine Qa ?_
   simp only[go_sem,g4]
   refine Qqw ?_
   by_cases y:isN a 0=true∧op=3
   ·have d3:decide (op=3)=true:=decide_eq_true y.2
    simp only[go_sem,Qvs,y.1,d3]
    refine Qe (Qb rfl (fun _=>?_) (fun h=>by simp[lk]at h))
    refine Qd ?_
    try simp only[go_sem]
    refine Qb rfl (fun _=>?_) (fun h=>by simp[lk]at h)
    refine Qa ?_
    simp only[go_sem,g2,g5]
    intro H6 h6
    have kn:=kn.stL 0 rfl h6
    refine Qg ?_
    exact retf b _ _ ⟨_,_,by rw[b.cells_eq];exact kn⟩ (pY (.inl y)) rfl
   cases za0:isN a 0 <;> cases d3:decide (op=3)
   all_goals
    first|(exfalso;exact y ⟨za0,of_decide_eq_true d3⟩)|skip
   all_goals
    simp only[go_sem,Qvs,d3]
    refine Qe (Qb rfl (fun h=>by simp[lk]at h) (fun _=>?_))
    refine Qp ?_
    simp only[go_sem,g4]
    refine Qqw ?_
    cases za1:isN a 1 <;> cases d5:decide (op=5)
    all_goals simp only[go_sem,Q91,d5]
    ·exact kD q1 q2 fun h=>h.elim y fun h2=>by rw[za1]at h2;cases h2.1
    ·exact kD q1 q2 fun h=>h.elim y fun h2=>by rw[za1]at h2;cases h2.1
    ·exact kD q1 q2 fun h=>h.elim y fun h2=>of_decide_eq_false d5 h2.2
    ·refine Qb rfl (fun _=>?_) (fun h=>by simp[lk]at h)
     refine Qa ?_
     simp only[go_sem,g2,g5]
     intro H6 h6
     have kn:=kn.stL 0 rfl h6
     refine Qg ?_
     exact retf b _ _ ⟨_,_,by rw[b.cells_eq];exact kn⟩ (pY (.inr ⟨za1,of_decide_eq_true d5⟩)) rfl
  have kB:¬(op=10∧isN a 0=true)→Qae prog Qaih (X.inBlock 0 (X.sq prog Qio (Qq Qy7 (unK H K)))) [(1,.c (.pp [.int .i64 op,.int .i64 n,.str nm,.sl false 4 (Qm [a,b])])),(2,.c (.ptr x2 0)),(4,.c (.ptr x4 0)),(5,.c (.ptr x5 0)),(75,.c (.bool false))] H5:=by
   intro q1
   have pY:((isN b 0=true∧(op=3∨op=4))∨(isN b 1=true∧(op=5∨op=6)))→Qa4 op n nm [a,b]=a:=fun h=>by rw[hF,Qb4,if_neg q1,if_pos h]
   refine Qb rfl (fun h=>by simp[lk]at h) (fun _=>?_)
   refine Qu ?_
   refine Qa ?_
   simp only[go_sem,g5]
   refine Qqw ?_
   have giveA:∀(v:Bool),v=true→Qa4 op n nm [a,b]=a→Qae prog Q07 (X.inBlock 0 (X.sq prog Qio (Qq Qy7 (unK H K)))) [(1,.c (.pp [.int .i64 op,.int .i64 n,.str nm,.sl false 4 (Qm [a,b])])),(2,.c (.ptr x2 0)),(4,.c (.ptr x4 0)),(5,.c (.ptr x5 0)),(84,.c (.bool v))] H5:=by
    intro v hv hx
    subst hv
    refine Qb rfl (fun _=>?_) (fun h=>by simp[lk]at h)
    refine Qa ?_
    simp only[go_sem,g2,g4]
    intro H6 h6
    have kn:=kn.stL 0 rfl h6
    refine Qg ?_
    exact retf a _ _ ⟨_,_,by rw[a.cells_eq];exact kn⟩ (hx) rfl
   by_cases y:isN b 0=true∧(op=3∨op=4)
   ·have hz:=y.1
    cases d3:decide (op=3) <;> cases d4:decide (op=4)
    all_goals
     first|(exfalso;exact y.2.elim (of_decide_eq_false d3) (of_decide_eq_false d4))|skip
    all_goals
     simp only[go_sem,Qvq,hz,d3,d4]
     refine Qe (Qb rfl (fun _=>?_) (fun h=>by simp[lk]at h))
     refine Qd ?_
     try simp only[go_sem]
     exact giveA _ rfl (pY (.inl y))
   cases zb0:isN b 0 <;> cases d3:decide (op=3) <;> cases d4:decide (op=4)
   all_goals
    first|(exfalso;exact y ⟨zb0,.inl (of_decide_eq_true d3)⟩)|(exfalso;exact y ⟨zb0,.inr (of_decide_eq_true d4)⟩)|skip
   all_goals
    simp only[go_sem,Qvq,d3,d4]
    refine Qe (Qb rfl (fun h=>by simp[lk]at h) (fun _=>?_))
    refine Qp ?_
    simp only[go_sem,g5]
    refine Qqw ?_
    by_cases y2:isN b 1=true∧(op=5∨op=6)
    ·have hz:=y2.1
     cases d5:decide (op=5) <;> cases d6:decide (op=6)
     all_goals
      first|(exfalso;exact y2.2.elim (of_decide_eq_false d5) (of_decide_eq_false d6))|skip
     all_goals
      simp only[go_sem,Qvr,hz,d5,d6]
      exact giveA _ rfl (pY (.inr y2))
    cases zb1:isN b 1 <;> cases d5:decide (op=5) <;> cases d6:decide (op=6)
    all_goals
     first|(exfalso;exact y2 ⟨zb1,.inl (of_decide_eq_true d5)⟩)|(exfalso;exact y2 ⟨zb1,.inr (of_decide_eq_true d6)⟩)|skip
    all_goals
     simp only[go_sem,Qvr,d5,d6]
     exact kC q1 (fun h=>h.elim y y2)
  refine Qe (Qf ?_)
  refine Qa ?_
  cases d10:decide (op=10)
  ·skip
   simp only[go_sem,l1,l2,l4,l5,d10,Qn0]
   exact kB fun h=>of_decide_eq_false d10 h.1
  ·skip
   simp only[go_sem,l1,l2,l4,l5,g4,d10]
   refine Qqw ?_
   cases za0:isN a 0
   ·skip
    simp only[go_sem,l1,l2,l4,l5,Qn0]
    exact kB fun h=>by rw[za0]at h;cases h.2
   ·skip
    simp only[go_sem,l1,l2,l4,l5,Qn0]
    refine Qb rfl (fun _=>?_) (fun h=>by simp[lk]at h)
    refine Qa ?_
    simp only[go_sem]
    refine Q5m fun H6 hu=>?_
    have kn:=kn.call0 hu
    have g2:=kn.l 0 rfl
    simp only[go_sem,Q90,g2,Qov]
    intro H7 h7
    have kn:=kn.stL 0 rfl h7
    refine Qg ?_
    exact retf (Qxm 0) _ _ ⟨_,_,kn⟩ (by rw[hF,Qb4,if_pos ⟨of_decide_eq_true d10,za0⟩]) rfl
 refine Qu ?_
 refine Qa ?_
 by_cases hab:a.op=1∧b.op=1
 ·have a1:decide (a.op=1)=true:=decide_eq_true hab.1
  have b1:decide (b.op=1)=true:=decide_eq_true hab.2
  simp only[go_sem,g4,g5,a1,b1]
  refine Qe (Qb rfl (fun _=>?_) (fun h=>by simp[lk]at h))
  refine Qa ?_
  simp only[go_sem,g4,g5]
  refine Qblg hab.1 hab.2 (Qan6 hfa hab.1).2 (Qan6 hfb hab.2).2 h3 h10 ?_
  simp only[go_sem,Q9y,List.getD_cons_zero,List.getD_cons_succ]
  refine Qa ?_
  simp only[go_sem]
  cases hr:arF op a.n b.n with
  |some z=>
   simp only[twI]
   refine Qb rfl (fun _=>?_) (fun h=>by simp[lk]at h)
   refine Qa ?_
   simp only[go_sem]
   refine Q5m fun H6 hu=>?_
   have kn:=kn.call0 hu
   have g2:=kn.l 0 rfl
   simp only[go_sem,Q9z,g2,Qov]
   intro H7 h7
   have kn:=kn.stL 0 rfl h7
   refine Qg ?_
   exact retf (Qxm z) _ _ ⟨_,_,kn⟩ (by simp[Qa4,h3,h10,hab,hr]) rfl
  |none=>
   simp only[twI]
   refine Qb rfl (fun h=>by simp[lk]at h) (fun _=>?_)
   refine Qd ?_
   try simp only[go_sem]
   exact rest36 _ (by simp[Qa4,h3,h10,hab,hr]) rfl rfl rfl rfl
 ·have hF:Qa4 op n nm [a,b]=Qb4 op n nm a b:=by simp only[Qa4,h3,h10,hab,and_self,if_true,if_false]
  cases a1:decide (a.op=1) <;> cases b1:decide (b.op=1)
  all_goals
   first
   |(exfalso;exact hab ⟨of_decide_eq_true a1,of_decide_eq_true b1⟩)
   |skip
  all_goals
   simp only[go_sem,g4,g5,a1,b1]
   refine Qe (Qb rfl (fun h=>by simp[lk]at h) (fun _=>?_))
   refine Qd ?_
   try simp only[go_sem]
   exact rest36 _ hF rfl rfl rfl rfl
end Go.AE.Y

namespace Go.AE
variable {P:Program}{H H':Heap}
theorem Qa7w {f:Nat}{args args':List V}{K:V→Heap→Prop}(S:Nat→Bool)(hla:args'.length=args.length)
  (ha:∀(j:Nat) (x y:V),args[j]? = some x→args'[j]? = some y→FrzV H S x y) (h:Ql P f args' (H.frz S) K):Ql P f args H K:=by
 refine⟨h.1,fun g w vs hs hl hv=>?_⟩
 have hst0:=Qajh hs S
 have hv':∀(j:Nat) (x:V) (u:Value),args'[j]? = some x→vs[j]? = some u→RepV w (g.frz H S) x u:=fun j y u h1 h2=>by
  obtain⟨x,hx⟩:=Q8 hla h1
  exact Qxk hs (ha j x y hx h1) u (hv j x u hx h2)
 refine Calls.mono (h.2 (g.frz H S) w vs hst0.sat (by rw[hla];exact hl) hv') ?_
 rintro e w' (⟨v,x,H',g',he,hx,hst,hr⟩|⟨v,H',g',he,hx,hst⟩)
 ·exact .inl ⟨v,x,H',g',he,hx,hst0.trans hst,hr⟩
 ·exact .inr ⟨v,H',g',he,hx,hst0.trans hst⟩
end Go.AE

namespace Go.AE.Y
attribute [local go_sem] cond_true cond_false Bool.not_true Bool.not_false
open Go.Proofs.Tryz
variable {H H' H0:Heap}{K:V→Heap→Prop}
theorem Qbeg {op n:Int}{nm:List UInt8}{kids:List Ex}(hv:(Ex.mk op n nm kids).valid=true)
  (hK:∀H',Upd H H' []→K (.ag (Qa4 op n nm kids).cells) H'):Ql prog Qoo [.ag (Ex.mk op n nm kids).cells] H K:=by
 have hf:(Ex.mk op n nm kids).form 6=true:=by simp only[Ex.valid,Bool.and_eq_true]at hv;exact hv.1
 have hm2:=Qi4 hf
 have hkv:∀y∈kids,y.valid=true:=fun y hy=>Q43 hv hy
 by_cases h11:op=11
 ·subst h11
  have hl:=hm2.2.2.2.1 (.inl rfl)
  match kids,hl with
  |[a],_=>exact Qa9l hf hK
 by_cases hq:3≤op∧op≤10
 ·have hl:=hm2.2.2.1 hq.1 hq.2
  match kids,hl with
  |[a,b],_=>exact Qa9k hq.1 hq.2 (hkv a (by simp)) (hkv b (by simp)) hK
 ·have e:Qa4 op n nm kids=.mk op n nm kids:=by
   unfold Qa4
   split
   ·rw[if_neg h11]
   ·rw[if_neg hq]
   ·rfl
  rw[e]at hK
  exact Qa9j hq h11 hK
theorem Qbef:∀(n:Nat) (x:Ex) {H:Heap} {K:V→Heap→Prop},x.size≤n→x.valid=true→(∀H',Upd H H' []→K (.ag x.fold.cells) H')→Ql prog Q24 [.ag x.cells] H K:=by
 intro n
 induction n with
 |zero=>intro x H K h;have:=x.size_pos;omega
 |succ n ih=>
 intro x H K hn hv hK
 have hsz:=x.size_kids
 refine Qab ?_
 refine Qc Qah Qbet ?_
 refine Qa ?_
 simp only[go_sem,x.cells_eq]
 intro x1 hx1 H1 h1
 have kn:=(Kn.start0 H).al hx1 h1
 simp only[go_sem,Qaic]
 intro x2 hx2 H2 h2
 have kn:Kn H H2 [] ([(x1,.st [.int .i64 x.op,.int .i64 x.n,.str x.name,.sl false 4 (Qm x.kids)]),(x2,.st z4)]++[]):=kn.al hx2 h2
 refine Qa ?_
 simp only[go_sem]
 refine Qu ?_
 refine Qa ?_
 simp only[go_sem]
 refine Qe (Qf (Qy (fun m e1 H1=>∃(i:Nat) (t:C) (Lg:List (Nat×Obj)),m=x.kids.length-i∧i≤x.kids.length∧Gr Lg 4 (Qm ((x.kids.take i).map Ex.fold)) t∧
  Kn H H1 [] ([(x1,.st [.int .i64 x.op,.int .i64 x.n,.str x.name,.sl false 4 (Qm x.kids)]),(x2,.st z4)]++Lg)∧e1=[(1,.c (.ptr x1 0)),(2,.c (.ptr x2 0)),(3,.c t),(4,.c (.int .i64 i))]) x.kids.length ?_ ?_))
 ·exact⟨0,_,[],by omega,by omega,.nil 4,kn,rfl⟩
 ·clear kn h1 h2
  rintro m e1 H1 ⟨i,t,Lg,hm,hi,hgr,kn,rfl⟩
  have hto:=hgr.isOw
  have g1:=kn.l 0 rfl
  refine Qu ?_
  refine Qa ?_
  simp only[go_sem,g1,hto,Qh]
  intro hl
  simp only[LIM]at hl
  refine Qe (Qb rfl ?_ ?_)
  ·intro hc
   have hlt:i<x.kids.length:=by simpa using hc
   obtain⟨y,hy⟩:∃y,x.kids[i]=y:=⟨_,rfl⟩
   have hym:y∈x.kids:=by rw[←hy];exact List.getElem_mem hlt
   have hms:=Qac hym
   have htk:Qm ((x.kids.take (i+1)).map Ex.fold)=Qm ((x.kids.take i).map Ex.fold)++[y.fold.cells]:=by
    rw[Qei,List.take_succ_eq_append_getElem hlt,hy];simp
   refine Qd ?_
   try simp only[go_sem]
   refine Qe (Qf ?_)
   refine Qp ?_
   simp only[go_sem,g1,hto,hlt,Qh,Q6 _ _ hlt,hy,Ex.take4,Ex.allOw,Ex.cells_len]
   refine ih y (by omega) (Q43 hv hym) fun H2 hu=>?_
   have kn:=kn.call0 hu
   have g1:=kn.l 0 rfl
   simp only[go_sem,Qaie,hto,Ex.cells_len]
   refine kn.growR hgr (new:=[y.fold.cells]) (.mk' _ true 4 _) (by simpa using y.fold.noOw) (by simp only[Qh,List.length_map,List.length_take,List.length_cons,List.length_nil,LIM];omega) fun t2 Lg2 H6 hgr2 hto2 kn=>?_
   simp only[go_sem,Qaid,hto2]
   try simp only[AE.X.next]
   refine Qp ?_
   simp only[go_sem,AE.X.next,hto2]
   exact⟨Qr (by omega) (by omega),x.kids.length-(i+1),by omega,i+1,t2,Lg2,rfl,by omega,by rw[htk];exact hgr2,kn,rfl⟩
  ·intro hc
   have hge:x.kids.length≤i:=by simpa using hc
   rw[List.take_of_length_le hge]at hgr
   refine Qt ?_
   simp only[go_sem,AE.X.next]
   have g1:=kn.l 0 rfl
   refine Qa ?_
   simp only[go_sem,g1,hto]
   intro H2 h2
   have kn:Kn H H2 [] ([(x1,.st [.int .i64 x.op,.int .i64 x.n,.str x.name,t]),(x2,.st z4)]++Lg):=kn.stL 0 rfl h2
   have g1:=kn.l 0 rfl
   have f1:FrzC H2 (fun m=>(Lg.map Prod.fst).contains m) t (.sl false 4 (Qm (x.kids.map Ex.fold))):=Gr.frzm hgr (fun p hp=>⟨(kn.get p (by simp[hp])).1,Qa8u hp⟩) (FrzR.same (Qbp _))
   refine Qa ?_
   simp only[go_sem,g1,hto]
   refine Qa7w (args':=[.ag (Ex.mk x.op x.n x.name (x.kids.map Ex.fold)).cells]) _ rfl (Qax5 (by
    rw[Ex.cells_eq]
    exact (FrzL.cons (Qi rfl) (.cons (Qi rfl) (.cons (Qi rfl) (.cons f1 .nil)))).ag)) ?_
   refine Qbeg (Q2y hv) fun H3 hu=>?_
   have e:Qa4 x.op x.n x.name (x.kids.map Ex.fold)=x.fold:=by rw[x.fold_eq,Qc4]
   rw[e]
   have kn:=kn.frzN.call0 hu
   have g2:=kn.l 1 rfl
   simp only[go_sem,Qaif,g2,Ex.take4,Ex.allOw,Ex.cells_len,List.drop_nil,List.append_nil]
   intro H4 h4
   have kn:Kn H H4 [] [(x1,.st [.int .i64 x.op,.int .i64 x.n,.str x.name,t]),(x2,.st x.fold.cells)]:=kn.stL 1 rfl h4
   have g2:=kn.l 1 rfl
   refine Qg ?_
   simp only[go_sem,Qq,Qz,Qy7,List.mem_singleton,forall_eq,RS.op,g2,Ex.take4,Ex.allOw,Ex.cells_len]
   exact⟨_,fzE _,hK _ kn.fin⟩
end Go.AE.Y

namespace Go.AE.Y
attribute [local go_sem] cond_true cond_false Bool.not_true Bool.not_false
open Go.Proofs.Tryz
variable {H H' H0:Heap}{K:V→Heap→Prop}
theorem Qa3b (x:St):x.foldS=.mk x.op x.name (x.args.map Ex.fold) (Qao x.body) (Qao x.els):=by cases x;simp only[St.foldS,St.op,St.name,St.args,St.body,St.els,Qc4]
theorem Qa9i:∀(n:Nat) (l:List St) {fl:Bool} {d:Int} {H:Heap} {K:V→Heap→Prop},Qj l≤n→Q2 l d=true→(∀H',Upd H H' []→K (.c (.sl false 5 (Qk (Qao l)))) H')→Ql prog Qon [.c (.sl fl 5 (Qk l))] H K:=by
 intro n
 induction n using Nat.strongRecOn with
 |_ n ih=>
 intro l fl d H K hn hf hK
 have hsl0:=Qeg l
 refine Qab ?_
 refine Qc Qah Qa9z ?_
 refine Qa ?_
 simp only[go_sem]
 refine Qa ?_
 simp only[go_sem]
 refine Qu ?_
 refine Qa ?_
 simp only[go_sem]
 refine Qe (Qf (Qy (fun m e1 H1=>∃(i:Nat) (os:List OSt) (Lz:List (Nat×Obj)) (t:C),m=l.length-i∧i≤l.length∧os.map OSt.x=(l.take i).map St.foldS∧(∀o∈os,o.ok)∧Gr Lz 5 (os.map OSt.row) t∧Kn H H1 [] (os.flatMap OSt.al++Lz)∧
  e1=[(0,.c (.sl fl 5 (Qk l))),(3,.c t),(4,.c (.int .i64 i))]) l.length ?_ ?_))
 ·exact⟨0,[],[],.sl true 5 [],by omega,by omega,by simp,by simp,.nil 5,Kn.start0 H,rfl⟩
 ·rintro m e1 H1 ⟨i,os,Lz,t,hm,hi,hox,ho,hz,kn,rfl⟩
  have hto:=hz.isOw
  refine Qu ?_
  refine Qa ?_
  simp only[go_sem,Qo,hto]
  intro hl
  simp only[LIM]at hl
  refine Qe (Qb rfl ?_ ?_)
  ·intro hc
   have hlt:i<l.length:=by simpa using hc
   have hms:=Qak (List.getElem_mem hlt)
   obtain⟨x,hx⟩:∃x,l[i]=x:=⟨_,rfl⟩
   have hxm:x∈l:=by rw[←hx];exact List.getElem_mem hlt
   rw[hx]at hms
   have hse:=x.size_eq
   obtain⟨hva,hfb,hfe⟩:=Qev (List.all_eq_true.1 (by rw[←Qdb];exact hf) x hxm)
   have hol:os.length=i:=by
    have:=congrArg List.length hox
    rw[List.length_map,List.length_map,List.length_take]at this;omega
   refine Qd ?_
   try simp only[go_sem]
   refine Qe (Qf ?_)
   refine Qa ?_
   simp only[go_sem,hto,hlt,Qo,Q4 _ _ hlt,hx,x.cells_eq]
   intro x5 hx5 H3 h3
   have kn:Kn H H3 [] ((os.flatMap OSt.al++Lz)++(x5,.st [.int .i64 0,.str [],.sl true 4 [],.sl true 5 [],.sl true 5 []])::[]):=kn.al hx5 h3
   have g5:=kn.getM
   simp only[go_sem,Q9q,g5,hto]
   intro H4 h4
   have kn:Kn H H4 [] ((os.flatMap OSt.al++Lz)++(x5,stX x.op x.name (.sl false 4 (Qm x.args)) (.sl false 5 (Qk x.body)) (.sl false 5 (Qk x.els)))::[]):=kn.stM h4
   refine Qa ?_
   simp only[go_sem,hto]
   refine Qu ?_
   refine Qa ?_
   simp only[go_sem,hto]
   refine Qe (Qf (Qy (fun m2 e2 H5=>∃(j:Nat) (La:List (Nat×Obj)) (ta:C),m2=x.args.length-j∧j≤x.args.length∧Gr La 4 (Qm ((x.args.take j).map Ex.fold)) ta∧Kn H H5 [] ((os.flatMap OSt.al++Lz)++(x5,stX x.op x.name (.sl false 4 (Qm x.args)) (.sl false 5 (Qk x.body)) (.sl false 5 (Qk x.els)))::La)∧
    e2=[(0,.c (.sl fl 5 (Qk l))),(3,.c t),(4,.c (.int .i64 i)),(5,.c (.ptr x5 0)),(6,.c ta),(7,.c (.int .i64 j))]) x.args.length ?_ ?_))
   ·exact⟨0,[],.sl true 4 [],by omega,by omega,.nil 4,kn,rfl⟩
   ·clear kn g5 h4 h3
    rintro m2 e2 H5 ⟨j,La,ta,hm2,hj,hga,kn,rfl⟩
    have hao:=hga.isOw
    have g5:=kn.getM
    refine Qu ?_
    refine Qa ?_
    simp only[go_sem,hto,hao,g5,Qh]
    intro hl2
    simp only[LIM]at hl2
    refine Qe (Qb rfl ?_ ?_)
    ·intro hc2
     have hlt2:j<x.args.length:=by simpa using hc2
     obtain⟨y,hy⟩:∃y,x.args[j]=y:=⟨_,rfl⟩
     have hym:y∈x.args:=by rw[←hy];exact List.getElem_mem hlt2
     have htk:Qm ((x.args.take (j+1)).map Ex.fold)=Qm ((x.args.take j).map Ex.fold)++[y.fold.cells]:=by
      rw[Qei,List.take_succ_eq_append_getElem hlt2,hy];simp
     refine Qd ?_
     try simp only[go_sem]
     refine Qe (Qf ?_)
     refine Qp ?_
     simp only[go_sem,hto,hao,g5,hlt2,Qh,Q6 _ _ hlt2,hy,Ex.take4,Ex.allOw,Ex.cells_len]
     refine Qbef y.size y (Nat.le_refl _) (hva y hym) fun H6 hu=>?_
     have kn:=kn.call0 hu
     simp only[go_sem,Q9s,hto,hao,Ex.cells_len]
     have kn:Kn H H6 [] (((os.flatMap OSt.al++Lz)++[(x5,stX x.op x.name (.sl false 4 (Qm x.args)) (.sl false 5 (Qk x.body)) (.sl false 5 (Qk x.els)))])++La):=by rw[List.append_assoc _ [_]];exact kn
     refine kn.growR hga (new:=[y.fold.cells]) (.mk' _ true 4 _) (by simpa using y.fold.noOw) (by simp only[Qh,List.length_map,List.length_take,List.length_cons,List.length_nil,LIM];omega) fun ta' La' H7 hga' hao' kn=>?_
     rw[←htk]at hga'
     simp only[go_sem,Q9r,hto,hao']
     refine Qp ?_
     simp only[go_sem,AE.X.next,hto,hao']
     refine⟨Qr (by omega) (by omega),x.args.length-(j+1),by omega,j+1,La',ta',rfl,by omega,hga',?_,rfl⟩
     rw[List.append_assoc _ [_]]at kn;exact kn
    ·intro hc2
     have hge2:x.args.length≤j:=by simpa using hc2
     rw[List.take_of_length_le hge2]at hga
     refine Qt ?_
     simp only[go_sem,AE.X.next]
     refine Qa ?_
     simp only[go_sem,hto,hao,g5]
     intro H6 h6
     have kn:Kn H H6 [] ((os.flatMap OSt.al++Lz)++(x5,stX x.op x.name ta (.sl false 5 (Qk x.body)) (.sl false 5 (Qk x.els)))::La):=kn.stM h6
     have g5:=kn.getM
     refine Qa ?_
     simp only[go_sem,hto,hao,g5]
     refine ih (Qj x.body) (by omega) x.body (Nat.le_refl _) hfb fun H6 hu=>?_
     have kn:=kn.call0 hu
     have g5:=kn.getM
     simp only[go_sem,Q9t,hto,hao,g5]
     intro H7 h7
     have kn:Kn H H7 [] ((os.flatMap OSt.al++Lz)++(x5,stX x.op x.name ta (.sl false 5 (Qk (Qao x.body))) (.sl false 5 (Qk x.els)))::La):=kn.stM h7
     have g5:=kn.getM
     refine Qa ?_
     simp only[go_sem,hto,hao,g5]
     refine ih (Qj x.els) (by omega) x.els (Nat.le_refl _) hfe fun H7 hu=>?_
     have kn:=kn.call0 hu
     have g5:=kn.getM
     simp only[go_sem,Q9u,hto,hao,g5]
     intro H8 h8
     have kn:Kn H H8 [] ((os.flatMap OSt.al++Lz)++(x5,stX x.op x.name ta (.sl false 5 (Qk (Qao x.body))) (.sl false 5 (Qk (Qao x.els))))::La):=kn.stM h8
     have g5:=kn.getM
     refine Qp ?_
     simp only[go_sem,hto,hao,g5]
     have kn:Kn H H8 [] ((os.flatMap OSt.al++(x5,stX x.op x.name ta (.sl false 5 (Qk (Qao x.body))) (.sl false 5 (Qk (Qao x.els))))::La)++Lz):=kn.perm (by
      rw[List.append_assoc,List.append_assoc]
      exact List.Perm.append_left _ List.perm_append_comm)
     have hok:OSt.ok ⟨x.foldS,ta,La⟩:=by rw[OSt.ok,Qa3b];exact hga
     have hrw:OSt.row ⟨x.foldS,ta,La⟩=[.int .i64 x.op,.str x.name,ta,.sl false 5 (Qk (Qao x.body)),.sl false 5 (Qk (Qao x.els))]:=by rw[Qa3b];rfl
     rw[←hrw]
     refine kn.growR hz (new:=[OSt.row ⟨x.foldS,ta,La⟩]) (.mk' _ true 5 _) (by simpa using OSt.noOw hok) (by simp only[List.length_map,List.length_cons,List.length_nil,LIM];omega) fun t' Lz' H8 hz' hto' kn=>?_
     have kn:Kn H H8 [] ((os++[(⟨x.foldS,ta,La⟩:OSt)]).flatMap OSt.al++Lz'):=by
      refine kn.sub ?_
      rw[List.flatMap_append,List.flatMap_cons,List.flatMap_nil,List.append_nil]
      exact List.Sublist.append (List.Sublist.append (List.Sublist.refl _) (List.sublist_cons_self _ _)) (List.Sublist.refl _)
     simp only[go_sem,Q9v,hto']
     try simp only[AE.X.next]
     refine Qp ?_
     simp only[go_sem,AE.X.next,hto']
     refine⟨Qr (by omega) (by omega),l.length-(i+1),by omega,i+1,os++[(⟨x.foldS,ta,La⟩:OSt)],Lz',t',rfl,by omega,?_,?_,?_,kn,rfl⟩
     ·rw[List.map_append,hox,List.take_succ_eq_append_getElem hlt,hx];simp
     ·intro o hoo
      rcases List.mem_append.1 hoo with hoo|hoo
      ·exact ho o hoo
      ·simp only[List.mem_singleton]at hoo;subst hoo;exact hok
     ·rw[List.map_append];exact hz'
  ·intro hc
   have hge:l.length≤i:=by simpa using hc
   rw[List.take_of_length_le hge]at hox
   refine Qt ?_
   simp only[go_sem,AE.X.next]
   refine Qa ?_
   simp only[go_sem,hto]
   refine Qg ?_
   simp only[go_sem,Qq,Qz,Qic,List.mem_singleton,forall_eq,RS.op,hto]
   have hfz:=Qap3 (H:=H1) (S:=un H) ho hz fun p hp=>⟨(kn.get p (by simpa using hp)).1,Qw6 (kn.loc p hp)⟩
   rw[hox]at hfz
   exact⟨_,.c _ _ hfz,by rw[←Qr1];exact hK _ kn.fin⟩
end Go.AE.Y

namespace Go.AE.Y
attribute [local go_sem] cond_true cond_false Bool.not_true Bool.not_false
open Go.Proofs.Tryz
variable {H H' H0:Heap}{K:V→Heap→Prop}
theorem Qbcu {l:List St}{d:Int}(h:Q2 l d=true):∀x∈l,0<x.args.length:=by
 intro y hy
 have h1:=List.all_eq_true.1 (by rw[←Qdb];exact h) y hy
 rw[St.form_eq]at h1
 simp only[Bool.and_eq_true,Qp9,decide_eq_true_eq]at h1
 rw[h1.1.1.2.1.1.1.1.1.1.2,argN]
 split <;> omega
theorem Qbee:∀(n:Nat) (l:List St) {fl:Bool} {d:Int} {H:Heap} {K:V→Heap→Prop},Qj l≤n→Q2 l d=true→(∀H',Upd H H' []→K (.c (.sl false 5 (Qk (Q3 l)))) H')→Ql prog Qt3 [.c (.sl fl 5 (Qk l))] H K:=by
 intro n
 induction n using Nat.strongRecOn with
 |_ n ih=>
 intro l fl d H K hn hf hK
 have hsl0:=Qeg l
 refine Qab ?_
 refine Qc Qah Qber ?_
 refine Qa ?_
 simp only[go_sem]
 refine Qa ?_
 simp only[go_sem]
 refine Qu ?_
 refine Qa ?_
 simp only[go_sem]
 have fin:∀(H1:Heap) (e:Env) (rows:List (List C)) (t:C) (Lz:List (Nat×Obj)),Gr Lz 5 rows t→(∀S,FrzR H1 S rows (Qk (Q3 l)))→Kn H H1 [] Lz→lk 3 e=.c t→Qae prog Qah3 (Qq Qic (unK H K)) e H1:=by
  intro H1 e rows t Lz hz hr kn l3
  have hto:=hz.isOw
  refine Qa ?_
  simp only[go_sem,l3,hto]
  refine Qg ?_
  simp only[go_sem,Qq,Qz,Qic,List.mem_singleton,forall_eq,RS.op,hto]
  exact⟨_,.c _ _ (Gr.frzm hz (fun p hp=>⟨(kn.get p (by simpa using hp)).1,Qw6 (kn.loc p hp)⟩) (hr _)),hK _ kn.fin⟩
 refine Qe (Qf (Qy (fun m e1 H1=>∃(i:Nat) (rows:List (List C)) (dn:List St) (Lz:List (Nat×Obj)) (t:C),m=l.length-i∧i≤l.length∧Q3 l=dn++Q3 (l.drop i)∧rows.length≤i∧(∀H2 S,FrzR H2 S rows (Qk dn))∧Gr Lz 5 rows t∧Kn H H1 [] Lz∧
  e1=[(0,.c (.sl fl 5 (Qk l))),(3,.c t),(4,.c (.int .i64 i))]) l.length ?_ ?_))
 ·exact⟨0,[],[],[],.sl true 5 [],by omega,by omega,by simp,by simp,fun _ _=>.nil,.nil 5,Kn.start0 H,rfl⟩
 ·rintro m e1 H1 ⟨i,rows,dn,Lz,t,hm,hi,hcut,hrl,hrz,hz,kn,rfl⟩
  have hto:=hz.isOw
  refine Qu ?_
  refine Qa ?_
  simp only[go_sem,Qo,hto]
  intro hl
  simp only[LIM]at hl
  refine Qe (Qb rfl ?_ ?_)
  ·intro hc
   have hlt:i<l.length:=by simpa using hc
   have hms:=Qak (List.getElem_mem hlt)
   obtain⟨x,hx⟩:∃x,l[i]=x:=⟨_,rfl⟩
   have hxm:x∈l:=by rw[←hx];exact List.getElem_mem hlt
   rw[hx]at hms
   have hse:=x.size_eq
   have hdr:l.drop i=x::l.drop (i+1):=by rw[←hx];exact (List.getElem_cons_drop hlt).symm
   obtain⟨hva,hfb,hfe⟩:=Qev (List.all_eq_true.1 (by rw[←Qdb];exact hf) x hxm)
   obtain⟨a,ar,ha⟩:∃a ar,x.args=a::ar:=by
    have:=Qbcu hf x hxm
    match h:x.args,this with
    |a::ar,_=>exact⟨a,ar,rfl⟩
   have har:arg0 x.args=a:=by rw[ha];rfl
   have hla:0<(Qm x.args).length:=by rw[Qh,ha];simp
   have ea:(Qm x.args).getD 0 []=[.int .i64 a.op,.int .i64 a.n,.str a.name,.sl false 4 (Qm a.kids)]:=by rw[ha];simp only[Qm];exact a.cells_eq
   refine Qd ?_
   try simp only[go_sem]
   refine Qe (Qf ?_)
   refine Qa ?_
   simp only[go_sem,hto,hlt,Qo,Q4 _ _ hlt,hx,x.cells_eq]
   intro x5 hx5 H3 h3
   have kn:Kn H H3 [] (Lz++(x5,.st [.int .i64 0,.str [],.sl true 4 [],.sl true 5 [],.sl true 5 []])::[]):=kn.al hx5 h3
   have g5:=kn.getM
   simp only[go_sem,Qah4,g5,hto]
   intro H4 h4
   have kn:Kn H H4 [] (Lz++(x5,stX x.op x.name (.sl false 4 (Qm x.args)) (.sl false 5 (Qk x.body)) (.sl false 5 (Qk x.els)))::[]):=kn.stM h4
   have g5:=kn.getM
   refine Qa ?_
   simp only[go_sem,hto,g5,hla,ea,List.length_cons,List.length_nil,List.take_succ_cons,List.take_zero,List.all_cons,List.all_nil]
   refine⟨by omega,fun x6 hx6 H5 h5=>?_⟩
   have kn:Kn H H5 [] ([(x5,stX x.op x.name (.sl false 4 (Qm x.args)) (.sl false 5 (Qk x.body)) (.sl false 5 (Qk x.els))),(x6,.st z4)]++Lz):=(kn.al hx6 h5).perm (by
    rw[List.append_assoc];exact List.perm_append_comm)
   have g6:=kn.l 1 rfl
   simp only[go_sem,Qah5,g6,hto,List.length_cons,List.length_nil,List.take_succ_cons,List.take_zero,List.all_cons,List.all_nil]
   intro H6 h6
   have kn:Kn H H6 [] ([(x5,stX x.op x.name (.sl false 4 (Qm x.args)) (.sl false 5 (Qk x.body)) (.sl false 5 (Qk x.els))),(x6,.st [.int .i64 a.op,.int .i64 a.n,.str a.name,.sl false 4 (Qm a.kids)])]++Lz):=kn.stL 1 rfl h6
   have g5:=kn.l 0 rfl
   refine Qa ?_
   simp only[go_sem,hto,g5]
   refine ih (Qj x.body) (by omega) x.body (Nat.le_refl _) hfb fun H6 hu=>?_
   have kn:=kn.call0 hu
   have g5:=kn.l 0 rfl
   simp only[go_sem,Qah6,hto,g5]
   intro H7 h7
   have kn:=kn.stL 0 rfl h7
   have g5:=kn.l 0 rfl
   refine Qa ?_
   simp only[go_sem,hto,g5]
   refine ih (Qj x.els) (by omega) x.els (Nat.le_refl _) hfe fun H7 hu=>?_
   have kn:=kn.call0 hu
   have g5:=kn.l 0 rfl
   simp only[go_sem,Qah7,hto,g5]
   intro H8 h8
   have kn:Kn H H8 [] ([(x5,stX x.op x.name (.sl false 4 (Qm x.args)) (.sl false 5 (Qk (Q3 x.body))) (.sl false 5 (Qk (Q3 x.els)))),(x6,.st [.int .i64 a.op,.int .i64 a.n,.str a.name,.sl false 4 (Qm a.kids)])]++Lz):=kn.stL 0 rfl h8
   have g5:=kn.l 0 rfl
   have g6:=kn.l 1 rfl
   refine Qu ?_
   by_cases o6:x.op=6
   ·have d6:decide (x.op=6)=true:=decide_eq_true o6
    refine Qa ?_
    simp only[go_sem,hto,g5,g6,d6]
    refine Qqw ?_
    cases za:isN a 0
    rotate_left
    ·simp only[go_sem,Qrn]
     refine Qe (Qb rfl (fun _=>?_) (fun h=>by simp[lk]at h))
     refine Qt ?_
     simp only[go_sem,AE.X.next]
     refine Qp ?_
     simp only[go_sem,AE.X.next,hto]
     refine⟨Qr (by omega) (by omega),l.length-(i+1),by omega,i+1,rows,dn,Lz,t,rfl,by omega,?_,by omega,hrz,hz,kn.sub (List.sublist_append_right _ _),rfl⟩
     rw[hcut,hdr,Q3,if_pos ⟨o6,by rw[har];exact za⟩]
    ·have hn6:¬(x.op=6∧isN (arg0 x.args) 0=true):=fun h=>by rw[har,za]at h;cases h.2
     simp only[go_sem,Qrn]
     refine Qe (Qb rfl (fun h=>by simp[lk]at h) (fun _=>?_))
     refine Qd ?_
     try simp only[go_sem]
     refine Qu ?_
     by_cases o5:x.op=5∧a.op=1
     ·have d5:decide (x.op=5)=true:=decide_eq_true o5.1
      have d1:decide (a.op=1)=true:=decide_eq_true o5.2
      refine Qa ?_
      simp only[go_sem,hto,g5,g6,d5,d1]
      refine Qe (Qb rfl (fun _=>?_) (fun h=>by simp[lk]at h))
      refine Qa ?_
      simp only[go_sem,hto,g6]
      refine Qb rfl (fun hc2=>?_) (fun hc2=>?_)
      ·have hz0:¬a.n=0:=by simpa using hc2
       refine Qp ?_
       simp only[go_sem,hto,g5]
       intro H9 h9
       have kn:Kn H H9 [] ([(x5,stX x.op x.name (.sl false 4 (Qm x.args)) (.sl false 5 (Qk (Q3 x.body))) (.sl true 5 [])),(x6,.st [.int .i64 a.op,.int .i64 a.n,.str a.name,.sl false 4 (Qm a.kids)])]++Lz):=kn.stL 0 rfl h9
       have g5:=kn.l 0 rfl
       refine Qa ?_
       simp only[go_sem,g5,hto]
       refine kn.growR hz (new:=[[.int .i64 x.op,.str x.name,.sl false 4 (Qm x.args),.sl false 5 (Qk (Q3 x.body)),.sl true 5 []]]) (.mk' _ true 5 _) (by simp[noOw,C.isOw]) (by simp only[List.length_cons,List.length_nil,LIM];omega) fun t' Lz' H10 hz' hto' kn=>?_
       have g5:=kn.l 0 rfl
       have hr2:∀H2 S,FrzR H2 S (rows++[[.int .i64 x.op,.str x.name,.sl false 4 (Qm x.args),.sl false 5 (Qk (Q3 x.body)),.sl true 5 []]]) (Qk (dn++[x.cutS])):=fun H2 S=>by
        rw[←Qdr]
        refine (hrz H2 S).app (.cons ?_ .nil)
        rw[St.cells_eq,St.cutS_op,St.cutS_name,St.cutS_args,show x.cutS.body=Q3 x.body from by rw[St.cutS_eq,Qzz,if_pos ⟨o5.1,by rw[har];exact o5.2⟩,if_neg (by rw[har];exact hz0)];rfl,show x.cutS.els=[] from by rw[St.cutS_eq,Qzz,if_pos ⟨o5.1,by rw[har];exact o5.2⟩,if_neg (by rw[har];exact hz0)];rfl]
        exact .cons (Qi rfl) (.cons (Qi rfl) (.cons (FrzR.same (Qbp _)).sl (.cons (FrzR.same (by first|exact Qa8 _|(intro r hr;cases hr))).sl (.cons (FrzR.same (by first|exact Qa8 _|(intro r hr;cases hr))).sl .nil))))
       simp only[go_sem,Qfn,hto']
       refine Qa ?_
       cases d7:decide (x.op=7)
       ·simp only[go_sem,g5,hto',d7]
        refine Qb rfl (fun h=>by simp[lk]at h) (fun _=>?_)
        refine Qd ?_
        try simp only[go_sem,AE.X.next]
        refine Qp ?_
        simp only[go_sem,AE.X.next,hto']
        refine⟨Qr (by omega) (by omega),l.length-(i+1),by omega,i+1,_,dn++[x.cutS],Lz',t',rfl,by omega,?_,by simp only[List.length_append,List.length_cons,List.length_nil];omega,hr2,hz',kn.sub (List.sublist_append_right _ _),rfl⟩
        rw[hcut,hdr,Q3,if_neg hn6,if_neg (of_decide_eq_false d7)];simp
       ·simp only[go_sem,g5,hto',d7]
        refine Qb rfl (fun _=>?_) (fun h=>by simp[lk]at h)
        refine Qt ?_
        try simp only[go_sem,AE.X.next]
        exact fin _ _ _ t' Lz' hz' (fun S=>by rw[hcut,hdr,Q3,if_neg hn6,if_pos (of_decide_eq_true d7)];exact hr2 _ _) (kn.sub (List.sublist_append_right _ _)) rfl
      ·have hz0:a.n=0:=by simpa using hc2
       refine Qp ?_
       simp only[go_sem,hto,g5]
       intro H9 h9
       have kn:Kn H H9 [] ([(x5,stX x.op x.name (.sl false 4 (Qm x.args)) (.sl true 5 []) (.sl false 5 (Qk (Q3 x.els)))),(x6,.st [.int .i64 a.op,.int .i64 a.n,.str a.name,.sl false 4 (Qm a.kids)])]++Lz):=kn.stL 0 rfl h9
       have g5:=kn.l 0 rfl
       refine Qa ?_
       simp only[go_sem,g5,hto]
       refine kn.growR hz (new:=[[.int .i64 x.op,.str x.name,.sl false 4 (Qm x.args),.sl true 5 [],.sl false 5 (Qk (Q3 x.els))]]) (.mk' _ true 5 _) (by simp[noOw,C.isOw]) (by simp only[List.length_cons,List.length_nil,LIM];omega) fun t' Lz' H10 hz' hto' kn=>?_
       have g5:=kn.l 0 rfl
       have hr2:∀H2 S,FrzR H2 S (rows++[[.int .i64 x.op,.str x.name,.sl false 4 (Qm x.args),.sl true 5 [],.sl false 5 (Qk (Q3 x.els))]]) (Qk (dn++[x.cutS])):=fun H2 S=>by
        rw[←Qdr]
        refine (hrz H2 S).app (.cons ?_ .nil)
        rw[St.cells_eq,St.cutS_op,St.cutS_name,St.cutS_args,show x.cutS.body=[] from by rw[St.cutS_eq,Qzz,if_pos ⟨o5.1,by rw[har];exact o5.2⟩,if_pos (by rw[har];exact hz0)];rfl,show x.cutS.els=Q3 x.els from by rw[St.cutS_eq,Qzz,if_pos ⟨o5.1,by rw[har];exact o5.2⟩,if_pos (by rw[har];exact hz0)];rfl]
        exact .cons (Qi rfl) (.cons (Qi rfl) (.cons (FrzR.same (Qbp _)).sl (.cons (FrzR.same (by first|exact Qa8 _|(intro r hr;cases hr))).sl (.cons (FrzR.same (by first|exact Qa8 _|(intro r hr;cases hr))).sl .nil))))
       simp only[go_sem,Qfn,hto']
       refine Qa ?_
       cases d7:decide (x.op=7)
       ·simp only[go_sem,g5,hto',d7]
        refine Qb rfl (fun h=>by simp[lk]at h) (fun _=>?_)
        refine Qd ?_
        try simp only[go_sem,AE.X.next]
        refine Qp ?_
        simp only[go_sem,AE.X.next,hto']
        refine⟨Qr (by omega) (by omega),l.length-(i+1),by omega,i+1,_,dn++[x.cutS],Lz',t',rfl,by omega,?_,by simp only[List.length_append,List.length_cons,List.length_nil];omega,hr2,hz',kn.sub (List.sublist_append_right _ _),rfl⟩
        rw[hcut,hdr,Q3,if_neg hn6,if_neg (of_decide_eq_false d7)];simp
       ·simp only[go_sem,g5,hto',d7]
        refine Qb rfl (fun _=>?_) (fun h=>by simp[lk]at h)
        refine Qt ?_
        try simp only[go_sem,AE.X.next]
        exact fin _ _ _ t' Lz' hz' (fun S=>by rw[hcut,hdr,Q3,if_neg hn6,if_pos (of_decide_eq_true d7)];exact hr2 _ _) (kn.sub (List.sublist_append_right _ _)) rfl
     ·cases d5:decide (x.op=5) <;> cases d1:decide (a.op=1)
      all_goals
       first|(exfalso;exact o5 ⟨of_decide_eq_true d5,of_decide_eq_true d1⟩)|skip
      all_goals
       refine Qa ?_
       simp only[go_sem,hto,g5,g6,d5,d1]
       refine Qe (Qb rfl (fun h=>by simp[lk]at h) (fun _=>?_))
       refine Qd ?_
       try simp only[go_sem]
       refine Qa ?_
       simp only[go_sem,g5,hto]
       refine kn.growR hz (new:=[[.int .i64 x.op,.str x.name,.sl false 4 (Qm x.args),.sl false 5 (Qk (Q3 x.body)),.sl false 5 (Qk (Q3 x.els))]]) (.mk' _ true 5 _) (by simp[noOw,C.isOw]) (by simp only[List.length_cons,List.length_nil,LIM];omega) fun t' Lz' H10 hz' hto' kn=>?_
       have g5:=kn.l 0 rfl
       have hr2:∀H2 S,FrzR H2 S (rows++[[.int .i64 x.op,.str x.name,.sl false 4 (Qm x.args),.sl false 5 (Qk (Q3 x.body)),.sl false 5 (Qk (Q3 x.els))]]) (Qk (dn++[x.cutS])):=fun H2 S=>by
        rw[←Qdr]
        refine (hrz H2 S).app (.cons ?_ .nil)
        rw[St.cells_eq,St.cutS_op,St.cutS_name,St.cutS_args,show x.cutS.body=Q3 x.body from by rw[St.cutS_eq,Qzz,if_neg (by rw[har];exact o5)];rfl,show x.cutS.els=Q3 x.els from by rw[St.cutS_eq,Qzz,if_neg (by rw[har];exact o5)];rfl]
        exact .cons (Qi rfl) (.cons (Qi rfl) (.cons (FrzR.same (Qbp _)).sl (.cons (FrzR.same (by first|exact Qa8 _|(intro r hr;cases hr))).sl (.cons (FrzR.same (by first|exact Qa8 _|(intro r hr;cases hr))).sl .nil))))
       simp only[go_sem,Qfn,hto']
       refine Qa ?_
       cases d7:decide (x.op=7)
       ·simp only[go_sem,g5,hto',d7]
        refine Qb rfl (fun h=>by simp[lk]at h) (fun _=>?_)
        refine Qd ?_
        try simp only[go_sem,AE.X.next]
        refine Qp ?_
        simp only[go_sem,AE.X.next,hto']
        refine⟨Qr (by omega) (by omega),l.length-(i+1),by omega,i+1,_,dn++[x.cutS],Lz',t',rfl,by omega,?_,by simp only[List.length_append,List.length_cons,List.length_nil];omega,hr2,hz',kn.sub (List.sublist_append_right _ _),rfl⟩
        rw[hcut,hdr,Q3,if_neg hn6,if_neg (of_decide_eq_false d7)];simp
       ·simp only[go_sem,g5,hto',d7]
        refine Qb rfl (fun _=>?_) (fun h=>by simp[lk]at h)
        refine Qt ?_
        try simp only[go_sem,AE.X.next]
        exact fin _ _ _ t' Lz' hz' (fun S=>by rw[hcut,hdr,Q3,if_neg hn6,if_pos (of_decide_eq_true d7)];exact hr2 _ _) (kn.sub (List.sublist_append_right _ _)) rfl
   ·have d6:decide (x.op=6)=false:=decide_eq_false o6
    have hn6:¬(x.op=6∧isN (arg0 x.args) 0=true):=fun h=>o6 h.1
    refine Qa ?_
    simp only[go_sem,hto,g5,g6,d6,Qrn]
    refine Qe (Qb rfl (fun h=>by simp[lk]at h) (fun _=>?_))
    refine Qd ?_
    try simp only[go_sem]
    refine Qu ?_
    by_cases o5:x.op=5∧a.op=1
    ·have d5:decide (x.op=5)=true:=decide_eq_true o5.1
     have d1:decide (a.op=1)=true:=decide_eq_true o5.2
     refine Qa ?_
     simp only[go_sem,hto,g5,g6,d5,d1]
     refine Qe (Qb rfl (fun _=>?_) (fun h=>by simp[lk]at h))
     refine Qa ?_
     simp only[go_sem,hto,g6]
     refine Qb rfl (fun hc2=>?_) (fun hc2=>?_)
     ·have hz0:¬a.n=0:=by simpa using hc2
      refine Qp ?_
      simp only[go_sem,hto,g5]
      intro H9 h9
      have kn:Kn H H9 [] ([(x5,stX x.op x.name (.sl false 4 (Qm x.args)) (.sl false 5 (Qk (Q3 x.body))) (.sl true 5 [])),(x6,.st [.int .i64 a.op,.int .i64 a.n,.str a.name,.sl false 4 (Qm a.kids)])]++Lz):=kn.stL 0 rfl h9
      have g5:=kn.l 0 rfl
      refine Qa ?_
      simp only[go_sem,g5,hto]
      refine kn.growR hz (new:=[[.int .i64 x.op,.str x.name,.sl false 4 (Qm x.args),.sl false 5 (Qk (Q3 x.body)),.sl true 5 []]]) (.mk' _ true 5 _) (by simp[noOw,C.isOw]) (by simp only[List.length_cons,List.length_nil,LIM];omega) fun t' Lz' H10 hz' hto' kn=>?_
      have g5:=kn.l 0 rfl
      have hr2:∀H2 S,FrzR H2 S (rows++[[.int .i64 x.op,.str x.name,.sl false 4 (Qm x.args),.sl false 5 (Qk (Q3 x.body)),.sl true 5 []]]) (Qk (dn++[x.cutS])):=fun H2 S=>by
       rw[←Qdr]
       refine (hrz H2 S).app (.cons ?_ .nil)
       rw[St.cells_eq,St.cutS_op,St.cutS_name,St.cutS_args,show x.cutS.body=Q3 x.body from by rw[St.cutS_eq,Qzz,if_pos ⟨o5.1,by rw[har];exact o5.2⟩,if_neg (by rw[har];exact hz0)];rfl,show x.cutS.els=[] from by rw[St.cutS_eq,Qzz,if_pos ⟨o5.1,by rw[har];exact o5.2⟩,if_neg (by rw[har];exact hz0)];rfl]
       exact .cons (Qi rfl) (.cons (Qi rfl) (.cons (FrzR.same (Qbp _)).sl (.cons (FrzR.same (by first|exact Qa8 _|(intro r hr;cases hr))).sl (.cons (FrzR.same (by first|exact Qa8 _|(intro r hr;cases hr))).sl .nil))))
      simp only[go_sem,Qfn,hto']
      refine Qa ?_
      cases d7:decide (x.op=7)
      ·simp only[go_sem,g5,hto',d7]
       refine Qb rfl (fun h=>by simp[lk]at h) (fun _=>?_)
       refine Qd ?_
       try simp only[go_sem,AE.X.next]
       refine Qp ?_
       simp only[go_sem,AE.X.next,hto']
       refine⟨Qr (by omega) (by omega),l.length-(i+1),by omega,i+1,_,dn++[x.cutS],Lz',t',rfl,by omega,?_,by simp only[List.length_append,List.length_cons,List.length_nil];omega,hr2,hz',kn.sub (List.sublist_append_right _ _),rfl⟩
       rw[hcut,hdr,Q3,if_neg hn6,if_neg (of_decide_eq_false d7)];simp
      ·simp only[go_sem,g5,hto',d7]
       refine Qb rfl (fun _=>?_) (fun h=>by simp[lk]at h)
       refine Qt ?_
       try simp only[go_sem,AE.X.next]
       exact fin _ _ _ t' Lz' hz' (fun S=>by rw[hcut,hdr,Q3,if_neg hn6,if_pos (of_decide_eq_true d7)];exact hr2 _ _) (kn.sub (List.sublist_append_right _ _)) rfl
     ·have hz0:a.n=0:=by simpa using hc2
      refine Qp ?_
      simp only[go_sem,hto,g5]
      intro H9 h9
      have kn:Kn H H9 [] ([(x5,stX x.op x.name (.sl false 4 (Qm x.args)) (.sl true 5 []) (.sl false 5 (Qk (Q3 x.els)))),(x6,.st [.int .i64 a.op,.int .i64 a.n,.str a.name,.sl false 4 (Qm a.kids)])]++Lz):=kn.stL 0 rfl h9
      have g5:=kn.l 0 rfl
      refine Qa ?_
      simp only[go_sem,g5,hto]
      refine kn.growR hz (new:=[[.int .i64 x.op,.str x.name,.sl false 4 (Qm x.args),.sl true 5 [],.sl false 5 (Qk (Q3 x.els))]]) (.mk' _ true 5 _) (by simp[noOw,C.isOw]) (by simp only[List.length_cons,List.length_nil,LIM];omega) fun t' Lz' H10 hz' hto' kn=>?_
      have g5:=kn.l 0 rfl
      have hr2:∀H2 S,FrzR H2 S (rows++[[.int .i64 x.op,.str x.name,.sl false 4 (Qm x.args),.sl true 5 [],.sl false 5 (Qk (Q3 x.els))]]) (Qk (dn++[x.cutS])):=fun H2 S=>by
       rw[←Qdr]
       refine (hrz H2 S).app (.cons ?_ .nil)
       rw[St.cells_eq,St.cutS_op,St.cutS_name,St.cutS_args,show x.cutS.body=[] from by rw[St.cutS_eq,Qzz,if_pos ⟨o5.1,by rw[har];exact o5.2⟩,if_pos (by rw[har];exact hz0)];rfl,show x.cutS.els=Q3 x.els from by rw[St.cutS_eq,Qzz,if_pos ⟨o5.1,by rw[har];exact o5.2⟩,if_pos (by rw[har];exact hz0)];rfl]
       exact .cons (Qi rfl) (.cons (Qi rfl) (.cons (FrzR.same (Qbp _)).sl (.cons (FrzR.same (by first|exact Qa8 _|(intro r hr;cases hr))).sl (.cons (FrzR.same (by first|exact Qa8 _|(intro r hr;cases hr))).sl .nil))))
      simp only[go_sem,Qfn,hto']
      refine Qa ?_
      cases d7:decide (x.op=7)
      ·simp only[go_sem,g5,hto',d7]
       refine Qb rfl (fun h=>by simp[lk]at h) (fun _=>?_)
       refine Qd ?_
       try simp only[go_sem,AE.X.next]
       refine Qp ?_
       simp only[go_sem,AE.X.next,hto']
       refine⟨Qr (by omega) (by omega),l.length-(i+1),by omega,i+1,_,dn++[x.cutS],Lz',t',rfl,by omega,?_,by simp only[List.length_append,List.length_cons,List.length_nil];omega,hr2,hz',kn.sub (List.sublist_append_right _ _),rfl⟩
       rw[hcut,hdr,Q3,if_neg hn6,if_neg (of_decide_eq_false d7)];simp
      ·simp only[go_sem,g5,hto',d7]
       refine Qb rfl (fun _=>?_) (fun h=>by simp[lk]at h)
       refine Qt ?_
       try simp only[go_sem,AE.X.next]
       exact fin _ _ _ t' Lz' hz' (fun S=>by rw[hcut,hdr,Q3,if_neg hn6,if_pos (of_decide_eq_true d7)];exact hr2 _ _) (kn.sub (List.sublist_append_right _ _)) rfl
    ·cases d5:decide (x.op=5) <;> cases d1:decide (a.op=1)
     all_goals
      first|(exfalso;exact o5 ⟨of_decide_eq_true d5,of_decide_eq_true d1⟩)|skip
     all_goals
      refine Qa ?_
      simp only[go_sem,hto,g5,g6,d5,d1]
      refine Qe (Qb rfl (fun h=>by simp[lk]at h) (fun _=>?_))
      refine Qd ?_
      try simp only[go_sem]
      refine Qa ?_
      simp only[go_sem,g5,hto]
      refine kn.growR hz (new:=[[.int .i64 x.op,.str x.name,.sl false 4 (Qm x.args),.sl false 5 (Qk (Q3 x.body)),.sl false 5 (Qk (Q3 x.els))]]) (.mk' _ true 5 _) (by simp[noOw,C.isOw]) (by simp only[List.length_cons,List.length_nil,LIM];omega) fun t' Lz' H10 hz' hto' kn=>?_
      have g5:=kn.l 0 rfl
      have hr2:∀H2 S,FrzR H2 S (rows++[[.int .i64 x.op,.str x.name,.sl false 4 (Qm x.args),.sl false 5 (Qk (Q3 x.body)),.sl false 5 (Qk (Q3 x.els))]]) (Qk (dn++[x.cutS])):=fun H2 S=>by
       rw[←Qdr]
       refine (hrz H2 S).app (.cons ?_ .nil)
       rw[St.cells_eq,St.cutS_op,St.cutS_name,St.cutS_args,show x.cutS.body=Q3 x.body from by rw[St.cutS_eq,Qzz,if_neg (by rw[har];exact o5)];rfl,show x.cutS.els=Q3 x.els from by rw[St.cutS_eq,Qzz,if_neg (by rw[har];exact o5)];rfl]
       exact .cons (Qi rfl) (.cons (Qi rfl) (.cons (FrzR.same (Qbp _)).sl (.cons (FrzR.same (by first|exact Qa8 _|(intro r hr;cases hr))).sl (.cons (FrzR.same (by first|exact Qa8 _|(intro r hr;cases hr))).sl .nil))))
      simp only[go_sem,Qfn,hto']
      refine Qa ?_
      cases d7:decide (x.op=7)
      ·simp only[go_sem,g5,hto',d7]
       refine Qb rfl (fun h=>by simp[lk]at h) (fun _=>?_)
       refine Qd ?_
       try simp only[go_sem,AE.X.next]
       refine Qp ?_
       simp only[go_sem,AE.X.next,hto']
       refine⟨Qr (by omega) (by omega),l.length-(i+1),by omega,i+1,_,dn++[x.cutS],Lz',t',rfl,by omega,?_,by simp only[List.length_append,List.length_cons,List.length_nil];omega,hr2,hz',kn.sub (List.sublist_append_right _ _),rfl⟩
       rw[hcut,hdr,Q3,if_neg hn6,if_neg (of_decide_eq_false d7)];simp
      ·simp only[go_sem,g5,hto',d7]
       refine Qb rfl (fun _=>?_) (fun h=>by simp[lk]at h)
       refine Qt ?_
       try simp only[go_sem,AE.X.next]
       exact fin _ _ _ t' Lz' hz' (fun S=>by rw[hcut,hdr,Q3,if_neg hn6,if_pos (of_decide_eq_true d7)];exact hr2 _ _) (kn.sub (List.sublist_append_right _ _)) rfl
  ·intro hc
   have hge:l.length≤i:=by simpa using hc
   rw[List.drop_eq_nil_of_le hge,Q3,List.append_nil]at hcut
   refine Qt ?_
   simp only[go_sem,AE.X.next]
   exact fin _ _ rows t Lz hz (fun S=>by rw[hcut];exact hrz _ _) kn rfl
end Go.AE.Y

