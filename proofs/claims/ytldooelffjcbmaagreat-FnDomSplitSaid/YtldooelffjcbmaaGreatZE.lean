/- Part 5 of the proof: the engine, codes, walks and plain laws, each named where it stands. -/
import Derived.Test.YtldooelffjcbmaaGreatZD
open Nat (reduceEqDiff reduceAdd reduceLeDiff reduceLT)
set_option linter.unusedVariables false
set_option linter.unusedSimpArgs false
set_option maxRecDepth 4000
namespace Go.AE.Y
open Go.Proofs.Tryz
def Qn2:List Item:=[oJ 6 5]
def Qabs:SC:=cT 6 (sR [fB 2 false] [2] .ret) .skip
def Qn3:List Item:=[nJ 16 15,cJ 17 .gtr 16 0]
def Qabt:SC:=cT 17 (sR [fB 2 true] [2] .ret) .skip
def Qabu:SC:=sR (tJ 13 3 1::mJ 14 3::aJ 15 Qd2 [.t 13,.t 14]::Qn3) [1,9,10,17] Qabt
def Qabv:SC:=.reg [cJ 18 .add 10 1,mJ 10 18] [1,9,10]
def Qabw:SC:=.seq (.block 1 (sR [mJ 12 10,mJ 3 12] [1,3,9,10] Qabu)) Qabv
def Q67:SC:=sR [bJ 11 .lss 10 9] [1,9,10,11] (cX 11 0 Qabw)
def Qabx:SC:=sR [fB 2 false] [2] .ret
def Qaby:SC:=.seq (sR [fJ 7 2 1,lJ 8 7,nJ 9 8,zJ 10 0] [1,9,10] (bL 0 Q67)) Qabx
def Q66:SC:=.seq (sR (tJ 4 3 1::aJ 5 Qgv [.t 4]::Qn2) [1,6] Qabs) Qaby
def Qap0:SC:=sR [vJ 1 0,fB 2 false] [1] Q66
def Qmy:List RS:=[.tmp 2]
theorem Qapb:mFn prog Qfh 1 19 Qap0 Qmy=true:=by kernel_rfl
def Qjg:List Item:=[fB 3 false]
def Qjh:List Item:=[mJ 3 10]
def Qji:List Item:=fI 9 (.ext (.t 8) 0)::fI 10 (.ext (.t 8) 1)::sJ 1 2 9::Qjh
def Qjj:List Item:=fI 6 (.ext (.t 5) 0)::fI 7 (.ext (.t 5) 1)::aJ 8 Qhl [.t 6,.t 7]::Qji
def Q27:SC:=sR (tJ 4 1 1::eI 5 (.call Qml [.t 4,.k (.c (.fn Qhm []))])::Qjj) [2,3] .ret
def Qacf:SC:=sR (vJ 1 0::eI 2 (.alloc [.sl true 3 []])::Qjg) [1,2] Q27
def Qre:List RS:=[.cell 2 1 true,.tmp 3]
theorem Qaav:mFn prog Qb7 1 11 Qacf Qre=true:=by kernel_rfl
def Qen:List Item:=[mJ 5 19]
def Qeo:List Item:=fI 18 (.bsl 1 [.t 17])::xJ 19 1 14 18::Qen
def Qr9:SC:=.reg (mJ 14 5::mJ 15 1::mJ 16 7::eI 17 (.callv (.t 15) [.t 16])::Qeo) [1,5,8,9,10]
def Qsa:SC:=.reg [cJ 20 .add 10 1,mJ 10 20] [1,5,8,9,10]
def Qsb:SC:=.seq (.block 1 (sR [iJ 12 1 8 10,lJ 13 12,mJ 7 13] [1,5,7,8,9,10] Qr9)) Qsa
def Qpn:SC:=sR [bJ 11 .lss 10 9] [1,5,8,9,10,11] (cX 11 0 Qsb)
def Qsc:SC:=sR [mJ 21 5,mJ 4 21] [4] .ret
def Qsd:SC:=.seq (sR [mJ 8 0,nJ 9 8,zJ 10 0] [1,5,8,9,10] (bL 0 Qpn)) Qsc
def Qse:SC:=sR [fI 5 (.mv (.k (.c (.sl true 1 []))))] [0,1,5] Qsd
def Qy7:SC:=sR [fI 4 (.mv (.k (.c (.sl true 1 []))))] [0,1] Qse
def Qhy:List RS:=[.tmp 4]
theorem Qyn:mFn prog Qc0 2 22 Qy7 Qhy=true:=by kernel_rfl
def Qlr:List Item:=[fB 5 false]
def Qe5:List Item:=[gF 11 8 (.not (.t 10)),pT 12 8 11]
def Qe6:List Item:=[fB 5 false]
def Q72:SC:=cT 12 (sR (fI 13 (.bld [.sl true 3 []] [])::sJ 1 4 13::Qe6) [4,5] .ret) .skip
def Qls:List Item:=[fB 5 true]
def Q73:SC:=sR (tJ 14 1 2::sJ 1 4 14::Qls) [4,5] .ret
def Q74:SC:=.seq (sR (mJ 6 1::oJ 7 6::mJ 8 7::gF 9 8 (.ld 1 true (.t 2))::.e (some 10) (some (8,false)) (.call Qcd [.t 9])::Qe5) [2,4,12] Q72) Q73
def Qajw:SC:=sR (vJ 2 0::eI 4 (.alloc [.sl true 3 []])::Qlr) [1,2,4] Q74
def Qfk:List RS:=[.cell 4 1 true,.tmp 5]
theorem Qah9:mFn prog Qhl 2 15 Qajw Qfk=true:=by kernel_rfl
def Qxf:List Item:=[mJ 3 15]
def Qxg:List Item:=[mJ 4 21,sJ 5 5 23]
def Qxh:List Item:=[mJ 6 26]
def Qxi:List Item:=[sJ 2 8 33]
def Qxj:List Item:=[mJ 9 34]
def Qaqh:SC:=.reg [mJ 42 9,mJ 43 11,fJ 44 1 8,lJ 45 44,mJ 46 10,iJ 47 1 45 46,lJ 48 47,.e none none (.upd 0 (.t 42) (.t 43) (.t 48))] [1,3,4,6,8,9,17,18,19,28,29,30,35,36,37]
def Qaqi:SC:=.reg [cJ 49 .add 37 1,mJ 37 49] [1,3,4,6,8,9,17,18,19,28,29,30,35,36,37]
def Qaqj:SC:=.seq (.block 5 (sR [mJ 39 37,iJ 40 1 35 37,lJ 41 40,mJ 10 39,mJ 11 41] [1,3,4,6,8,9,10,11,17,18,19,28,29,30,35,36,37] Qaqh)) Qaqi
def Qakc:SC:=sR [bJ 38 .lss 37 36] [1,3,4,6,8,9,17,18,19,28,29,30,35,36,37,38] (cX 38 4 Qaqj)
def Qxk:List Item:=[iJ 59 1 50 51,sJ 1 59 58]
def Qaj0:SC:=.reg (mJ 50 3::mJ 51 4::mJ 52 3::mJ 53 4::iJ 54 1 52 53::lJ 55 54::mJ 56 9::fI 57 (.bsl 1 [.t 56])::xJ 58 1 55 57::Qxk) [1,3,4,6,17,18,19,28,29,30]
def Qaj1:SC:=.seq (sR [mJ 35 6,nJ 36 35,zJ 37 0] [1,3,4,6,8,9,17,18,19,28,29,30,35,36,37] (bL 4 Qakc)) Qaj0
def Qaj2:SC:=sR (eI 34 (.mkm)::Qxj) [1,3,4,6,8,9,17,18,19,28,29,30] Qaj1
def Qaj3:SC:=.reg [cJ 60 .add 30 1,mJ 30 60] [1,3,4,6,17,18,19,28,29,30]
def Qaj4:SC:=.seq (.block 3 (sR (iJ 32 2 28 30::tJ 33 2 32::eI 8 (.alloc [.int .i64 0,.sl true 1 []])::Qxi) [1,3,4,6,8,17,18,19,28,29,30] Qaj2)) Qaj3
def Qaco:SC:=sR [bJ 31 .lss 30 29] [1,3,4,6,17,18,19,28,29,30,31] (cX 31 2 Qaj4)
def Qaj5:SC:=sR [fJ 27 0 5,lJ 28 27,nJ 29 28,zJ 30 0] [1,3,4,6,17,18,19,28,29,30] (bL 2 Qaco)
def Qaj6:SC:=sR (tJ 24 3 1::mJ 25 4::aJ 26 Qcn [.t 24,.t 25]::Qxh) [1,3,4,5,6,17,18,19] Qaj5
def Qaj7:SC:=.reg [cJ 61 .add 19 1,mJ 19 61] [1,3,17,18,19]
def Qaj8:SC:=.seq (.block 1 (sR (mJ 21 19::iJ 22 5 17 19::tJ 23 5 22::eI 5 (.alloc [.sl true 2 [],.sl true 4 [],.int .i64 0,.int .i64 0,.sl true 1 []])::Qxg) [1,3,4,5,17,18,19] Qaj6)) Qaj7
def Qacp:SC:=sR [bJ 20 .lss 19 18] [1,3,17,18,19,20] (cX 20 0 Qaj8)
def Qaj9:SC:=sR [mJ 62 3,mJ 2 62] [2] .ret
def Qaka:SC:=.seq (sR [fJ 16 2 1,lJ 17 16,nJ 18 17,zJ 19 0] [1,3,17,18,19] (bL 0 Qacp)) Qaj9
def Qakb:SC:=sR (fJ 12 2 1::lJ 13 12::nJ 14 13::eI 15 (.mks 1 [.sl true 1 []] (.t 14))::Qxf) [1,3] Qaka
def Qazl:SC:=sR [vJ 1 0,fI 2 (.mv (.k (.c (.sl true 1 []))))] [1] Qakb
def Qabb:List RS:=[.tmp 2]
theorem Qayq:mFn prog Qiw 1 63 Qazl Qabb=true:=by kernel_rfl
def Qxl:List Item:=[mJ 5 20]
def Qxm:List Item:=[mJ 6 28,sJ 1 7 30]
def Qxn:List Item:=[hJ 34 33,.chk 36 none (.iad 5 (.t 34) (.t 35)),hJ 38 37,iJ 43 2 38 39,fJ 44 1 43,sJ 1 44 42]
def Qaqo:SC:=.dreg 15 [0,1,2,3,4,5,6,7,8,9,10,11,3,5,7,12,13,14] ( mJ 31 0::kJ 32 31::fJ 33 2 32::lJ 34 33::mJ 35 4::iJ 36 5 34 35::fJ 37 0 36::lJ 38 37::mJ 39 6::mJ 40 5::fI 41 (.mkf Qcf [.t 7])::aJ 42 Qc0 [.t 40,.t 41]::Qxn) [0,1,4,5,12,13,24,25,26]
def Qaqp:SC:=.reg [cJ 45 .add 26 1,mJ 26 45] [0,1,4,5,12,13,24,25,26]
def Qaqq:SC:=.seq (.block 3 (sR (mJ 28 26::iJ 29 1 24 26::lJ 30 29::eI 7 (.alloc [.mnil])::Qxm) [0,1,4,5,6,7,12,13,24,25,26] Qaqo)) Qaqp
def Qalf:SC:=sR [bJ 27 .lss 26 25] [0,1,4,5,12,13,24,25,26,27] (cX 27 2 Qaqq)
def Qaqr:SC:=sR [mJ 21 1,mJ 22 4,iJ 23 1 21 22,lJ 24 23,nJ 25 24,zJ 26 0] [0,1,4,5,12,13,24,25,26] (bL 2 Qalf)
def Qaqs:SC:=sR (mJ 16 0::kJ 17 16::tJ 18 3 17::mJ 19 4::aJ 20 Qcn [.t 18,.t 19]::Qxl) [0,1,4,5,12,13] Qaqr
def Qaqt:SC:=.reg [cJ 46 .add 13 1,mJ 13 46] [0,1,12,13]
def Qald:SC:=.seq (.block 1 (sR [mJ 15 13,mJ 4 15] [0,1,4,12,13] Qaqs)) Qaqt
def Qac0:SC:=sR [bJ 14 .lss 13 12] [0,1,12,13,14] (cX 14 0 Qald)
def Qazn:SC:=sR [mJ 8 0,kJ 9 8,fJ 10 2 9,lJ 11 10,nJ 12 11,zJ 13 0] [0,1,12,13] (bL 0 Qac0)
def Qabc:List RS:=[]
theorem Qayr:mFn prog Qix 2 47 Qazn Qabc=true:=by kernel_rfl
def Q76:SC:=sR [lJ 4 1,mJ 5 0,fI 6 (.lup 0 (.c (.int .i64 0)) (.t 4) (.t 5)),mJ 3 6] [3] .ret
def Qale:SC:=sR [zJ 3 0] [0,1] Q76
def Qwv:List RS:=[.tmp 3]
theorem Qaib:mFn prog Qcf 2 7 Qale Qwv=true:=by kernel_rfl
def Qlw:List Item:=[nJ 17 16,cJ 18 .lss 17 2]
def Q77:SC:=cT 18 (sR [fI 4 (.mv (.k (.c (.sl true 1 []))))] [4] .ret) .skip
def Qe7:List Item:=[gT 34 30 (.not (.t 33)),pF 35 30 34]
def Qe8:List Item:=nJ 28 27::cJ 29 .gtr 28 1::mJ 30 29::gTm 31 30 6::gTm 32 30 8::.e (some 33) (some (30,true)) (.call Qfj [.t 31,.t 32])::Qe7
def Qlx:List Item:=[mJ 6 39]
def Q78:SC:=cT 35 (.reg (mJ 36 6::mJ 37 8::fI 38 (.bsl 1 [.t 37])::xJ 39 1 36 38::Qlx) [2,6,19,20,21]) .skip
def Q79:SC:=sR (tJ 25 3 2::mJ 26 8::aJ 27 Qcn [.t 25,.t 26]::Qe8) [2,6,8,19,20,21,35] Q78
def Q8a:SC:=.reg [cJ 40 .add 21 1,mJ 21 40] [2,6,19,20,21]
def Q8b:SC:=.seq (.block 1 (sR [iJ 23 1 19 21,lJ 24 23,mJ 8 24] [2,6,8,19,20,21] Q79)) Q8a
def Q3n:SC:=sR [bJ 22 .lss 21 20] [2,6,19,20,21,22] (cX 22 0 Q8b)
def Q3i:SC:=sR [mJ 41 6,mJ 4 41] [4] .ret
def Q3j:SC:=.seq (sR [mJ 19 5,nJ 20 19,zJ 21 0] [2,6,19,20,21] (bL 0 Q3n)) Q3i
def Q3k:SC:=sR [fI 6 (.mv (.k (.c (.sl true 1 []))))] [2,5,6] Q3j
def Q3l:SC:=.seq (sR (mJ 15 5::aJ 16 Q2h [.t 15]::Qlw) [2,5,18] Q77) Q3k
def Q3m:SC:=sR [fJ 9 2 2,lJ 10 9,mJ 11 1,iJ 12 5 10 11,fJ 13 4 12,lJ 14 13,mJ 5 14] [2,5] Q3l
def Qalg:SC:=sR [vJ 2 0,fI 4 (.mv (.k (.c (.sl true 1 []))))] [1,2] Q3m
def Qkg:List RS:=[.tmp 4]
theorem Qaic:mFn prog Qd2 2 42 Qalg Qkg=true:=by kernel_rfl
def Ql0:List Item:=[sJ 3 3 14]
def Ql1:List Item:=eI 3 (.alloc [.int .i64 0,.int .i64 0,.sl true 5 []])::Ql0
def Ql2:List Item:=[mJ 4 16]
def Ql3:List Item:=[nJ 26 25,zJ 27 0]
def Ql4:List Item:=[fJ 41 2 3,sJ 1 41 40]
def Ql5:List Item:=[mJ 4 44]
def Q8c:SC:=cT 59 (.reg [fJ 60 2 3,lJ 61 60,mJ 62 5,iJ 63 5 61 62,fJ 64 4 63,lJ 65 64,mJ 66 9,mJ 67 8,iJ 68 1 65 66,sJ 1 68 67] [1,2,3,4,5,7,8,19,20,25,26,27,50,51,52]) .skip
def Q8d:SC:=sR [mJ 57 10,mJ 58 7,bJ 59 .eql 57 58] [1,2,3,4,5,7,8,9,19,20,25,26,27,50,51,52,59] Q8c
def Q8e:SC:=.reg [cJ 69 .add 52 1,mJ 52 69] [1,2,3,4,5,7,8,19,20,25,26,27,50,51,52]
def Q8f:SC:=.seq (.block 5 (sR [mJ 54 52,iJ 55 1 50 52,lJ 56 55,mJ 9 54,mJ 10 56] [1,2,3,4,5,7,8,9,10,19,20,25,26,27,50,51,52] Q8d)) Q8e
def Q02:SC:=sR [bJ 53 .lss 52 51] [1,2,3,4,5,7,8,19,20,25,26,27,50,51,52,53] (cX 53 4 Q8f)
def Q3o:SC:=.reg [mJ 84 12,mJ 85 5,.e none none (.del 0 (.t 84) (.t 85))] [1,2,3,4,5,8,19,20,25,26,27,73,74,75]
def Q3p:SC:=sR [mJ 79 12,mJ 80 8,mJ 81 12,mJ 82 5,fI 83 (.lup 0 (.c (.int .i64 0)) (.t 81) (.t 82)),.e none none (.upd 0 (.t 79) (.t 80) (.t 83))] [1,2,3,4,5,8,12,19,20,25,26,27,73,74,75] Q3o
def Q3q:SC:=.reg [cJ 86 .add 75 1,mJ 75 86] [1,2,3,4,5,8,19,20,25,26,27,73,74,75]
def Q3r:SC:=.seq (.block 7 (sR [iJ 77 1 73 75,lJ 78 77,mJ 12 78] [1,2,3,4,5,8,12,19,20,25,26,27,73,74,75] Q3p)) Q3q
def Q03:SC:=sR [bJ 76 .lss 75 74] [1,2,3,4,5,8,19,20,25,26,27,73,74,75,76] (cX 76 6 Q3r)
def Q3s:SC:=sR [mJ 70 4,mJ 71 7,iJ 72 1 70 71,lJ 73 72,nJ 74 73,zJ 75 0] [1,2,3,4,5,8,19,20,25,26,27,73,74,75] (bL 6 Q03)
def Q3t:SC:=.seq (sR [fJ 45 2 3,lJ 46 45,mJ 47 5,iJ 48 5 46 47,fJ 49 4 48,lJ 50 49,nJ 51 50,zJ 52 0] [1,2,3,4,5,7,8,19,20,25,26,27,50,51,52] (bL 4 Q02)) Q3s
def Q3u:SC:=sR (mJ 42 4::fI 43 (.bsl 1 [.k (.c (.sl true 1 []))])::xJ 44 1 42 43::Ql5) [1,2,3,4,5,7,8,19,20,25,26,27] Q3t
def Q3v:SC:=sR (fJ 34 2 3::lJ 35 34::mJ 36 7::fI 37 (.bsl 1 [.t 36])::fI 38 (.bld [.sl true 2 [],.sl true 4 [],.int .i64 0,.int .i64 0,.sl true 1 []] [(2,1,kI 1),(4,1,.t 37)])::fI 39 (.bsl 5 [.t 38])::xJ 40 5 35 39::Ql4) [1,2,3,4,5,7,8,19,20,25,26,27] Q3u
def Qly:SC:=sR [fJ 31 2 3,lJ 32 31,nJ 33 32,mJ 8 33] [1,2,3,4,5,7,8,19,20,25,26,27] Q3v
def Q3w:SC:=.reg [cJ 87 .add 27 1,mJ 27 87] [1,2,3,4,5,19,20,25,26,27]
def Q3x:SC:=.seq (.block 3 (sR [iJ 29 1 25 27,lJ 30 29,mJ 7 30] [1,2,3,4,5,7,19,20,25,26,27] Qly)) Q3w
def Q04:SC:=sR [bJ 28 .lss 27 26] [1,2,3,4,5,19,20,25,26,27,28] (cX 28 2 Q3x)
def Q3y:SC:=sR (tJ 23 3 1::mJ 24 5::aJ 25 Qd2 [.t 23,.t 24]::Ql3) [1,2,3,4,5,19,20,25,26,27] (bL 2 Q04)
def Q3z:SC:=.reg [cJ 88 .add 20 1,mJ 20 88] [1,2,3,4,19,20]
def Q30:SC:=.seq (.block 1 (sR [mJ 22 20,mJ 5 22] [1,2,3,4,5,19,20] Q3y)) Q3z
def Q05:SC:=sR [bJ 21 .lss 20 19] [1,2,3,4,19,20,21] (cX 21 0 Q30)
def Q31:SC:=sR [tJ 91 3 3,sJ 3 2 91] [2] .ret
def Qlz:SC:=.seq (.seq .gh (.reg [mJ 89 4,aJ 90 Qix [.t 3,.t 89]] [2,3])) Q31
def Q32:SC:=.seq (sR [fJ 17 2 1,lJ 18 17,nJ 19 18,zJ 20 0] [1,2,3,4,19,20] (bL 0 Q05)) Qlz
def Q33:SC:=sR (tJ 15 3 1::aJ 16 Qiw [.t 15]::Ql2) [1,2,3,4] Q32
def Q34:SC:=sR (tJ 13 3 1::aJ 14 Qhe [.t 13]::Ql1) [1,2,3] Q33
def Qalh:SC:=sR [vJ 1 0,eI 2 (.alloc [.int .i64 0,.int .i64 0,.sl true 5 []])] [1,2] Q34
def Qww:List RS:=[.cell 2 3 true]
theorem Qaid:mFn prog Qhm 1 92 Qalh Qww=true:=by kernel_rfl
def Qauq:SC:=.reg [mJ 20 9,cJ 21 .add 20 1,mJ 9 21] [2,3,7,8,9]
def Qaur:SC:=.seq (.block 1 (.dreg 12 [0,1,2,3,4,5,6,7,8,9,10,11] ( mJ 22 8::mJ 23 22::gFm 24 23 7::gFm 25 23 9::gF 26 23 (.iad 1 (.t 24) (.t 25))::gFl 27 23 26::gFm 28 23 7::gF 29 23 (.iad 1 (.t 28) (kI 0))::gFl 30 23 29::gF 31 23 (.bin 0 .neq (.t 27) (.t 30))::pT 32 23 31::mJ 8 32::[]) [2,3,7,8,9])) Qauq
def Qaqw:SC:=.seq (sR [mJ 16 9,mJ 17 7,nJ 18 17,bJ 19 .lss 16 18] [2,3,7,8,9,19] (cT 19 .skip (.exit 0))) Qaur
def Qnc:List Item:=[gT 41 34 (.len (.t 40)),gT 42 34 (.bin 0 .gtr (.t 41) (kI 1)),pF 43 34 42,mJ 6 43]
def Qaus:SC:=.seq (.dreg 12 [0,1,2,3,4,5,6,7,8,9,10,11] ( mJ 33 8::mJ 34 33::gT 35 34 (.ld 3 true (.t 3))::gTm 36 34 7::gTm 37 34 2::gT 38 34 (.iad 1 (.t 36) (.t 37))::gTl 39 34 38::.e (some 40) (some (34,true)) (.call Qdn [.t 35,.t 39])::Qnc) [6]) .ret
def Qaut:SC:=.seq (sR [zJ 9 0] [2,3,7,8,9] (bL 0 Qaqw)) Qaus
def Qauu:SC:=sR [fB 8 false] [2,3,7,8] Qaut
def Qauv:SC:=sR [fJ 10 2 3,lJ 11 10,mJ 12 1,iJ 13 5 11 12,fJ 14 4 13,lJ 15 14,mJ 7 15] [2,3,7] Qauu
def Qa6z:SC:=sR [vJ 3 0,fB 6 false] [1,2,3] Qauv
def Q24:List RS:=[.tmp 6]
theorem Qa6a:mFn prog Qyh 3 44 Qa6z Q24=true:=by kernel_rfl
def Q09:List Item:=[sJ 3 3 15]
def Q1a:List Item:=eI 3 (.alloc [.int .i64 0,.int .i64 0,.sl true 5 []])::Q09
def Q1b:List Item:=[fJ 67 2 3,sJ 1 67 66]
def Qauw:SC:=.reg (fJ 58 2 3::lJ 59 58::fI 60 (.bsl 2 [])::fI 61 (.bsl 4 [])::mJ 62 6::fI 63 (.bsl 1 [.t 62])::fI 64 (.bld [.sl true 2 [],.sl true 4 [],.int .i64 0,.int .i64 0,.sl true 1 []] [(0,1,.t 60),(1,1,.t 61),(2,1,kI 1),(4,1,.t 63)])::fI 65 (.bsl 5 [.t 64])::xJ 66 5 59 65::Q1b) [1,2,3,4,5]
def Q5n:SC:=.seq (.dreg 12 [0,1,2,3,4,5,6,7,8,9,10,11] ( fJ 47 2 3::lJ 48 47::mJ 49 4::iJ 50 5 48 49::fJ 51 4 50::lJ 52 51::mJ 53 5::fJ 54 2 3::lJ 55 54::nJ 56 55::iJ 57 1 52 53::sJ 1 57 56::[]) [1,2,3,4,5,6]) Qauw
def Qaux:SC:=cT 37 (sR [fJ 38 2 1,lJ 39 38,mJ 40 4,iJ 41 5 39 40,fJ 42 4 41,lJ 43 42,mJ 44 5,iJ 45 1 43 44,lJ 46 45,mJ 6 46] [1,2,3,4,5,6] Q5n) .skip
def Qauy:SC:=.reg [mJ 32 5,cJ 33 .add 32 1,mJ 5 33] [1,2,3,4,5]
def Qauz:SC:=.seq (.block 3 (sR [tJ 34 3 1,mJ 35 4,mJ 36 5,aJ 37 Qyh [.t 34,.t 35,.t 36]] [1,2,3,4,5,37] Qaux)) Qauy
def Qarf:SC:=.seq (sR [mJ 23 5,fJ 24 2 1,lJ 25 24,mJ 26 4,iJ 27 5 25 26,fJ 28 4 27,lJ 29 28,nJ 30 29,bJ 31 .lss 23 30] [1,2,3,4,5,31] (cT 31 .skip (.exit 2))) Qauz
def Qau0:SC:=.reg [mJ 21 4,cJ 22 .add 21 1,mJ 4 22] [1,2,3,4]
def Qaqx:SC:=.seq (.block 1 (sR [zJ 5 0] [1,2,3,4,5] (bL 2 Qarf))) Qau0
def Qxt:SC:=.seq (sR [mJ 16 4,fJ 17 2 1,lJ 18 17,nJ 19 18,bJ 20 .lss 16 19] [1,2,3,4,20] (cT 20 .skip (.exit 0))) Qaqx
def Qxo:List Item:=[mJ 8 77]
def Qxp:List Item:=[mJ 9 80]
def Qxq:List Item:=[fI 111 (.iad 1 (.t 110) (kI 0)),lJ 112 111,mJ 13 112]
def Qaqy:SC:=cT 107 (.reg (tJ 108 3 3::mJ 109 13::aJ 110 Qdn [.t 108,.t 109]::Qxq) [1,2,3,7,8,9,10,11,12,13]) .skip
def Qxr:List Item:=[mJ 11 130]
def Qxs:List Item:=hJ 115 114::.chk 117 none (.iad 5 (.t 115) (.t 116))::hJ 119 118::.chk 121 none (.iad 2 (.t 119) (.t 120))::hJ 123 122::iJ 127 1 123 126::lJ 128 127::fI 129 (.bsl 1 [.t 128])::xJ 130 1 113 129::Qxr
def Qaqz:SC:=.dreg 19 [0,1,2,3,4,5,6,7,8,9,10,11,12,13,2,4,6,8,10,14,15,16,17,18] ( mJ 113 11::fJ 114 2 1::lJ 115 114::mJ 116 7::iJ 117 5 115 116::fJ 118 0 117::lJ 119 118::mJ 120 10::iJ 121 2 119 120::fJ 122 1 121::lJ 123 122::mJ 124 8::mJ 125 13::aJ 126 Qaot [.t 124,.t 125]::Qxs) [1,2,3,7,8,9,10,11,12]
def Qaq0:SC:=.seq (sR [mJ 103 13,fJ 104 2 1,lJ 105 104,nJ 106 105,bJ 107 .geq 103 106] [1,2,3,7,8,9,10,11,12,13,107] Qaqy) Qaqz
def Qaq1:SC:=.reg [mJ 97 12,cJ 98 .add 97 1,mJ 12 98] [1,2,3,7,8,9,10,11,12]
def Qaq2:SC:=.seq (.block 9 (sR [mJ 99 9,mJ 100 12,iJ 101 1 99 100,lJ 102 101,mJ 13 102] [1,2,3,7,8,9,10,11,12,13] Qaq0)) Qaq1
def Qali:SC:=.seq (sR [mJ 93 12,mJ 94 9,nJ 95 94,bJ 96 .lss 93 95] [1,2,3,7,8,9,10,11,12,96] (cT 96 .skip (.exit 8))) Qaq2
def Qaq3:SC:=.seq .gh (.reg [fJ 131 2 3,lJ 132 131,mJ 133 7,iJ 134 5 132 133,fJ 135 0 134,lJ 136 135,mJ 137 10,mJ 138 11,iJ 139 2 136 137,fJ 140 1 139,sJ 1 140 138] [1,2,3,7,8,9,10])
def Qaq4:SC:=.seq (sR [zJ 12 0] [1,2,3,7,8,9,10,11,12] (bL 8 Qali)) Qaq3
def Qaq5:SC:=.reg [mJ 90 10,cJ 91 .add 90 1,mJ 10 91] [1,2,3,7,8,9,10]
def Qaq6:SC:=.seq (.block 7 (sR [fI 92 (.bsl 1 []),mJ 11 92] [1,2,3,7,8,9,10,11] Qaq4)) Qaq5
def Qalj:SC:=.seq (sR [mJ 81 10,fJ 82 2 3,lJ 83 82,mJ 84 7,iJ 85 5 83 84,fJ 86 0 85,lJ 87 86,nJ 88 87,bJ 89 .lss 81 88] [1,2,3,7,8,9,10,89] (cT 89 .skip (.exit 6))) Qaq6
def Qaq7:SC:=sR [zJ 10 0] [1,2,3,7,8,9,10] (bL 6 Qalj)
def Qaq8:SC:=sR (tJ 78 3 3::mJ 79 7::aJ 80 Qdn [.t 78,.t 79]::Qxp) [1,2,3,7,8,9] Qaq7
def Qaq9:SC:=.reg [mJ 73 7,cJ 74 .add 73 1,mJ 7 74] [1,2,3,7]
def Qara:SC:=.seq (.block 5 (sR (tJ 75 3 1::mJ 76 7::aJ 77 Qdn [.t 75,.t 76]::Qxo) [1,2,3,7,8] Qaq8)) Qaq9
def Qxu:SC:=.seq (sR [mJ 68 7,fJ 69 2 1,lJ 70 69,nJ 71 70,bJ 72 .lss 68 71] [1,2,3,7,72] (cT 72 .skip (.exit 4))) Qara
def Qarb:SC:=sR [tJ 141 3 3,sJ 3 2 141] [2] .ret
def Qarc:SC:=.seq (.seq (.seq .gh (.reg [zJ 7 0] [1,2,3,7])) (bL 4 Qxu)) Qarb
def Qard:SC:=.seq (sR [zJ 4 0] [1,2,3,4] (bL 0 Qxt)) Qarc
def Qare:SC:=sR (tJ 14 3 1::aJ 15 Qq0 [.t 14]::Q1a) [1,2,3] Qard
def Qa60:SC:=sR [vJ 1 0,eI 2 (.alloc [.int .i64 0,.int .i64 0,.sl true 5 []])] [1,2] Qare
def Qan6:List RS:=[.cell 2 3 true]
theorem Qa6b:mFn prog Qyi 1 142 Qa60 Qan6=true:=by kernel_rfl
def Qzi:SC:=cT 14 (sR [fB 2 true] [2] .ret) .skip
def Qgf:List Item:=[sJ 1 3 16]
def Qgg:List Item:=eI 3 (.alloc [.sl true 3 []])::Qgf
def Qgh:List Item:=[mJ 5 21]
def Qgi:List Item:=sJ 1 4 20::Qgh
def Qgj:List Item:=mJ 17 19::fI 20 (.ext (.t 17) 0)::fI 21 (.ext (.t 17) 1)::eI 4 (.alloc [.sl true 3 []])::Qgi
def Qgk:List Item:=[mJ 7 26]
def Qgl:List Item:=sJ 1 6 25::Qgk
def Qgm:List Item:=mJ 22 24::fI 25 (.ext (.t 22) 0)::fI 26 (.ext (.t 22) 1)::eI 6 (.alloc [.sl true 3 []])::Qgl
def Qc3:List Item:=[gF 34 30 (.not (.t 33)),pT 35 30 34,mJ 36 35,gFm 37 36 5,gF 38 36 (.not (.t 37)),pT 39 36 38]
def Qfw:List Item:=[pF 47 43 46,mJ 2 47]
def Qvk:SC:=cT 39 (sR (mJ 40 5::mJ 41 7::fI 42 (.bin 1 .eql (.t 40) (.t 41))::mJ 43 42::gT 44 43 (.ld 1 true (.t 4))::gT 45 43 (.ld 1 true (.t 6))::.e (some 46) (some (43,true)) (.call Qbw [.t 44,.t 45])::Qfw) [2] .ret) .skip
def Qfx:List Item:=[mJ 9 52]
def Qfy:List Item:=sJ 1 8 51::Qfx
def Qfz:List Item:=mJ 48 50::fI 51 (.ext (.t 48) 0)::fI 52 (.ext (.t 48) 1)::eI 8 (.alloc [.sl true 3 []])::Qfy
def Qf0:List Item:=[mJ 10 58,sJ 3 11 60]
def Qf1:List Item:=[.chk 78 (some (76,false)) (.ld 1 false (.t 77)),.chk 79 (some (76,false)) (.len (.t 78)),.chk 81 (some (76,false)) (.ld 1 false (.t 80)),.chk 83 (some (76,false)) (.iad 3 (.t 81) (.t 82)),.chk 85 (some (76,false)) (.ld 1 false (.t 84)),.chk 86 (some (76,false)) (.len (.t 85)),gF 94 76 (.bin 1 .neq (.t 87) (.t 93)),pT 95 76 94]
def Qf2:List Item:=mJ 63 62::gFf 64 63 2 11::gFl 65 63 64::gF 66 63 (.len (.t 65))::gFf 67 63 0 3::gFl 68 63 67::gFm 69 63 10::gF 70 63 (.iad 3 (.t 68) (.t 69))::gFf 71 63 2 70::gFl 72 63 71::gF 73 63 (.len (.t 72))::gF 74 63 (.bin 0 .lss (.t 66) (.t 73))::pT 75 63 74::mJ 76 75::gFf 77 76 2 11::gFl 78 76 77::gF 79 76 (.len (.t 78))::gFf 80 76 0 3::gFl 81 76 80::gFm 82 76 10::gF 83 76 (.iad 3 (.t 81) (.t 82))::gFf 84 76 2 83::gFl 85 76 84::gF 86 76 (.len (.t 85))::gF 87 76 (.bin 0 .gtr (.t 79) (.t 86))::gFf 88 76 0 3::gFl 89 76 88::gFm 90 76 10::gF 91 76 (.iad 3 (.t 89) (.t 90))::gF 92 76 (.ld 3 true (.t 91))::.e (some 93) (some (76,false)) (.call Qfh [.t 92])::Qf1
def Qvl:SC:=cT 95 (sR [fB 2 false] [2] .ret) .skip
def Qvm:SC:=.seq (.dreg 35 [0,1,2,3,4,5,6,7,8,9,10,11,12,13,14,15,16,17,18,19,20,21,22,23,24,25,26,27,28,29,30,31,32,17,18,20,22,24,25,33,34] ( tJ 61 3 11::aJ 62 Qfh [.t 61]::Qf2) [3,4,8,9,54,55,56,95]) Qvl
def Qvn:SC:=.reg [cJ 96 .add 56 1,mJ 56 96] [3,4,8,9,54,55,56]
def Qvo:SC:=.seq (.block 1 (sR (mJ 58 56::iJ 59 3 54 56::tJ 60 3 59::eI 11 (.alloc [.int .i64 0,.int .i64 0,.sl true 5 []])::Qf0) [3,4,8,9,10,11,54,55,56] Qvm)) Qvn
def Qt6:SC:=sR [bJ 57 .lss 56 55] [3,4,8,9,54,55,56,57] (cX 57 0 Qvo)
def Qf3:List Item:=[gT 108 103 (.bin 0 .eql (.t 105) (.t 107)),pF 109 103 108,mJ 2 109]
def Qf4:List Item:=.chk 106 (some (103,true)) (.ld 1 true (.t 3))::.e (some 107) (some (103,true)) (.call Qfi [.t 106])::Qf3
def Qf5:List Item:=pF 102 98 101::mJ 103 102::gT 104 103 (.ld 1 true (.t 4))::gT 106 103 (.ld 1 true (.t 3))::.e (some 105) (some (103,true)) (.call Qfi [.t 104])::Qf4
def Qvp:SC:=.seq (.dreg 14 [0,1,2,3,4,5,6,7,9,8,9,10,11,12,13] ( mJ 97 9::mJ 98 97::gT 99 98 (.ld 1 true (.t 8))::gT 100 98 (.ld 1 true (.t 4))::.e (some 101) (some (98,true)) (.call Qhd [.t 99,.t 100])::Qf5) [2]) .ret
def Qvq:SC:=.seq (sR [fJ 53 0 4,lJ 54 53,nJ 55 54,zJ 56 0] [3,4,8,9,54,55,56] (bL 0 Qt6)) Qvp
def Qvr:SC:=sR (tJ 49 1 4::aJ 50 Qb7 [.t 49]::Qfz) [3,4,8,9] Qvq
def Qvs:SC:=.seq (sR (mJ 27 5::mJ 28 7::fI 29 (.bin 1 .neq (.t 27) (.t 28))::mJ 30 29::gF 31 30 (.ld 1 true (.t 4))::gF 32 30 (.ld 1 true (.t 6))::.e (some 33) (some (30,false)) (.call Qbw [.t 31,.t 32])::Qc3) [3,4,5,6,7,39] Qvk) Qvr
def Qvt:SC:=sR (tJ 23 1 3::aJ 24 Qde [.t 23]::Qgm) [3,4,5,6,7] Qvs
def Qvu:SC:=sR (tJ 18 1 3::aJ 19 Qb7 [.t 18]::Qgj) [3,4,5] Qvt
def Qvv:SC:=sR (mJ 15 0::aJ 16 Qbo [.t 15]::Qgg) [3] Qvu
def Qvw:SC:=.seq (sR [mJ 12 0,nJ 13 12,cJ 14 .gtr 13 1048576] [0,14] Qzi) Qvv
def Q4b:SC:=sR [fB 2 false] [0] Qvw
def Qe3:List RS:=[.tmp 2]
theorem Q2x:mFn prog Qi1 1 110 Q4b Qe3=true:=by kernel_rfl
def Qeu:List Item:=[sJ 1 2 5]
def Qev:List Item:=aJ 5 Q2i [.t 4]::Qeu
def Quv:SC:=sR (mJ 3 0::aJ 4 Q2n [.t 3]::Qev) [2] .ret
def Qzm:SC:=sR [eI 2 (.alloc [.sl true 3 []])] [0,2] Quv
def Qh3:List RS:=[.cell 2 1 true]
theorem Qyr:mFn prog Qbo 1 6 Qzm Qh3=true:=by kernel_rfl
def Qjw:List Item:=[fB 3 false]
def Qjx:List Item:=[mJ 3 7]
def Qjy:List Item:=fI 6 (.ext (.t 5) 0)::fI 7 (.ext (.t 5) 1)::sJ 1 2 6::Qjx
def Q4g:SC:=sR (tJ 4 1 1::eI 5 (.call Q2j [.t 4,.k (.c (.str [115,112,108,105,116]))])::Qjy) [2,3] .ret
def Qahl:SC:=sR (vJ 1 0::eI 2 (.alloc [.sl true 3 []])::Qjw) [1,2] Q4g
def Qrl:List RS:=[.cell 2 1 true,.tmp 3]
theorem Qaaz:mFn prog Qde 1 8 Qahl Qrl=true:=by kernel_rfl
end Go.AE.Y

namespace Go.AE.Y
attribute [local go_sem] cond_true cond_false Bool.not_true Bool.not_false
open Go.Proofs.Tryz
variable {H H0:Heap}{K:V→Heap→Prop}{q:CodeD}
theorem Qbf3 {ns ns':List Int}(h:ns.length≤2)(hp:ns'.Pairwise (· < ·))(hm:∀x,x∈ns'↔x∈ns):ns'.length<2↔twoB ns=false:=by
 cases ht:twoB ns with
 |true=>
  obtain⟨a,c,rfl,hne⟩:=(Qmd h).1 ht
  have ha:=(hm a).2 (by simp)
  have hc:=(hm c).2 (by simp)
  refine⟨fun hl=>?_,fun h=>by simp at h⟩
  match ns',hl with
  |[],_=>simp at ha
  |[x],_=>
   simp only[List.mem_singleton]at ha hc
   exact absurd (ha.trans hc.symm) hne
 |false=>
  refine⟨fun _=>rfl,fun _=>?_⟩
  match ns',hp,hm with
  |[],_,_=>simp
  |[x],_,_=>simp
  |x::y::r,hp,hm=>
   have hx:=(hm x).1 (by simp)
   have hy:=(hm y).1 (by simp)
   have hxy:x<y:=(List.pairwise_cons.1 hp).1 y (by simp)
   rcases (Qmd h).2 ht with h|⟨a,h|h⟩
   ·rw[h]at hx;simp at hx
   ·rw[h]at hx hy;simp only[List.mem_singleton]at hx hy;omega
   ·rw[h]at hx hy;simp only[List.mem_cons,List.not_mem_nil,or_false,or_self]at hx hy;omega
theorem Qbj0 {b:Nat}(h:twoB (gnx q b)=false):shL (gnx q) q.blocks.length b=[]:=by
 rw[shL,List.filter_eq_nil_iff]
 intro v _;simp[shV,h]
set_option maxHeartbeats 2000000 in
theorem Qahm {fl:Bool}{b:Nat}(ho:q.ok)(hb:b<q.blocks.length)(hK:∀fl H',Upd H H' []→K (.c (.sl fl 1 (Qg (shL (gnx q) q.blocks.length b)))) H') :
  Qp prog Qd2 [.ag [.int .i64 q.params,.int .i64 q.regs,.sl fl 5 (Qn q.blocks)],.c (.int .i64 b)] H K:=by
 have hb1:=ho.b1
 have hnl:=(ho.bs b hb).nxl
 have hrg:=(ho.bs b hb).nx
 rw[←Qk2 hb]at hnl hrg
 have hgn:q.blocks[b].next=gnx q b:=(Qk2 hb).symm
 obtain⟨ns,hns⟩:∃ns,gnx q b=ns:=⟨_,rfl⟩
 rw[hns]at hnl hrg hgn
 refine Qu ?_
 refine Qb Qai Qaic ?_
 refine Qa ?_
 simp only[go_sem]
 refine Qa ?_
 simp only[go_sem,hb,Ql,Qak _ _ hb,BlkD.cells,hgn]
 refine Q5 ?_
 refine Qa ?_
 simp only[go_sem]
 refine Qbll (by omega) fun ns' H2 hu h1 h2 h3=>?_
 have kn:=(Kn.start0 H).call0 hu
 have hot:=Qbf3 hnl h1 h2
 simp only[go_sem,Qlw,Qc]
 intro _
 refine Qi (Qe rfl ?_ ?_)
 ·intro hc
  have hlt:ns'.length<2:=by simp only[V.c.injEq,C.bool.injEq,decide_eq_true_eq]at hc;omega
  have ht:=hot.1 hlt
  refine Qa ?_
  simp only[go_sem]
  refine Qk ?_
  simp only[go_sem,X.next,Q4,Q7,Qkg,List.mem_singleton,forall_eq,RS.op]
  have:=hK true _ kn.fin
  rw[Qbj0 (by rw[hns];exact ht)]at this
  exact⟨_,.c _ _ (Qd rfl),this⟩
 ·intro hc
  have ht:twoB ns=true:=by
   cases h:twoB ns with
   |true=>rfl
   |false=>have:=hot.2 h;simp at hc;omega
  refine Qh ?_
  try simp only[go_sem]
  refine Qa ?_
  simp only[go_sem]
  refine Q5 ?_
  refine Qa ?_
  simp only[go_sem,Qc]
  try intro _
  refine Qi (Qf (Qx (fun m e1 H1=>∃(i:Nat) (t:C) (Lg:List (Nat×Obj)),m=ns.length-i∧i≤ns.length∧Gr Lg 1 (Qg ((ns.take i).filter (shV (gnx q) q.blocks.length b))) t∧Kn H H1 [] ([]++Lg)∧
   lk 2 e1=.c (.pp [.int .i64 q.params,.int .i64 q.regs,.sl fl 5 (Qn q.blocks)])∧lk 6 e1=.c t∧lk 19 e1=.c (.sl false 1 (Qg ns))∧lk 20 e1=.c (.int .i64 ns.length)∧lk 21 e1=.c (.int .i64 i)) ns.length ?_ ?_))
  ·exact⟨0,_,[],by omega,by omega,.nil 1,kn,rfl,rfl,rfl,rfl,rfl⟩
  ·clear kn
   rintro m e1 H1 ⟨i,t,Lg,hm,hi,hgr,kn,l2,l6,l19,l20,l21⟩
   have htw:=hgr.isOw
   refine Qa ?_
   simp only[go_sem,l2,l6,l19,l20,l21,htw]
   refine Qi (Qe rfl ?_ ?_)
   ·intro hc1
    have hlt:i<ns.length:=by simpa using hc1
    obtain⟨v,hv⟩:∃v,ns[i]=v:=⟨_,rfl⟩
    have hgd:ns.getD i 0=v:=by simp[List.getD_eq_getElem?_getD,hlt,hv]
    have hvm:v∈ns:=by rw[←hv];exact List.getElem_mem hlt
    have hvr:=hrg v hvm
    obtain⟨a,c,hac,hne⟩:=(Qmd hnl).1 ht
    have hnm:v∉(ns.take i).filter (shV (gnx q) q.blocks.length b):=fun hh=>by
     have hh:=(List.mem_filter.1 hh).1
     subst hac
     match i,hlt,hv with
     |0,_,_=>simp at hh
     |1,_,hv=>simp at hh hv;omega
     |i+2,h,_=>simp at h;omega
    have hnc:((ns.take i).filter (shV (gnx q) q.blocks.length b)).contains v=false:=by
     rw[Bool.eq_false_iff];exact fun h=>hnm (List.contains_iff_mem.1 h)
    have hshv:shV (gnx q) q.blocks.length b v=decide (1<(Q1 (gnx q) v q.blocks.length).length):=by rw[shV,hns,ht,Bool.true_and]
    have hpi:Qkd (gnx q) v q.blocks.length=Q1 (gnx q) v q.blocks.length:=by rw[Qkd,if_pos (by simp only[Bool.and_eq_true,decide_eq_true_eq];omega)]
    have hpl:=Qbk (gnx q) v q.blocks.length
    have hfl:((ns.take i).filter (shV (gnx q) q.blocks.length b)).length≤2:=Nat.le_trans (List.length_filter_le _ _) (by rw[List.length_take];omega)
    have hfs:(ns.take (i+1)).filter (shV (gnx q) q.blocks.length b)=(ns.take i).filter (shV (gnx q) q.blocks.length b)++if shV (gnx q) q.blocks.length b v=true then [v]else []:=by
     rw[List.take_succ_eq_append_getElem hlt,List.filter_append,hv,List.filter_cons]
     split <;> rfl
    refine Qh ?_
    try simp only[go_sem]
    refine Qvd (fun e2 H2=>∃(t:C) (Lg:List (Nat×Obj)),Gr Lg 1 (Qg ((ns.take (i+1)).filter (shV (gnx q) q.blocks.length b))) t∧Kn H H2 [] ([]++Lg)∧
     lk 2 e2=.c (.pp [.int .i64 q.params,.int .i64 q.regs,.sl fl 5 (Qn q.blocks)])∧lk 6 e2=.c t∧lk 19 e2=.c (.sl false 1 (Qg ns))∧lk 20 e2=.c (.int .i64 ns.length)∧lk 21 e2=.c (.int .i64 i)) ?_ ?_
    ·intro Q hnr _ _
     refine Qf ?_
     refine Qa ?_
     simp only[go_sem,l2,l6,l19,l20,l21,htw,hlt,Qc,Qs _ _ hlt,hgd]
     refine Qa ?_
     simp only[go_sem,htw]
     refine Qzu (Qi2 H1 q fl) fun fl2 H3 hu=>?_
     have kn:=kn.call0 hu
     rw[Ql,hpi]
     by_cases hs:1<(Q1 (gnx q) v q.blocks.length).length
     ·have hs2:decide ((1:Int)<((Q1 (gnx q) v q.blocks.length).length:Nat))=true:=decide_eq_true (by omega)
      have hsv:shV (gnx q) q.blocks.length b v=true:=by rw[hshv];exact decide_eq_true hs
      rw[hsv,if_pos rfl]at hfs
      simp only[go_sem,Qe8,Qc,hs2,htw]
      intro _
      refine Qanf (hgr.slc kn) htw ?_
      rw[hnc]
      simp only[go_sem,Qe7,hs2,htw]
      refine Qe rfl (fun _=>?_) (fun h=>by simp at h)
      refine Qv ?_
      simp only[go_sem,htw]
      refine kn.growR (B:=[]) (new:=Qg [v]) hgr (.mk' _ _ _ _) (Qt _) (by simp only[Qc,LIM,List.length_cons,List.length_nil];omega) fun t2 Lg2 H4 hgr2 ht2 kn=>?_
      simp only[go_sem,Qlx,ht2]
      refine hnr _ _ ⟨t2,Lg2,?_,kn,rfl,rfl,rfl,rfl,rfl⟩
      rw[hfs,Qby];exact hgr2
     ·have hs2:decide ((1:Int)<((Q1 (gnx q) v q.blocks.length).length:Nat))=false:=decide_eq_false (by omega)
      have hsv:shV (gnx q) q.blocks.length b v=false:=by rw[hshv];exact decide_eq_false hs
      rw[hsv,if_neg (by simp),List.append_nil]at hfs
      simp only[go_sem,Qe8,Qc,hs2,htw]
      intro _
      simp only[go_sem,Qe7,hs2,htw]
      refine Qe rfl (fun h=>by simp at h) (fun _=>?_)
      refine Qh ?_
      try simp only[go_sem]
      refine hnr _ _ ⟨t,Lg,?_,kn,rfl,rfl,rfl,rfl,rfl⟩
      rw[hfs];exact hgr
    ·rintro e2 H2 ⟨t,Lg,hgr,kn,l2,l6,l19,l20,l21⟩
     refine Qv ?_
     simp only[go_sem,l2,l6,l19,l20,l21]
     refine⟨Qr (by omega) (by omega),?_⟩
     show ∃m,_
     exact⟨ns.length-(i+1),by omega,i+1,t,Lg,rfl,by omega,hgr,kn,rfl,rfl,rfl,rfl,rfl⟩
   ·intro hc1
    have hge:ns.length≤i:=by simpa using hc1
    rw[List.take_of_length_le hge]at hgr
    refine Qw ?_
    simp only[go_sem,X.next]
    refine Qa ?_
    simp only[go_sem,l6,htw]
    refine Qk ?_
    simp only[go_sem,Q4,Q7,Qkg,List.mem_singleton,forall_eq,RS.op,htw]
    have:=hK false _ kn.fin
    rw[shL,hns]at this
    exact⟨_,.c _ _ (hgr.frz kn (Qt _)),this⟩
end Go.AE.Y

namespace Go.AE.Y
attribute [local go_sem] cond_true cond_false Bool.not_true Bool.not_false
open Go.Proofs.Tryz
variable {H H0:Heap}{K:V→Heap→Prop}{q:CodeD}
def twoT (ns:List Int)(k:Nat):Bool:=(ns.take k).any fun v=>v != ns.headD 0
theorem Qbdx {ns:List Int}{k:Nat}(h:k<ns.length):twoT ns (k+1)=(twoT ns k || (ns[k] != ns.headD 0)):=by
 rw[twoT,twoT,List.take_succ_eq_append_getElem h,List.any_append];simp
set_option maxHeartbeats 2000000 in
theorem Qa53 {fl:Bool}{b i:Nat}(ho:q.ok)(hb:b<q.blocks.length)(hi:i<(gnx q b).length)(hK:∀H',Upd H H' []→K (.c (.bool (shV (gnx q) q.blocks.length b ((gnx q b).getD i 0)))) H') :
  Qp prog Qyh [.ag [.int .i64 q.params,.int .i64 q.regs,.sl fl 5 (Qn q.blocks)],.c (.int .i64 b),.c (.int .i64 i)] H K:=by
 have hb1:=ho.b1
 have hnl:=(ho.bs b hb).nxl
 rw[←Qk2 hb]at hnl
 have hgn:q.blocks[b].next=gnx q b:=(Qk2 hb).symm
 obtain⟨ns,hns⟩:∃ns,gnx q b=ns:=⟨_,rfl⟩
 rw[hns]at hnl hgn hi hK
 have h0:0<ns.length:=by omega
 have hhd:ns.headD 0=ns.getD 0 0:=by cases ns <;> rfl
 refine Qu ?_
 refine Qb Qai Qa6a ?_
 refine Qa ?_
 simp only[go_sem]
 refine Qa ?_
 simp only[go_sem,hb,Ql,Qak _ _ hb,BlkD.cells,hgn]
 refine Qa ?_
 simp only[go_sem]
 refine Q5 ?_
 refine Qa ?_
 simp only[go_sem]
 refine Qi (Qf (Qx (fun m e1 H1=>∃(k:Nat),m=ns.length-k∧k≤ns.length∧Kn H H1 [] []∧
  lk 2 e1=.c (.int .i64 i)∧lk 3 e1=.c (.pp [.int .i64 q.params,.int .i64 q.regs,.sl fl 5 (Qn q.blocks)])∧lk 7 e1=.c (.sl false 1 (Qg ns))∧lk 8 e1=.c (.bool (twoT ns k))∧lk 9 e1=.c (.int .i64 k)) ns.length ?_ ?_))
 ·exact⟨0,by omega,by omega,Kn.start0 H,rfl,rfl,rfl,rfl,rfl⟩
 ·rintro m e1 H1 ⟨k,hm,hk,kn,l2,l3,l7,l8,l9⟩
  refine Q5 ?_
  refine Qa ?_
  simp only[go_sem,l2,l3,l7,l8,l9,Qc]
  try intro _
  refine Qi (Qe rfl ?_ ?_)
  ·intro hc
   have hlt:k<ns.length:=by simpa using hc
   have hsucc:=Qbdx hlt
   have hgd:ns.getD k 0=ns[k]:=by simp[List.getD_eq_getElem?_getD,hlt]
   refine Qh ?_
   try simp only[go_sem]
   refine Qvd (fun e1 H1=>Kn H H1 [] []∧lk 2 e1=.c (.int .i64 i)∧lk 3 e1=.c (.pp [.int .i64 q.params,.int .i64 q.regs,.sl fl 5 (Qn q.blocks)])∧lk 7 e1=.c (.sl false 1 (Qg ns))∧lk 8 e1=.c (.bool (twoT ns (k+1)))∧lk 9 e1=.c (.int .i64 k)) ?_ ?_
   ·intro Q hnr _ _
    refine Qf ?_
    cases ht:twoT ns k with
    |true=>
     rw[ht]at l8 hsucc
     rw[Bool.true_or]at hsucc
     refine Qb5 ?_
     simp only[go_sem,l2,l3,l7,l8,l9,Qc,hlt,h0,Qs _ _ hlt,Qs _ _ h0,Qys]
     exact hnr _ _ ⟨kn,rfl,rfl,rfl,by rw[hsucc];rfl,rfl⟩
    |false=>
     rw[ht]at l8 hsucc
     rw[Bool.false_or]at hsucc
     refine Qb5 ?_
     simp only[go_sem,l2,l3,l7,l8,l9,Qc,hlt,h0,Qs _ _ hlt,Qs _ _ h0,Qys]
     have e:(ns[k] != ns.headD 0) = !decide (ns.getD k 0=ns.getD 0 0):=by
      rw[hhd,hgd]
      cases h:decide (ns[k]=ns.getD 0 0)with
      |true=>have:=of_decide_eq_true h;rw[this];simp
      |false=>have:=of_decide_eq_false h;exact bne_iff_ne.2 this
     exact⟨Int.le_refl 0,hnr _ _ ⟨kn,rfl,rfl,rfl,by rw[hsucc,e];rfl,rfl⟩⟩
   ·rintro e4 H6 ⟨kn,l2,l3,l7,l8,l9⟩
    refine Qv ?_
    simp only[go_sem,l2,l3,l7,l8,l9]
    refine⟨Qr (by omega) (by omega),?_⟩
    show ∃m,_
    exact⟨ns.length-(k+1),by omega,k+1,rfl,by omega,kn,rfl,rfl,rfl,rfl,rfl⟩
  ·intro hc
   have hge:ns.length≤k:=by simpa using hc
   have htw:twoT ns k=twoB ns:=by rw[twoT,List.take_of_length_le hge,twoB]
   refine Qw ?_
   simp only[go_sem,X.next]
   have hsh:shV (gnx q) q.blocks.length b (ns.getD i 0)=(twoB ns&&decide (1<(Q1 (gnx q) (ns.getD i 0) q.blocks.length).length)):=by rw[shV,hns]
   cases ht:twoB ns with
   |false=>
    rw[ht]at hsh htw
    refine Qae ?_
    simp only[go_sem,htw,Qnc,Qc,hi,Qs _ _ hi,Qys]
    refine Qk ?_
    simp only[go_sem,Q4,Q7,Q24,List.mem_singleton,forall_eq,RS.op]
    have:=hK _ kn.fin
    rw[hsh]at this
    exact⟨_,.c _ _ (Qd rfl),this⟩
   |true=>
    rw[ht]at hsh htw
    refine Qae ?_
    simp only[go_sem,htw,Qc,hi,Qs _ _ hi]
    refine Qk3 (nx:=gnx q) (.mk' _ _ _ _) rfl (Qi2 H1 q fl).x fun H2 hu=>?_
    have kn:=kn.call0 hu
    rw[Ql]
    simp only[go_sem,Qnc,Qc,Qys]
    try intro _
    refine Qk ?_
    simp only[go_sem,Q4,Q7,Q24,List.mem_singleton,forall_eq,RS.op]
    have:=hK _ kn.fin
    rw[hsh]at this
    have e:decide ((1:Int)<((Q1 (gnx q) (ns.getD i 0) q.blocks.length).length:Nat))=(true&&decide (1<(Q1 (gnx q) (ns.getD i 0) q.blocks.length).length)):=by
     rw[Bool.true_and];exact decide_eq_decide.2 (by omega)
    rw[←e]at this
    exact⟨_,.c _ _ (Qd rfl),this⟩
end Go.AE.Y

namespace Go.AE.Y
variable {H H0:Heap}{E:List (Nat×Obj)}{S:Nat→Bool}
theorem Qayf:∀(bs:List OBlk) {H3:Heap} {R:List (Nat×Obj)},FrzH H S H3→(∀b∈bs,b.ok∧Held H S (b.phis.flatMap OPhi.lg)∧∀p∈b.pl,H p.1=p.2∧S p.1=false)→Kn H0 H3 E (R++bs.flatMap OBlk.pl)→
  ∃(H4:Heap) (ks:List KBlk),FrzH H S H4∧ks.map KBlk.y=bs.map OBlk.d∧ks.map KBlk.pc=bs.map OBlk.pc∧(∀k∈ks,k.ok)∧Kn H0 H4 E (R++ks.flatMap KBlk.pl)
 |[],H3,R,hf,_,kn=>⟨H3,[],hf,rfl,rfl,by simp,by simpa using kn⟩
 |b::bs,H3,R,hf,hb,kn=>by
  obtain⟨hok,hHd,hpl⟩:=hb b List.mem_cons_self
  have hb':=fun x hx=>hb x (List.mem_cons_of_mem _ hx)
  rw[List.flatMap_cons]at kn
  rcases hok.p with ⟨h1,h2,h3⟩|⟨z,h1,h2⟩
  ·have hph0:b.phis=[]:=List.map_eq_nil_iff.1 h2
   rw[h3,List.nil_append]at kn
   obtain⟨H4,ks,g1,g2,g3,g4,g5⟩:=Qayf bs hf hb' kn
   refine⟨H4,⟨b.d,b.pc,[]⟩::ks,g1,by simp[g2],by simp[g3],fun k hk=>?_,by simpa using g5⟩
   rcases List.mem_cons.1 hk with rfl|hk
   ·show Gr [] 2 (Q0 b.d.phis) b.pc
    rw[h1];simp only[OBlk.d,hph0,List.map_nil];exact .nil 2
   ·exact g4 k hk
  ·obtain⟨hz1,hz2⟩:=hpl (z,.vec 2 (b.phis.map OPhi.row)) (by rw[h2];simp)
   have hph:=Qat0 hok.a hHd
   have hno:∀r∈b.phis.map OPhi.row,Go.AE.noOw r=true:=fun r hr=>by
    obtain⟨p,hp,rfl⟩:=List.mem_map.1 hr
    exact p.noOw (hok.a p hp)
   have hf2:=hf.set (o:=.vec 2 (Q0 b.d.phis)) hz2 (by rw[hz1];exact .vecR hph hno)
   rw[h2]at kn
   have kn:Kn H0 H3 E ([(z,.vec 2 (b.phis.map OPhi.row))]++(R++bs.flatMap OBlk.pl)):=kn.perm (Qm fun f hf h0 hc hp=>by simp only[hf];omega)
   have kn:=kn.setL (o':=.vec 2 (Q0 b.d.phis)) 0 rfl (by simp)
   have kn:Kn H0 (H3.set z (.vec 2 (Q0 b.d.phis))) E (([(z,.vec 2 (Q0 b.d.phis))]++R)++bs.flatMap OBlk.pl):=kn.perm (Qm fun f hf h0 hc hp=>by
    show f ([(z,_)]++(R++bs.flatMap OBlk.pl))=_
    simp only[hf];omega)
   obtain⟨H4,ks,g1,g2,g3,g4,g5⟩:=Qayf bs hf2 hb' kn
   refine⟨H4,⟨b.d,b.pc,[(z,.vec 2 (Q0 b.d.phis))]⟩::ks,g1,by simp[g2],by simp[g3],fun k hk=>?_,g5.perm (Qm fun f hf h0 hc hp=>by
    rw[List.flatMap_cons]
    simp only[hf];omega)⟩
   rcases List.mem_cons.1 hk with rfl|hk
   ·show Gr [(z,.vec 2 (Q0 b.d.phis))] 2 (Q0 b.d.phis) b.pc
    rw[h1];exact .mk _ _ _ (by simp[OBlk.d,Qy])
   ·exact g4 k hk
end Go.AE.Y

namespace Go.AE.Y
attribute [local go_sem] cond_true cond_false Bool.not_true Bool.not_false
open Go.Proofs.Tryz
variable {H H0:Heap}{K:V→Heap→Prop}{q:CodeD}{E L:List (Nat×Obj)}
def mI (l:List (Int×Int)):List (C×V):=l.map fun p=>(.int .i64 p.1,.c (.int .i64 p.2))
def lkI (k:Int):List (Int×Int)→Option Int
 |[]=>none
 |p::l=>if k=p.1 then some p.2 else lkI k l
def upI (k v:Int):List (Int×Int)→List (Int×Int)
 |[]=>[(k,v)]
 |p::l=>if k=p.1 then (k,v)::l else p::upI k v l
def deI (k:Int):List (Int×Int)→List (Int×Int)
 |[]=>[]
 |p::l=>if k=p.1 then l else p::deI k l
theorem Qbhq (l:List (Int×Int)):(mI l).length=l.length:=by simp[mI]
theorem Q9r (k:Int)(l:List (Int×Int)):Qra 0 (.int .i64 k) (mI l)=True:=by
 refine eq_true ?_
 simp only[Qra,mI,List.mem_map]
 rintro e ⟨p,_,rfl⟩
 exact⟨p.1,rfl⟩
theorem Qa4d (k:Int):∀(l:List (Int×Int)),Qqu (.int .i64 k) (mI l)=(lkI k l).map fun v=>.c (.int .i64 v)
 |[]=>rfl
 |p::l=>by
  have ih:=Qa4d k l
  simp only[mI,List.map_cons,Qqu,Qfs,lkI]at ih⊢
  by_cases h:k=p.1
  ·simp[h]
  ·simp only[h,decide_false,Bool.false_eq_true,if_false];exact ih
theorem Qa9x (k:Int)(l:List (Int×Int)):(Qqu (.int .i64 k) (mI l)).getD (.c (.int .i64 0))=.c (.int .i64 ((lkI k l).getD 0)):=by
 rw[Qa4d];cases lkI k l <;> rfl
theorem Qa33 (k v:Int):∀(l:List (Int×Int)),updE (.int .i64 k) (.c (.int .i64 v)) (mI l)=mI (upI k v l)
 |[]=>rfl
 |p::l=>by
  have ih:=Qa33 k v l
  simp only[mI,List.map_cons,updE,Qfs,upI]at ih⊢
  by_cases h:k=p.1
  ·simp[h]
  ·simp only[h,decide_false,Bool.false_eq_true,if_false,List.map_cons,ih]
theorem Qa9l (k:Int):∀(l:List (Int×Int)),delE (.int .i64 k) (mI l)=mI (deI k l)
 |[]=>rfl
 |p::l=>by
  have ih:=Qa9l k l
  simp only[mI,List.map_cons,delE,Qfs,deI]at ih⊢
  by_cases h:k=p.1
  ·simp[h]
  ·simp only[h,decide_false,Bool.false_eq_true,if_false,List.map_cons,ih]
theorem Qbdy (k v:Int):∀(l:List (Int×Int)),(upI k v l).length≤l.length+1
 |[]=>by simp[upI]
 |p::l=>by
  have ih:=Qbdy k v l
  simp only[upI]
  split
  ·simp
  ·simp only[List.length_cons];omega
theorem Qa9k (k:Int):∀(l:List (Int×Int)),(deI k l).length≤l.length
 |[]=>by simp[deI]
 |p::l=>by
  have ih:=Qa9k k l
  simp only[deI]
  split
  ·simp
  ·simp only[List.length_cons];omega
theorem Qbja (k v j:Int):∀(l:List (Int×Int)),lkI j (upI k v l)=if j=k then some v else lkI j l
 |[]=>by simp[upI,lkI]
 |p::l=>by
  have ih:=Qbja k v j l
  simp only[upI]
  by_cases h:k=p.1
  ·simp only[h,if_true,lkI]
   by_cases hj:j=p.1 <;> simp[hj]
  ·simp only[h,if_false,lkI,ih]
   by_cases hj:j=p.1
   ·have:¬j=k:=fun e=>h (e▸hj)
    simp[hj,this]
    intro e;exact absurd e.symm h
   ·simp[hj]
theorem Qbi9 {k j:Int}(hjk:¬j=k):∀(l:List (Int×Int)),lkI j (deI k l)=lkI j l
 |[]=>rfl
 |p::l=>by
  have ih:=Qbi9 hjk l
  simp only[deI]
  by_cases h:k=p.1
  ·have:¬j=p.1:=fun e=>hjk (e.trans h.symm)
   simp[h,lkI,this]
  ·simp only[h,if_false,lkI,ih]
theorem Qbdz {k v:Int}:∀{l:List (Int×Int)},(∀p∈l,¬k=p.1)→upI k v l=l++[(k,v)]
 |[],_=>rfl
 |p::l,h=>by
  have ih:=Qbdz (v:=v) fun q hq=>h q (List.mem_cons_of_mem _ hq)
  simp only[upI,h p List.mem_cons_self,if_false,ih,List.cons_append]
theorem Qbhp {w:Int}:∀{l:List Int} {aa:List Int},w∈l→l.length≤aa.length→lkI w (l.zip aa)=some (aa.getD (l.idxOf w) 0)
 |[],_,h,_=>by simp at h
 |x::l,[],_,h=>by simp at h
 |x::l,a::aa,h,hl=>by
  simp only[List.zip_cons_cons,lkI]
  by_cases hx:w=x
  ·subst hx;simp
  ·have hm:w∈l:=by
    rcases List.mem_cons.1 h with h|h
    ·exact absurd h hx
    ·exact h
   have:=Qbhp hm (aa:=aa) (by simpa using hl)
   rw[if_neg hx,this,List.idxOf_cons]
   have hb:(x == w)=false:=by simp;exact fun e=>hx e.symm
   rw[hb];simp
theorem Qbhl {l aa:List Int}{i:Nat}(h:i<l.length)(h2:i<aa.length)(hnd:l.Nodup):upI l[i] aa[i] ((l.zip aa).take i)=(l.zip aa).take (i+1):=by
 have hz:i<(l.zip aa).length:=by rw[List.length_zip];omega
 rw[List.take_succ_eq_append_getElem hz,List.getElem_zip,Qbdz]
 intro p hp he
 obtain⟨j,hj,rfl⟩:=List.mem_iff_getElem.1 hp
 rw[List.length_take]at hj
 rw[List.getElem_take,List.getElem_zip]at he
 simp only at he
 have:=(List.getElem_inj hnd).1 he
 omega
structure PMap where
 m:Nat
 ver:Nat
 l:List (Int×Int)
def PMap.lg (p:PMap):List (Nat×Obj):=[(p.m,.map p.ver (mI p.l))]
def Qeg (ms:List PMap):List (List C):=ms.map fun p=>[.mp p.m]
theorem Qci (ms:List PMap):(Qeg ms).length=ms.length:=by simp[Qeg]
theorem Qan0 (ms:List PMap)(i:Nat)(h:i<ms.length):(Qeg ms).getD i []=[.mp ms[i].m]:=by simp[Qeg,List.getD_eq_getElem?_getD,h]
structure PSl where
 ms:List PMap
 c:C
 g:List (Nat×Obj)
def PSl.row (s:PSl):List C:=[s.c]
def PSl.ok (s:PSl):Prop:=Gr s.g 1 (Qeg s.ms) s.c
def PSl.lg (s:PSl):List (Nat×Obj):=s.ms.flatMap PMap.lg++s.g
def psL (ss:List PSl):List (Nat×Obj):=ss.flatMap PSl.lg
structure PInv (F:Nat→List (List (Int×Int)))(ss:List PSl):Prop where
 f:∀r (h:r<ss.length),ss[r].ms.map PMap.l=F r
 ok:∀s∈ss,s.ok
variable {F F':Nat→List (List (Int×Int))}{ss:List PSl}
theorem PInv.set (h:PInv F ss){x:Nat}{s:PSl}(hs:s.ok)(hF:∀r,r<ss.length→F' r=if r=x then s.ms.map PMap.l else F r):PInv F' (ss.set x s):=by
 refine⟨fun r hr=>?_,fun w hw=>?_⟩
 ·have hr':r<ss.length:=by simpa using hr
  rw[List.getElem_set,hF r hr']
  split
  ·rename_i e;rw[if_pos e.symm]
  ·rename_i e;rw[if_neg (fun hh=>e hh.symm)];exact h.f r hr'
 ·rcases List.mem_or_eq_of_mem_set hw with hw|rfl
  ·exact h.ok w hw
  ·exact hs
theorem Qaa6 {x:Nat}{s:PSl}(hx:x<ss.length)(hs:ss[x]=s):(psL ss).Perm (psL (ss.eraseIdx x)++s.lg):=by
 subst hs
 exact (Qbg (f:=PSl.lg) hx).trans List.perm_append_comm
theorem Qbbj {x:Nat}{s:PSl}(hx:x<ss.length):(psL (ss.set x s)).Perm (psL (ss.eraseIdx x)++s.lg):=by
 have h1:=Qaa6 (ss:=ss.set x s) (x:=x) (s:=s) (by rw[List.length_set];exact hx) (by simp)
 rw[List.eraseIdx_set_eq]at h1
 exact h1
def zpA (q:CodeD)(b:Nat)(p:PhiD):List (Int×Int):=(Q1 (gnx q) (b:Int) q.blocks.length).zip p.args
def phT (q:CodeD)(b r:Nat):List (List (Int×Int)):=if r<b then (Qbs q r).phis.map (zpA q r)else []
set_option maxHeartbeats 4000000 in
theorem Qbf6 {fl:Bool}(ho:q.ok)(hK:∀o ss H',ss.length=q.blocks.length→PInv (phT q q.blocks.length) ss→Kn H H' [] ([(o,.vec 1 (ss.map PSl.row))]++psL ss)→K (.c (.vsl o 1 0 q.blocks.length)) H') :
  Qp prog Qiw [.ag [.int .i64 q.params,.int .i64 q.regs,.sl fl 5 (Qn q.blocks)]] H K:=by
 have hb1:=ho.b1
 refine Qdu ?_
 refine Qb Qai Qayq ?_
 refine Qa ?_
 simp only[go_sem]
 refine Qa ?_
 simp only[go_sem,Ql]
 intro _
 refine⟨by simp only[LIM];omega,fun o ho2 H1 h1=>?_⟩
 obtain⟨ss0,hss0⟩:∃ss0:List PSl,ss0=List.replicate q.blocks.length ⟨[],.sl true 1 [],[]⟩:=⟨_,rfl⟩
 have hs0l:ss0.length=q.blocks.length:=by rw[hss0];simp
 have hS0:PInv (phT q 0) ss0:=by
  rw[hss0]
  refine⟨fun r h=>by simp[phT],fun s hs=>?_⟩
  rw[List.eq_of_mem_replicate hs];exact .nil 1
 have kn:Kn H H1 [] ([(o,.vec 1 (ss0.map PSl.row))]++psL ss0):=by
  have e:psL ss0=[]:=by rw[hss0];exact List.flatMap_eq_nil_iff.2 fun s hs=>by rw[List.eq_of_mem_replicate hs];rfl
  have:=(Kn.start0 H).al ho2 h1
  rw[e,hss0]
  simpa[PSl.row]using this
 clear hss0 h1 ho2
 simp only[go_sem,Qxf]
 refine Q5 ?_
 refine Qa ?_
 simp only[go_sem,Ql]
 try intro _
 refine Qi (Qf (Qx (fun m e1 H1=>∃(b:Nat) (ss:List PSl),m=q.blocks.length-b∧b≤q.blocks.length∧ss.length=q.blocks.length∧PInv (phT q b) ss∧Kn H H1 [] ([(o,.vec 1 (ss.map PSl.row))]++psL ss)∧
  lk 1 e1=.c (.pp [.int .i64 q.params,.int .i64 q.regs,.sl fl 5 (Qn q.blocks)])∧lk 3 e1=.c (.vsl o 1 0 q.blocks.length)∧lk 17 e1=.c (.sl fl 5 (Qn q.blocks))∧lk 18 e1=.c (.int .i64 q.blocks.length)∧lk 19 e1=.c (.int .i64 b)) q.blocks.length ?_ ?_))
 ·exact⟨0,ss0,by omega,by omega,hs0l,hS0,kn,rfl,rfl,rfl,rfl,rfl⟩
 ·clear kn hS0 hs0l
  clear ss0
  rintro m e1 H1 ⟨b,ss,hm,hb,hsl,hS,kn,l1,l3,l17,l18,l19⟩
  refine Qa ?_
  simp only[go_sem,l1,l3,l17,l18,l19]
  refine Qi (Qe rfl ?_ ?_)
  ·intro hc
   have hlt:b<q.blocks.length:=by simpa using hc
   obtain⟨y,hy⟩:∃y,q.blocks[b]=y:=⟨_,rfl⟩
   have hya:Qbs q b=y:=by rw[Qcm hlt,hy]
   have hyo:=ho.bs b hlt
   have hil:=ho.il b hlt
   rw[hy]at hyo hil
   refine Qh ?_
   try simp only[go_sem]
   refine Qi (Qf ?_)
   refine Qa ?_
   simp only[go_sem,l1,l3,l17,l18,l19,hlt,Ql,Qak _ _ hlt,BlkD.cells,hy]
   intro x5 hx5 H2 h2
   have kn:Kn H H2 [] ([(x5,_)]++([(o,.vec 1 (ss.map PSl.row))]++psL ss)):=(kn.al hx5 h2).perm List.perm_append_comm
   have hx5:=kn.l 0 rfl
   simp only[go_sem,Qxg,hx5]
   intro H3 h3
   have kn:=kn.stL 0 rfl h3
   have kn:Kn H H3 [] ([(x5,.st y.cells)]++([(o,.vec 1 (ss.map PSl.row))]++psL ss)):=kn
   clear hx5
   refine Qa ?_
   simp only[go_sem]
   refine Qzu (Qi2 H3 q fl) fun fl2 H4 hu=>?_
   have kn:=kn.call0 hu
   have hpi:Qkd (gnx q) (b:Int) q.blocks.length=Q1 (gnx q) (b:Int) q.blocks.length:=by rw[Qkd,if_pos (by simp only[Bool.and_eq_true,decide_eq_true_eq];omega)]
   rw[Ql,hpi]
   obtain⟨ps,hps⟩:∃ps,Q1 (gnx q) (b:Int) q.blocks.length=ps:=⟨_,rfl⟩
   have hpnd:ps.Nodup:=by rw[←hps];exact Qa4s _ _ _
   have hpl:ps.length≤q.blocks.length:=by rw[←hps];exact Qbk _ _ _
   have hpal:∀p∈y.phis,p.args.length=ps.length:=fun p hp=>by rw[hyo.pal p hp,hps]
   rw[hps]
   simp only[go_sem,Qxh]
   have hx5:=kn.l 0 rfl
   refine Qa ?_
   simp only[go_sem,hx5,BlkD.cells,Qy]
   try intro _
   refine Qf (Qx (fun m e1 H1=>∃(k:Nat) (ss:List PSl),m=y.phis.length-k∧k≤y.phis.length∧ss.length=q.blocks.length∧PInv (fun r=>if r=b then (y.phis.take k).map (zpA q b)else phT q b r) ss∧Kn H H1 [] ([(x5,.st y.cells)]++([(o,.vec 1 (ss.map PSl.row))]++psL ss))∧
    lk 1 e1=.c (.pp [.int .i64 q.params,.int .i64 q.regs,.sl fl 5 (Qn q.blocks)])∧lk 3 e1=.c (.vsl o 1 0 q.blocks.length)∧lk 4 e1=.c (.int .i64 b)∧lk 6 e1=.c (.sl fl2 1 (Qg ps))∧lk 17 e1=.c (.sl fl 5 (Qn q.blocks))∧lk 18 e1=.c (.int .i64 q.blocks.length)∧lk 19 e1=.c (.int .i64 b)∧lk 28 e1=.c (.sl false 2 (Q0 y.phis))∧lk 29 e1=.c (.int .i64 y.phis.length)∧lk 30 e1=.c (.int .i64 k)) y.phis.length ?_ ?_)
   ·refine⟨0,ss,by omega,by omega,hsl,⟨fun r hr=>?_,hS.ok⟩,kn,rfl,rfl,rfl,rfl,rfl,rfl,rfl,rfl,rfl,rfl⟩
    rw[hS.f r hr]
    by_cases hrb:r=b
    ·subst hrb;simp[phT]
    ·rw[if_neg hrb]
   ·clear kn hS l1 l3 l17 l18 l19 hx5 hsl
    rintro m2 e2 H5 ⟨k,ss,hm2,hk,hsl,hS,kn,l1,l3,l4,l6,l17,l18,l19,l28,l29,l30⟩
    refine Qa ?_
    simp only[go_sem,l1,l3,l4,l6,l17,l18,l19,l28,l29,l30]
    refine Qi (Qe rfl ?_ ?_)
    ·intro hc2
     have hlt2:k<y.phis.length:=by simpa using hc2
     obtain⟨p,hp⟩:∃p,y.phis[k]=p:=⟨_,rfl⟩
     have hpm:p∈y.phis:=by rw[←hp];exact List.getElem_mem hlt2
     have hpl2:=hpal p hpm
     refine Qh ?_
     try simp only[go_sem]
     refine Qi (Qf ?_)
     refine Qa ?_
     simp only[go_sem,l1,l3,l4,l6,l17,l18,l19,l28,l29,l30,hlt2,Qy,Qax _ _ hlt2,PhiD.cells,hp]
     intro x8 hx8 H6 h6
     have kn:Kn H H6 [] ([(x8,_)]++([(x5,.st y.cells)]++([(o,.vec 1 (ss.map PSl.row))]++psL ss))):=(kn.al hx8 h6).perm List.perm_append_comm
     have hx8:=kn.l 0 rfl
     simp only[go_sem,Qxi,hx8]
     intro H7 h7
     have kn:=kn.stL 0 rfl h7
     have kn:Kn H H7 [] ([(x8,.st p.cells)]++([(x5,.st y.cells)]++([(o,.vec 1 (ss.map PSl.row))]++psL ss))):=kn
     clear hx8
     refine Qa ?_
     simp only[go_sem]
     intro M hM H8 h8
     have kn:Kn H H8 [] ([(M,.map 0 (mI []))]++([(x8,.st p.cells)]++([(x5,.st y.cells)]++([(o,.vec 1 (ss.map PSl.row))]++psL ss)))):=(kn.al hM h8).perm List.perm_append_comm
     clear hM
     simp only[go_sem,Qxj]
     refine Q5 ?_
     refine Qa ?_
     simp only[go_sem,Qc]
     try intro _
     refine Qi (Qf (Qx (fun m e1 H1=>∃(i ver:Nat),m=ps.length-i∧i≤ps.length∧Kn H H1 [] ([(M,.map ver (mI ((ps.zip p.args).take i)))]++([(x8,.st p.cells)]++([(x5,.st y.cells)]++([(o,.vec 1 (ss.map PSl.row))]++psL ss))))∧
      lk 1 e1=.c (.pp [.int .i64 q.params,.int .i64 q.regs,.sl fl 5 (Qn q.blocks)])∧lk 3 e1=.c (.vsl o 1 0 q.blocks.length)∧lk 4 e1=.c (.int .i64 b)∧lk 6 e1=.c (.sl fl2 1 (Qg ps))∧lk 8 e1=.c (.ptr x8 0)∧lk 9 e1=.c (.mp M)∧lk 17 e1=.c (.sl fl 5 (Qn q.blocks))∧lk 18 e1=.c (.int .i64 q.blocks.length)∧lk 19 e1=.c (.int .i64 b)∧lk 28 e1=.c (.sl false 2 (Q0 y.phis))∧lk 29 e1=.c (.int .i64 y.phis.length)∧lk 30 e1=.c (.int .i64 k)∧
      lk 35 e1=.c (.sl fl2 1 (Qg ps))∧lk 36 e1=.c (.int .i64 ps.length)∧lk 37 e1=.c (.int .i64 i)) ps.length ?_ ?_))
     ·exact⟨0,0,by omega,by omega,by simpa using kn,rfl,rfl,rfl,rfl,rfl,rfl,rfl,rfl,rfl,rfl,rfl,rfl,rfl,rfl,rfl⟩
     ·clear kn l1 l3 l4 l6 l17 l18 l19 l28 l29 l30
      rintro m3 e3 H9 ⟨i,ver,hm3,hi,kn,l1,l3,l4,l6,l8,l9,l17,l18,l19,l28,l29,l30,l35,l36,l37⟩
      have hM:=kn.l 0 rfl
      have hx8:=kn.l 1 rfl
      refine Qa ?_
      simp only[go_sem,l1,l3,l4,l6,l8,l9,l17,l18,l19,l28,l29,l30,l35,l36,l37]
      refine Qi (Qe rfl ?_ ?_)
      ·intro hc3
       have hlt3:i<ps.length:=by simpa using hc3
       have hlt4:i<p.args.length:=by omega
       obtain⟨w,hw⟩:∃w,ps[i]=w:=⟨_,rfl⟩
       obtain⟨a,ha⟩:∃a,p.args[i]=a:=⟨_,rfl⟩
       have hgw:ps.getD i 0=w:=by simp[List.getD_eq_getElem?_getD,hlt3,hw]
       have hga:p.args.getD i 0=a:=by simp[List.getD_eq_getElem?_getD,hlt4,ha]
       have hzt:=Qbhl hlt3 hlt4 hpnd
       rw[hw,ha]at hzt
       have hzl:((ps.zip p.args).take i).length≤i:=by rw[List.length_take];omega
       refine Qh ?_
       try simp only[go_sem]
       refine Qi (Qf ?_)
       refine Qa ?_
       simp only[go_sem,l1,l3,l4,l6,l8,l9,l17,l18,l19,l28,l29,l30,l35,l36,l37,hlt3,Qc,Qs _ _ hlt3,hgw]
       refine Qv ?_
       simp only[go_sem,hx8,PhiD.cells,hM,hlt4,Qc,Qs _ _ hlt4,hga,Q9r,Qbhq,Qa33,hzt]
       refine⟨by simp only[LIM];omega,fun H10 h10=>?_⟩
       have kn:=kn.stL 0 rfl h10
       refine Qv ?_
       simp only[go_sem]
       refine⟨Qr (by omega) (by omega),?_⟩
       show ∃m,_
       exact⟨ps.length-(i+1),by omega,i+1,ver+1,rfl,by omega,kn,rfl,rfl,rfl,rfl,rfl,rfl,rfl,rfl,rfl,rfl,rfl,rfl,rfl,rfl,rfl⟩
      ·intro hc3
       have hge:ps.length≤i:=by simpa using hc3
       have hzf:(ps.zip p.args).take i=zpA q b p:=by
        rw[List.take_of_length_le (by rw[List.length_zip];omega),zpA,hps]
       rw[hzf]at kn
       refine Qw ?_
       simp only[go_sem,X.next]
       have hbl:b<ss.length:=by omega
       obtain⟨s,hs⟩:∃s,ss[b]=s:=⟨_,rfl⟩
       have hsok:s.ok:=by rw[←hs];exact hS.ok _ (List.getElem_mem hbl)
       have hsf:=hS.f b hbl
       rw[hs]at hsf
       simp only[if_true]at hsf
       have hsw:=Gr.isOw hsok
       have hsm:s.ms.length=k:=by have:=congrArg List.length hsf;simp only[List.length_map,List.length_take]at this;omega
       have hsg:(ss.map PSl.row).getD b []=[s.c]:=by simp[List.getD_eq_getElem?_getD,hbl,hs,PSl.row]
       have hrl:(ss.map PSl.row).length=q.blocks.length:=by rw[List.length_map,hsl]
       have hrt:(ss.map PSl.row).take q.blocks.length=ss.map PSl.row:=List.take_of_length_le (by omega)
       have hsp:=Qaa6 hbl hs
       have kn:Kn H H9 [] (([(o,.vec 1 (ss.map PSl.row)),(M,.map ver (mI (zpA q b p))),(x8,.st p.cells),(x5,.st y.cells)]++(psL (ss.eraseIdx b)++s.ms.flatMap PMap.lg))++s.g):=kn.perm (Qm fun f hf h0 hc hp=>by
        have e4:∀(a b c d:Nat×Obj),f [a,b,c,d]=f [a]+f [b]+f [c]+f [d]:=fun a b c d=>by rw[hc a [b,c,d],hc b [c,d],hc c [d]];omega
        have:=hp _ _ hsp
        rw[PSl.lg]at this
        simp only[hf,e4]at this⊢;omega)
       have hob:=kn.l 0 rfl
       refine Qv ?_
       simp only[go_sem,l1,l3,l4,l6,l8,l9,hob,hrl,hrt,hlt,hsg,hsw,Nat.zero_add,Nat.le_refl]
       refine kn.growR (new:=[[.mp M]]) hsok (.mk' _ _ _ _) (by intro r hr;simp only[List.mem_singleton]at hr;rw[hr];rfl) (by simp only[Qci,LIM,List.length_cons,List.length_nil];omega) fun t2 g2 H10 hg2 ht2 kn=>?_
       have hob:=kn.l 0 rfl
       simp only[go_sem,Qxk,hob,hrl,hrt,hlt,hsg,hsw,ht2,Nat.zero_add,Nat.le_refl]
       intro H11 h11
       obtain⟨s',hs'⟩:∃s':PSl,s'=⟨s.ms++[⟨M,ver,zpA q b p⟩],t2,g2⟩:=⟨_,rfl⟩
       have hs'ok:s'.ok:=by
        rw[hs']
        show Gr g2 1 (Qeg (s.ms++[⟨M,ver,zpA q b p⟩])) t2
        have e:Qeg (s.ms++[⟨M,ver,zpA q b p⟩])=Qeg s.ms++[[.mp M]]:=by simp[Qeg]
        rw[e];exact hg2
       have hset:(ss.map PSl.row).set b [t2]=(ss.set b s').map PSl.row:=by rw[List.map_set,hs'];rfl
       rw[hset]at h11
       have kn:=kn.stL 0 rfl h11
       have hps2:=Qbbj (s:=s') hbl
       have kn:Kn H H11 [] (([(x5,.st y.cells)]++([(o,.vec 1 ((ss.set b s').map PSl.row))]++psL (ss.set b s')))++[(x8,.st p.cells)]):=kn.perm (Qm fun f hf h0 hc hp=>by
        have e4:∀(a b c d:Nat×Obj),f [a,b,c,d]=f [a]+f [b]+f [c]+f [d]:=fun a b c d=>by rw[hc a [b,c,d],hc b [c,d],hc c [d]];omega
        have:=hp _ _ hps2
        have es:s'.lg=(s.ms.flatMap PMap.lg++[(M,.map ver (mI (zpA q b p)))])++g2:=by rw[hs',PSl.lg,List.flatMap_append];simp[PMap.lg]
        rw[es]at this
        show f ([(o,_),(M,_),(x8,_),(x5,_)]++(psL (ss.eraseIdx b)++s.ms.flatMap PMap.lg)++g2)=_
        simp only[hf,e4]at this⊢;omega)
       have kn:=kn.drop
       refine Qv ?_
       simp only[go_sem]
       refine⟨Qr (by omega) (by omega),?_⟩
       show ∃m,_
       refine⟨y.phis.length-(k+1),by omega,k+1,ss.set b s',rfl,by omega,by rw[List.length_set];exact hsl,hS.set hs'ok fun r hr=>?_,kn,rfl,rfl,rfl,rfl,rfl,rfl,rfl,rfl,rfl,rfl⟩
       by_cases hrb:r=b
       ·subst hrb
        rw[if_pos rfl,if_pos rfl,hs',List.map_append,hsf,List.take_succ_eq_append_getElem hlt2,List.map_append,hp];rfl
       ·rw[if_neg hrb,if_neg hrb,if_neg hrb]
    ·intro hc2
     have hke:k=y.phis.length:=by have:y.phis.length≤k:=(by simpa using hc2);omega
     subst hke
     rw[List.take_length]at hS
     refine Qw ?_
     simp only[go_sem,X.next]
     have kn:Kn H H5 [] (([(o,.vec 1 (ss.map PSl.row))]++psL ss)++[(x5,.st y.cells)]):=kn.perm List.perm_append_comm
     have kn:=kn.drop
     refine Qv ?_
     simp only[go_sem,l1,l3,l17,l18,l19]
     refine⟨Qr (by omega) (by omega),?_⟩
     show ∃m,_
     refine⟨q.blocks.length-(b+1),by omega,b+1,ss,rfl,by omega,hsl,⟨fun r hr=>?_,hS.ok⟩,kn,rfl,rfl,rfl,rfl,rfl⟩
     rw[hS.f r hr]
     by_cases hrb:r=b
     ·subst hrb;rw[if_pos rfl,phT,if_pos (by omega),hya]
     ·rw[if_neg hrb,phT,phT]
      by_cases hr2:r<b
      ·rw[if_pos hr2,if_pos (by omega)]
      ·rw[if_neg hr2,if_neg (by omega)]
  ·intro hc
   have hbe:b=q.blocks.length:=by have:q.blocks.length≤b:=(by simpa using hc);omega
   subst hbe
   refine Qw ?_
   simp only[go_sem,X.next]
   refine Qa ?_
   simp only[go_sem,l3]
   refine Qk ?_
   simp only[go_sem,Q4,Q7,Qabb,List.mem_singleton,forall_eq,RS.op]
   have kn:Kn H H1 [] ([]++([(o,.vec 1 (ss.map PSl.row))]++psL ss)):=kn
   exact⟨unx H ([(o,.vec 1 (ss.map PSl.row))]++psL ss),.c (.vsl o 1 0 q.blocks.length),H1.frz (unx H ([(o,.vec 1 (ss.map PSl.row))]++psL ss)),.c _ _ (.same _ rfl),Qdf _ _,hK o ss _ hsl hS kn.finK⟩
end Go.AE.Y

namespace Go.AE.Y
variable {nx:Nat→List Int}{n:Nat}{q:CodeD}
theorem Qayj (F:SpF nx n){s:Nat}{e:Nat×Int}(h:(Qbm nx n n)[s]? = some e):(Qbm nx n n).idxOf e=s:=by
 obtain⟨hs,he⟩:=List.getElem?_eq_some_iff.1 h
 rw[←he];exact List.Nodup.idxOf_getElem (F.newNd (Nat.le_refl n)) s hs
theorem Qvc {s:Nat}{e x:Nat×Int}(h:(Qbm nx n n)[s]? = some e):x∈(Qbm nx n n).take (s+1)↔x∈(Qbm nx n n).take s∨x=e:=by
 obtain⟨hs,he⟩:=List.getElem?_eq_some_iff.1 h
 rw[List.take_succ_eq_append_getElem hs,List.mem_append,List.mem_singleton,he]
theorem Qbbf (F:SpF nx n){s:Nat}{e:Nat×Int}(h:(Qbm nx n n)[s]? = some e):e∉(Qbm nx n n).take s:=fun hm=>by
 obtain⟨i,hi,he⟩:=List.mem_iff_getElem.1 hm
 rw[List.length_take]at hi
 rw[List.getElem_take]at he
 have h2:(Qbm nx n n)[i]? = some e:=by rw[List.getElem?_eq_getElem (by omega),he]
 have:=Qay2 F h h2
 omega
def stV (nx:Nat→List Int)(n s b:Nat)(v:Int):Int:=if (b,v)∈(Qbm nx n n).take s then ((n+(Qbm nx n n).idxOf (b,v):Nat):Int)else v
def stX (nx:Nat→List Int)(n s b:Nat):List Int:=(nx b).map (stV nx n s b)
theorem Qa44 (b:Nat):stX nx n 0 b=nx b:=by
 rw[stX]
 refine (List.map_congr_left (g:=id) fun v _=>?_).trans (List.map_id _)
 simp[stV]
theorem Qbdn (F:SpF nx n){b:Nat}(hb:b<n):stX nx n (Qbm nx n n).length b=spX nx n b:=by
 rw[stX,spX,if_pos hb]
 refine List.map_congr_left fun v hv=>?_
 rw[stV,List.take_length]
 cases hs:shV nx n b v with
 |true=>
  obtain⟨i,h1,h2,_⟩:=Qaho hb hv hs
  rw[if_pos (List.mem_of_getElem? h1),Qayj F h1,h2]
 |false=>
  rw[if_neg (fun hm=>by have:=(mem_newL.1 hm).2.2;rw[hs]at this;simp at this),spV,if_neg (by simp[hs])]
theorem Qbdm (F:SpF nx n){s b:Nat}{v w:Int}(h:(Qbm nx n n)[s]? = some (b,v))(hw:w<n):stV nx n (s+1) b w=if stV nx n s b w=v then ((n+s:Nat):Int)else stV nx n s b w:=by
 obtain⟨hb,hv,hs⟩:=mem_newL.1 (List.mem_of_getElem? h)
 have hvr:=F.rng b hb v hv
 have hn:=Qbbf F h
 have e1:stV nx n (s+1) b w=if (b,w)∈(Qbm nx n n).take s∨(b,w)=(b,v)then ((n+(Qbm nx n n).idxOf (b,w):Nat):Int)else w:=by simp only[stV,Qvc h]
 have e0:stV nx n s b w=if (b,w)∈(Qbm nx n n).take s then ((n+(Qbm nx n n).idxOf (b,w):Nat):Int)else w:=rfl
 by_cases hm:(b,w)∈(Qbm nx n n).take s
 ·rw[if_pos hm]at e0
  rw[if_pos (.inl hm)]at e1
  rw[e1,e0,if_neg (by omega)]
 ·rw[if_neg hm]at e0
  by_cases hwv:w=v
  ·subst hwv
   rw[if_pos (.inr rfl),Qayj F h]at e1
   rw[e1,e0,if_pos rfl]
  ·have:¬((b,w)∈(Qbm nx n n).take s∨(b,w)=(b,v)):=by
    rintro (h|h)
    ·exact hm h
    ·exact hwv (Prod.mk.inj h).2
   rw[if_neg this]at e1
   rw[e1,e0,if_neg hwv]
theorem Qbj6 (F:SpF nx n){s b:Nat}{v:Int}(h:(Qbm nx n n)[s]? = some (b,v)):stX nx n (s+1) b=(stX nx n s b).map fun w=>if w=v then ((n+s:Nat):Int)else w:=by
 obtain⟨hb,_,_⟩:=mem_newL.1 (List.mem_of_getElem? h)
 rw[stX,stX,List.map_map]
 exact List.map_congr_left fun w hw=>Qbdm F h (F.rng b hb w hw).2
theorem Qbdo (F:SpF nx n){s b b':Nat}{v:Int}(h:(Qbm nx n n)[s]? = some (b,v))(hne:b'≠b):stX nx n (s+1) b'=stX nx n s b':=by
 rw[stX,stX]
 refine List.map_congr_left fun w _=>?_
 have:((b',w)∈(Qbm nx n n).take (s+1))↔(b',w)∈(Qbm nx n n).take s:=by
  rw[Qvc h]
  exact⟨fun hh=>hh.resolve_right fun e=>hne (Prod.mk.inj e).1,.inl⟩
 simp only[stV,this]
theorem Qbj7 (F:SpF nx n){s b i:Nat}{v:Int}(h:(Qbm nx n n)[s]? = some (b,v))(hi:(nx b)[i]? = some v):(stX nx n s b).set i ((n+s:Nat):Int)=stX nx n (s+1) b:=by
 obtain⟨hb,_,hs⟩:=mem_newL.1 (List.mem_of_getElem? h)
 have hnd:(nx b).Nodup:=by
  rw[shV,Bool.and_eq_true]at hs
  obtain⟨a,c,e,hne⟩:=(Qmd (F.len b hb)).1 hs.1
  rw[e];simp[hne]
 obtain⟨hil,hiv⟩:=List.getElem?_eq_some_iff.1 hi
 refine List.ext_getElem (by simp[stX]) fun j h1 h2=>?_
 have hj:j<(nx b).length:=by simpa[stX]using h2
 rw[List.getElem_set]
 simp only[stX,List.getElem_map]
 have hjr:=(F.rng b hb _ (List.getElem_mem hj)).2
 by_cases hij:i=j
 ·subst hij
  rw[if_pos rfl,hiv,stV,if_pos ((Qvc h).2 (.inr rfl)),Qayj F h]
 ·rw[if_neg hij,Qbdm F h hjr,if_neg]
  intro e
  rw[stV]at e
  split at e
  ·have hvr:=F.rng b hb v (List.mem_of_getElem? hi)
   omega
  ·exact hij ((List.getElem_inj hnd).1 (hiv.trans e.symm))
theorem Qbli {b i:Nat}{v:Int}(hb:b<n)(hi:(nx b)[i]? = some v)(hs:shV nx n b v=true):(Qbm nx n n)[(Qbm nx n b).length+(((nx b).take i).filter (shV nx n b)).length]? = some (b,v):=by
 obtain⟨hil,hiv⟩:=List.getElem?_eq_some_iff.1 hi
 have e:shL nx n b=((nx b).take i).filter (shV nx n b)++v::((nx b).drop (i+1)).filter (shV nx n b):=by
  have:nx b=(nx b).take i++v::(nx b).drop (i+1):=by rw[←hiv,←List.drop_eq_getElem_cons hil,List.take_append_drop]
  rw[shL]
  conv=>lhs;rw[this]
  rw[List.filter_append,List.filter_cons,if_pos hs]
 have hl:(((nx b).take i).filter (shV nx n b)).length<(shL nx n b).length:=by rw[e];simp
 rw[Qapr hl hb]
 congr 1
 refine Prod.ext rfl ?_
 show (shL nx n b)[_]=v
 simp only[e]
 rw[List.getElem_append_right (Nat.le_refl _)]
 simp
theorem Q20 (F:SpF nx n):∀{m:Nat},m≤n→(Qbm nx n m).length≤2 * m
 |0,_=>by simp[Qbm]
 |m+1,h=>by
  rw[Qq9,List.length_append,List.length_map,shL]
  have h1:=Q20 F (m:=m) (by omega)
  have h2:=List.length_filter_le (shV nx n m) (nx m)
  have h3:=F.len m (by omega)
  omega
def mpS (q:CodeD)(r:Nat)(p:PhiD):Nat→List (Int×Int)
 |0=>zpA q r p
 |s+1=>match (Qbm (gnx q) q.blocks.length q.blocks.length)[s]? with
  |some e=>if e.2=(r:Int)then deI (e.1:Int) (upI ((q.blocks.length+s:Nat):Int) ((lkI (e.1:Int) (mpS q r p s)).getD 0) (mpS q r p s))else mpS q r p s
  |none=>mpS q r p s
theorem Qbba (q:CodeD)(r:Nat)(p:PhiD):∀s,(mpS q r p s).length≤q.blocks.length+s
 |0=>by
  rw[mpS,zpA,List.length_zip]
  have:=Qbk (gnx q) (r:Int) q.blocks.length
  omega
 |s+1=>by
  have ih:=Qbba q r p s
  rw[mpS]
  split
  ·split
   ·refine Nat.le_trans (Qa9k _ _) (Nat.le_trans (Qbdy _ _ _) ?_);omega
   ·omega
  ·omega
theorem Qbhs {r:Nat}{p:PhiD}(F:SpF (gnx q) q.blocks.length)(hr:r<q.blocks.length)(hal:p.args.length=(Q1 (gnx q) (r:Int) q.blocks.length).length):∀{s:Nat},s≤(Qbm (gnx q) q.blocks.length q.blocks.length).length→
  (∀w:Nat,w<q.blocks.length→(r:Int)∈gnx q w→(w,(r:Int))∉(Qbm (gnx q) q.blocks.length q.blocks.length).take s→lkI (w:Int) (mpS q r p s)=some (p.args.getD ((Q1 (gnx q) (r:Int) q.blocks.length).idxOf (w:Int)) 0))∧
  (∀(i w:Nat),i<s→(Qbm (gnx q) q.blocks.length q.blocks.length)[i]? = some (w,(r:Int))→lkI ((q.blocks.length+i:Nat):Int) (mpS q r p s)=some (p.args.getD ((Q1 (gnx q) (r:Int) q.blocks.length).idxOf (w:Int)) 0))
 |0,_=>⟨fun w hw hm _=>by
   rw[mpS,zpA]
   exact Qbhp (preds_mem.2 ⟨w,hw,hm,rfl⟩) (by omega),fun i w hi=>by omega⟩
 |s+1,hs=>by
  obtain⟨ih1,ih2⟩:=Qbhs F hr hal (s:=s) (by omega)
  have hlt:s<(Qbm (gnx q) q.blocks.length q.blocks.length).length:=by omega
  obtain⟨⟨b,v⟩,he⟩:∃e,(Qbm (gnx q) q.blocks.length q.blocks.length)[s]? = some e:=⟨_,List.getElem?_eq_getElem hlt⟩
  obtain⟨hb,hv,_⟩:=mem_newL.1 (List.mem_of_getElem? he)
  rw[mpS,he]
  simp only
  by_cases hvr:v=(r:Int)
  ·subst hvr
   rw[if_pos rfl]
   have hb1:=ih1 b hb hv (Qbbf F he)
   refine⟨fun w hw hm hn=>?_,fun i w hi hx=>?_⟩
   ·have hwb:¬w=b:=fun e=>hn ((Qvc he).2 (.inr (by rw[e])))
    rw[Qbi9 (by omega),Qbja,if_neg (by omega)]
    exact ih1 w hw hm fun hh=>hn ((Qvc he).2 (.inl hh))
   ·rw[Qbi9 (by omega),Qbja]
    by_cases his:i=s
    ·subst his
     rw[he]at hx
     have hbw:b=w:=(Prod.mk.inj (Option.some.inj hx)).1
     subst hbw
     rw[if_pos rfl,hb1];rfl
    ·rw[if_neg (by omega)]
     exact ih2 i w (by omega) hx
  ·rw[if_neg hvr]
   refine⟨fun w hw hm hn=>ih1 w hw hm fun hh=>hn ((Qvc he).2 (.inl hh)),fun i w hi hx=>?_⟩
   by_cases his:i=s
   ·subst his
    rw[he]at hx
    exact absurd (Prod.mk.inj (Option.some.inj hx)).2 hvr
   ·exact ih2 i w (by omega) hx
theorem Qba9 {r:Nat}{p:PhiD}(F:SpF (gnx q) q.blocks.length)(hr:r<q.blocks.length)(hal:p.args.length=(Q1 (gnx q) (r:Int) q.blocks.length).length) :
  (Q1 (spX (gnx q) q.blocks.length) (r:Int) (Qz6 (gnx q) q.blocks.length q.blocks.length)).map (fun w=>(lkI w (mpS q r p (Qbm (gnx q) q.blocks.length q.blocks.length).length)).getD 0)=spA q r p.args:=by
 obtain⟨h1,h2⟩:=Qbhs F hr hal (Nat.le_refl _)
 rw[spA]
 refine List.map_congr_left fun w hw=>?_
 obtain⟨j,hj,hm,rfl⟩:=preds_mem.1 hw
 rcases (Qahp F hr).1 hm with ⟨g1,g2,g3⟩|⟨g1,x,g2⟩
 ·rw[h1 j g1 g2 (by rw[List.take_length];intro hh;have:=(mem_newL.1 hh).2.2;rw[g3]at this;simp at this)]
  simp only[Int.toNat_natCast,Option.getD_some]
  rw[org,if_pos g1]
 ·have hl:j-q.blocks.length<(Qbm (gnx q) q.blocks.length q.blocks.length).length:=(List.getElem?_eq_some_iff.1 g2).1
  have:=h2 (j-q.blocks.length) x hl g2
  have e:q.blocks.length+(j-q.blocks.length)=j:=by omega
  rw[e]at this
  rw[this]
  simp only[Int.toNat_natCast,Option.getD_some]
  rw[org,if_neg (by omega),g2]
end Go.AE.Y

namespace Go.AE.Y
attribute [local go_sem] cond_true cond_false Bool.not_true Bool.not_false
open Go.Proofs.Tryz
variable {H H0:Heap}{K:V→Heap→Prop}{E L:List (Nat×Obj)}
theorem Qa82 {w:Int}{x7 M ver:Nat}{l:List (Int×Int)}(h7:H x7=.st [.mp M])(hM:H M=.map ver (mI l))(hK:K (.c (.int .i64 ((lkI w l).getD 0))) H) :
  Qp prog Qcf [.c (.int .i64 w),.c (.ptr x7 0)] H K:=by
 have hokM:Qz7 H (.mp M)=True:=by simp only[Qz7,hM]
 have henM:Qag H (.mp M)=mI l:=by simp only[Qag,hM]
 refine Qb Qai Qaib ?_
 refine Qa ?_
 simp only[go_sem]
 refine Qa ?_
 simp only[go_sem,h7,hokM,henM,Q9r,Qa9x]
 refine Qk ?_
 simp only[go_sem,Q4,Q7,Qwv,List.mem_singleton,forall_eq,RS.op]
 exact hK
theorem Qbjj {f:Bool}{ps:List Int}{x7 M ver:Nat}{l:List (Int×Int)}(hpl:ps.length≤2 ^ 38)(h7:H x7=.st [.mp M])(hM:H M=.map ver (mI l))(hne:x7≠M)
  (hK:∀H',Upd H H' []→K (.c (.sl false 1 (Qg (ps.map fun w=>(lkI w l).getD 0)))) H') :
  Qp prog Qc0 [.c (.sl f 1 (Qg ps)),.c (.fn Qcf [.ptr x7 0])] H K:=by
 obtain⟨av,hav⟩:∃av,(ps.map fun w=>(lkI w l).getD 0)=av:=⟨_,rfl⟩
 have havl:av.length=ps.length:=by rw[←hav,List.length_map]
 rw[hav]at hK
 refine Qu ?_
 refine Qb Qai Qyn ?_
 have kn:=Kn.start2 h7 (by nofun) hM (by nofun) hne
 refine Qa ?_
 simp only[go_sem]
 refine Qa ?_
 simp only[go_sem]
 refine Q5 ?_
 refine Qa ?_
 simp only[go_sem,Qc]
 try intro _
 refine Qi (Qf (Qx (fun m e1 H1=>∃(i:Nat) (t:C) (Lg:List (Nat×Obj)),m=ps.length-i∧i≤ps.length∧Gr Lg 1 (Qg (av.take i)) t∧Kn H H1 [(x7,.st [.mp M]),(M,.map ver (mI l))] ([]++Lg)∧
  lk 1 e1=.c (.fn Qcf [.ptr x7 0])∧lk 5 e1=.c t∧lk 8 e1=.c (.sl f 1 (Qg ps))∧lk 9 e1=.c (.int .i64 ps.length)∧lk 10 e1=.c (.int .i64 i)) ps.length ?_ ?_))
 ·exact⟨0,_,[],by omega,by omega,.nil 1,kn,rfl,rfl,rfl,rfl,rfl⟩
 ·clear kn
  rintro m e1 H1 ⟨i,t,Lg,hm,hi,hgr,kn,l1,l5,l8,l9,l10⟩
  have htw:=hgr.isOw
  refine Qa ?_
  simp only[go_sem,l1,l5,l8,l9,l10,htw]
  refine Qi (Qe rfl ?_ ?_)
  ·intro hc
   have hlt:i<ps.length:=by simpa using hc
   obtain⟨w,hw⟩:∃w,ps[i]=w:=⟨_,rfl⟩
   have hgd:ps.getD i 0=w:=by simp[List.getD_eq_getElem?_getD,hlt,hw]
   have hia:i<av.length:=by omega
   have hva:av[i]=(lkI w l).getD 0:=by subst hav;rw[List.getElem_map,hw]
   have htk:av.take (i+1)=av.take i++[(lkI w l).getD 0]:=by rw[List.take_succ_eq_append_getElem hia,hva]
   refine Qh ?_
   try simp only[go_sem]
   refine Qi (Qf ?_)
   refine Qa ?_
   simp only[go_sem,l1,l5,l8,l9,l10,htw,hlt,Qc,Qs _ _ hlt,hgd]
   refine Qv ?_
   simp only[go_sem,htw]
   refine Qa82 (kn.e 0 rfl) (kn.e 1 rfl) ?_
   simp only[go_sem,Qeo,htw]
   refine kn.growR (new:=Qg [(lkI w l).getD 0]) hgr (.mk' _ _ _ _) (Qt _) (by simp only[Qc,List.length_take,LIM,List.length_cons,List.length_nil];omega) fun t2 Lg2 H5 hgr2 ht2 kn=>?_
   simp only[go_sem,Qen,ht2]
   refine Qv ?_
   simp only[go_sem,ht2]
   refine⟨Qr (by omega) (by omega),?_⟩
   show ∃m,_
   refine⟨ps.length-(i+1),by omega,i+1,t2,Lg2,rfl,by omega,?_,kn,rfl,rfl,rfl,rfl,rfl⟩
   rw[htk,Qby];exact hgr2
  ·intro hc
   have hge:ps.length≤i:=by simpa using hc
   rw[List.take_of_length_le (by omega)]at hgr
   refine Qw ?_
   simp only[go_sem,X.next]
   refine Qa ?_
   simp only[go_sem,l5,htw]
   refine Qk ?_
   simp only[go_sem,Q4,Q7,Qhy,List.mem_singleton,forall_eq,RS.op,htw]
   exact⟨_,.c _ _ (hgr.frz kn (Qt _)),hK _ ((kn.fin.drop2 hM).drop1 h7)⟩
def stlP (nx:Nat→List Int)(N:Nat)(g:Nat→PhiD→Int→Int)(j:Nat)(p:PhiD):PhiD:=⟨p.to,(Q1 nx (j:Int) N).map (g j p)⟩
def stlY (nx:Nat→List Int)(N:Nat)(g:Nat→PhiD→Int→Int)(j:Nat)(y:BlkD):BlkD:=⟨y.phis.map (stlP nx N g j),y.ins,y.jump,y.on,y.next⟩
variable {nx:Nat→List Int}{N:Nat}{g:Nat→PhiD→Int→Int}{Y:Nat→BlkD}
structure StS (nx:Nat→List Int)(N:Nat)(g:Nat→PhiD→Int→Int)(Y:Nat→BlkD)(b:Nat)(ks:List KBlk):Prop where
 n:ks.length=N
 y:∀j (h:j<ks.length),ks[j].y=if j<b then stlY nx N g j (Y j)else Y j
 ok:∀k∈ks,k.ok
theorem StS.step {b:Nat}{ks:List KBlk}(hS:StS nx N g Y b ks)(hb:b<ks.length){ph:List PhiD}{pl:List (Nat×Obj)}(h2:ph=(Y b).phis.map (stlP nx N g b))(hg:Gr pl 2 (Q0 ph) ks[b].pc) :
  StS nx N g Y (b+1) (ks.set b ⟨⟨ph,ks[b].y.ins,ks[b].y.jump,ks[b].y.on,ks[b].y.next⟩,ks[b].pc,pl⟩):=by
 refine⟨by rw[List.length_set];exact hS.n,fun j h=>?_,fun w hw=>?_⟩
 ·have h':j<ks.length:=by simpa using h
  rw[List.getElem_set]
  split
  ·rename_i e;subst e
   have:=hS.y b hb
   rw[if_neg (Nat.lt_irrefl b)]at this
   rw[if_pos (Nat.lt_succ_self b),this,h2];rfl
  ·rename_i e
   rw[hS.y j h']
   by_cases hj:j<b
   ·rw[if_pos hj,if_pos (by omega)]
   ·rw[if_neg hj,if_neg (by omega)]
 ·rcases List.mem_or_eq_of_mem_set hw with h|rfl
  ·exact hS.ok w h
  ·exact hg
structure PTel (nx:Nat→List Int)(N:Nat)(g:Nat→PhiD→Int→Int)(Y:Nat→BlkD)(ss:List PSl):Prop where
 ml:∀r (h:r<ss.length),ss[r].ms.length=(Y r).phis.length
 f:∀r (h:r<ss.length) i (h1:i<ss[r].ms.length) (h2:i<(Y r).phis.length),∀w∈Q1 nx (r:Int) N,(lkI w (ss[r].ms[i]).l).getD 0=g r (Y r).phis[i] w
 ok:∀s∈ss,s.ok
theorem PTel.of {G:Nat→PhiD→List (Int×Int)}{ss:List PSl}(h:PInv (fun j=>(Y j).phis.map (G j)) ss)(hg:∀j p w,g j p w=(lkI w (G j p)).getD 0):PTel nx N g Y ss:=
 ⟨fun r hr=>by have:=congrArg List.length (h.f r hr);simpa using this,fun r hr i h1 h2 w _=>by
  have e:(ss[r].ms.map PMap.l)[i]? = some (ss[r].ms[i]).l:=by simp[h1]
  rw[h.f r hr]at e
  simp only[List.getElem?_map,List.getElem?_eq_getElem h2,Option.map_some,Option.some.injEq]at e
  rw[←e,hg],h.ok⟩
set_option maxHeartbeats 8000000 in
theorem Qbg2 {x zb o:Nat}{P G:Int}{ks0:List KBlk}{ss:List PSl}{R:List (Nat×Obj)}(hN:N≤100000)(hk:StS nx N g Y 0 ks0)(hnx:∀j,j<N→(Y j).next=nx j)(hpl:∀j,j<N→(Y j).phis.length≤100000)
  (hsl:ss.length=N) (hs:PTel nx N g Y ss)
  (kn:Kn H0 H E ([(x,.st [.int .i64 P,.int .i64 G,.vsl zb 5 0 N]),(zb,.vec 5 (ks0.map KBlk.row)),(o,.vec 1 (ss.map PSl.row))]++(ks0.flatMap KBlk.pl++(psL ss++R))))
  (hK:∀ks H',StS nx N g Y N ks→ks.map KBlk.row=ks0.map KBlk.row→Kn H0 H' E ([(x,.st [.int .i64 P,.int .i64 G,.vsl zb 5 0 N]),(zb,.vec 5 (ks0.map KBlk.row)),(o,.vec 1 (ss.map PSl.row))]++(ks.flatMap KBlk.pl++(psL ss++R)))→K (.tup []) H') :
  Qp prog Qix [.c (.ptr x 0),.c (.vsl o 1 0 N)] H K:=by
 obtain⟨X0,hX0⟩:∃X0,X0=Obj.st [.int .i64 P,.int .i64 G,.vsl zb 5 0 N]:=⟨_,rfl⟩
 obtain⟨RW,hRW⟩:∃RW,ks0.map KBlk.row=RW:=⟨_,rfl⟩
 obtain⟨SW,hSW⟩:∃SW,ss.map PSl.row=SW:=⟨_,rfl⟩
 have hRWl:RW.length=N:=by rw[←hRW,List.length_map,hk.n]
 have hRWt:RW.take N=RW:=List.take_of_length_le (by omega)
 have hSWl:SW.length=N:=by rw[←hSW,List.length_map,hsl]
 have hSWt:SW.take N=SW:=List.take_of_length_le (by omega)
 rw[hRW,hSW,←hX0]at kn
 rw[hRW,hSW,←hX0]at hK
 have hRWno:∀r∈RW,Go.AE.noOw r=true:=fun r hr=>by
  rw[←hRW]at hr
  obtain⟨k,hk2,rfl⟩:=List.mem_map.1 hr
  exact KBlk.noOw (hk.ok k hk2)
 have hRWx:∀j,j<RW.length→∃a1 a2 a3 a4 fl,RW.getD j []=[a1,a2,a3,a4,.sl fl 1 (Qg (nx j))]:=fun j hj=>by
  have hj':j<ks0.length:=by rw[hk.n];omega
  have hy:=hk.y j hj'
  rw[if_neg (Nat.not_lt_zero j)]at hy
  refine⟨ks0[j].pc,.sl false 4 (Qa1 ks0[j].y.ins),.int .i64 ks0[j].y.jump,.int .i64 ks0[j].y.on,false,?_⟩
  rw[←hRW,List.getD_eq_getElem?_getD]
  simp only[List.getElem?_map,List.getElem?_eq_getElem hj',Option.map_some,Option.getD_some]
  rw[←hnx j (by omega),←hy]
  exact KBlk.row_eq _
 refine Qb Qai Qayr ?_
 have hx:=kn.l 0 rfl
 rw[hX0]at hx
 have hzb:=kn.l 1 rfl
 refine Qa ?_
 simp only[go_sem,hx,hzb,hRWl,Nat.zero_add,Nat.le_refl]
 try intro _
 refine Qf (Qx (fun m e1 H1=>∃(b:Nat) (ks:List KBlk),m=N-b∧b≤N∧StS nx N g Y b ks∧ks.map KBlk.row=RW∧
  Kn H0 H1 E ([(x,X0),(zb,.vec 5 RW),(o,.vec 1 SW)]++(ks.flatMap KBlk.pl++(psL ss++R)))∧
  lk 0 e1=.c (.ptr x 0)∧lk 1 e1=.c (.vsl o 1 0 N)∧lk 12 e1=.c (.int .i64 N)∧lk 13 e1=.c (.int .i64 b)) N ?_ ?_)
 ·exact⟨0,ks0,by omega,by omega,hk,hRW,kn,rfl,rfl,rfl,rfl⟩
 ·clear kn hx hzb
  rintro m e1 H1 ⟨b,ks,hm,hb,hS,hkr,kn,l0,l1,l12,l13⟩
  refine Qa ?_
  simp only[go_sem,l0,l1,l12,l13]
  refine Qi (Qe rfl ?_ ?_)
  ·intro hc
   have hlt:b<N:=by simpa using hc
   have hkb:b<ks.length:=by rw[hS.n];exact hlt
   obtain⟨kb,hkbe⟩:∃kb,ks[b]=kb:=⟨_,rfl⟩
   have hkbo:Gr kb.pl 2 (Q0 kb.y.phis) kb.pc:=by rw[←hkbe];exact hS.ok _ (List.getElem_mem hkb)
   have hkby:kb.y=Y b:=by have:=hS.y b hkb;rw[if_neg (Nat.lt_irrefl b),hkbe]at this;exact this
   have hsb:b<ss.length:=by omega
   obtain⟨s,hse⟩:∃s,ss[b]=s:=⟨_,rfl⟩
   have hsm:s∈ss:=by rw[←hse];exact List.getElem_mem hsb
   have hsok:=hs.ok s hsm
   have hsml:s.ms.length=(Y b).phis.length:=by have:=hs.ml b hsb;rw[hse]at this;exact this
   have hsF:∀i (h1:i<s.ms.length) (h2:i<(Y b).phis.length),∀w∈Q1 nx (b:Int) N,(lkI w (s.ms[i]).l).getD 0=g b (Y b).phis[i] w:=by
    have:=hs.f b hsb
    rw[hse]at this
    exact this
   have hRWg:RW.getD b []=[kb.pc,.sl false 4 (Qa1 kb.y.ins),.int .i64 kb.y.jump,.int .i64 kb.y.on,.sl false 1 (Qg kb.y.next)]:=by
    rw[←hkr,List.getD_eq_getElem?_getD]
    simp only[List.getElem?_map,List.getElem?_eq_getElem hkb,hkbe,Option.map_some,Option.getD_some]
    exact kb.row_eq
   have hSWg:SW.getD b []=[s.c]:=by
    rw[←hSW,List.getD_eq_getElem?_getD]
    simp only[List.getElem?_map,List.getElem?_eq_getElem hsb,hse,Option.map_some,Option.getD_some]
    rfl
   have hsw:=Gr.isOw hsok
   obtain⟨KR,hKR⟩:∃KR,(ks.eraseIdx b).flatMap KBlk.pl=KR:=⟨_,rfl⟩
   have hflat:(ks.flatMap KBlk.pl).Perm (kb.pl++KR):=by rw[←hKR,←hkbe];exact Qbg hkb
   refine Qh ?_
   try simp only[go_sem]
   refine Qi (Qf ?_)
   refine Qa ?_
   simp only[go_sem,l0,l1,l12,l13]
   have hx:=kn.l 0 rfl
   rw[hX0]at hx
   have hzb:=kn.l 1 rfl
   refine Qa ?_
   simp only[go_sem,hx]
   refine Qzu (nx:=nx) ⟨vslc hzb hRWl.symm,rfl,hRWno,hRWx⟩ fun fl2 H2 hu=>?_
   have kn:=kn.call0 hu
   have hpi:Qkd nx (b:Int) RW.length=Q1 nx (b:Int) N:=by rw[hRWl,Qkd,if_pos (by simp only[Bool.and_eq_true,decide_eq_true_eq];omega)]
   rw[hpi]
   obtain⟨ps,hps⟩:∃ps,Q1 nx (b:Int) N=ps:=⟨_,rfl⟩
   have hpsl:ps.length≤N:=by rw[←hps];exact Qbk _ _ _
   rw[hps]
   simp only[go_sem,Qxl]
   have ho:=kn.l 2 rfl
   have hgmem:∀p∈s.g,p∈psL ss:=fun p hp=>List.mem_flatMap.2 ⟨s,hsm,List.mem_append_right _ hp⟩
   have hsc:okSl H2 s.c=True∧lenC s.c=s.ms.length:=by
    refine⟨eq_true ?_,by have:=Gr.lenC hsok;rw[Qci]at this;exact this⟩
    rcases hsok with ⟨h1,_,_⟩|⟨z,h1,h2⟩
    ·rw[h1];trivial
    ·have hz:=(kn.get (z,.vec 1 (Qeg s.ms)) (List.mem_append_right _ (List.mem_append_right _ (List.mem_append_right _ (List.mem_append_left _ (hgmem _ (by rw[h2];simp))))))).1
     rw[h1];simp only[okSl,hz,Nat.zero_add,Nat.le_refl,and_self]
   refine Qa ?_
   simp only[go_sem,ho,hSWl,hSWt,hSWg,hlt,hsw,hsc.1,hsc.2,Nat.zero_add,Nat.le_refl]
   try intro _
   have kn:Kn H0 H2 E (([(x,X0),(zb,.vec 5 RW),(o,.vec 1 SW)]++(KR++(psL ss++R)))++kb.pl):=kn.perm (Qm fun f hf h0 hc hp=>by
    have:=hp _ _ hflat
    simp only[hf]at this⊢;omega)
   refine Qf (Qx (fun m e1 H1=>∃(i:Nat) (ph:List PhiD) (pl:List (Nat×Obj)),m=s.ms.length-i∧i≤s.ms.length∧ph=mix (stlP nx N g b) (Y b).phis i∧Gr pl 2 (Q0 ph) kb.pc∧
    Kn H0 H1 E (([(x,X0),(zb,.vec 5 RW),(o,.vec 1 SW)]++(KR++(psL ss++R)))++pl)∧
    lk 0 e1=.c (.ptr x 0)∧lk 1 e1=.c (.vsl o 1 0 N)∧lk 4 e1=.c (.int .i64 b)∧lk 5 e1=.c (.sl fl2 1 (Qg ps))∧lk 12 e1=.c (.int .i64 N)∧lk 13 e1=.c (.int .i64 b)∧lk 24 e1=.c s.c∧lk 25 e1=.c (.int .i64 s.ms.length)∧lk 26 e1=.c (.int .i64 i)) s.ms.length ?_ ?_)
   ·exact⟨0,kb.y.phis,kb.pl,by omega,by omega,by rw[Q9q,hkby],hkbo,kn,rfl,rfl,rfl,rfl,rfl,rfl,rfl,rfl,rfl⟩
   ·clear kn hx hzb ho hsc l0 l1 l12 l13 hflat
    rintro m2 e2 H3 ⟨i,ph,pl,hm2,hi,hphe,hgr,kn,l0,l1,l4,l5,l12,l13,l24,l25,l26⟩
    have hphl:ph.length=(Y b).phis.length:=by rw[hphe,Qaa2]
    refine Qa ?_
    simp only[go_sem,l0,l1,l4,l5,l12,l13,l24,l25,l26,hsw]
    refine Qi (Qe rfl ?_ ?_)
    ·intro hc2
     have hlt2:i<s.ms.length:=by simpa using hc2
     have hiY:i<(Y b).phis.length:=by omega
     have hYl:=hpl b hlt
     have hip:i<ph.length:=by omega
     obtain⟨zs,hzs,hsg⟩:∃z,s.c=.vsl z 1 0 s.ms.length∧s.g=[(z,.vec 1 (Qeg s.ms))]:=by
      rcases hsok with ⟨_,h,_⟩|⟨z,h1,h2⟩
      ·have:=congrArg List.length h;rw[Qci]at this;simp only[List.length_nil]at this;omega
      ·exact⟨z,by rw[h1,Qci],h2⟩
     obtain⟨zp,hpc,hplz⟩:∃z,kb.pc=.vsl z 2 0 ph.length∧pl=[(z,.vec 2 (Q0 ph))]:=by
      rcases hgr with ⟨_,h,_⟩|⟨y,h1,h2⟩
      ·have:=congrArg List.length h;rw[Qy]at this;simp only[List.length_nil]at this;omega
      ·exact⟨y,by rw[h1,Qy],h2⟩
     rw[hpc]at hRWg
     rw[hplz]at kn
     obtain⟨pm,hpm⟩:∃pm,s.ms[i]=pm:=⟨_,rfl⟩
     obtain⟨p,hp⟩:∃p,(Y b).phis[i]=p:=⟨_,rfl⟩
     obtain⟨gl,hgl⟩:∃gl,pm.l=gl:=⟨_,rfl⟩
     have hpl2:ps.map (fun w=>(lkI w gl).getD 0)=ps.map (g b p):=List.map_congr_left fun w hw=>by
      have:=hsF i hlt2 hiY w (by rw[hps];exact hw)
      rw[hpm,hgl,hp]at this
      exact this
     have hphi:ph[i]=p:=by rw[←hp];subst hphe;exact Qa4n hiY hip
     have hmpg:(Qeg s.ms).getD i []=[.mp pm.m]:=by rw[Qan0 _ _ hlt2,hpm]
     have hmpt:(Qeg s.ms).take s.ms.length=Qeg s.ms:=List.take_of_length_le (by rw[Qci];omega)
     have hzsm:(zs,Obj.vec 1 (Qeg s.ms))∈psL ss:=hgmem _ (by rw[hsg];simp)
     have hMm:(pm.m,Obj.map pm.ver (mI gl))∈psL ss:=List.mem_flatMap.2 ⟨s,hsm,List.mem_append_left _ (List.mem_flatMap.2 ⟨pm,by rw[←hpm];exact List.getElem_mem hlt2,by rw[PMap.lg,hgl];simp⟩)⟩
     have hzv:=(kn.get (zs,.vec 1 (Qeg s.ms)) (by simp[hzsm])).1
     have hMv:=(kn.get (pm.m,.map pm.ver (mI gl)) (by simp[hMm])).1
     refine Qh ?_
     try simp only[go_sem]
     refine Qi (Qf ?_)
     refine Qa ?_
     simp only[go_sem,l0,l1,l4,l5,l12,l13,l24,l25,l26,hzs,hzv,Qci,hmpt,hlt2,hmpg,Nat.zero_add,Nat.le_refl]
     intro x7 hx7 H4 h4
     have hne:x7≠pm.m:=fun e=>by rw[e,hMv]at hx7;simp at hx7
     have kn:Kn H0 H4 E ([(x7,.st [.mnil])]++(([(x,X0),(zb,.vec 5 RW),(o,.vec 1 SW)]++(KR++(psL ss++R)))++[(zp,.vec 2 (Q0 ph))])):=(kn.al hx7 h4).perm List.perm_append_comm
     have hx7:=kn.l 0 rfl
     simp only[go_sem,Qxm,hx7]
     intro H5 h5
     have kn:Kn H0 H5 E ([(x7,.st [.mp pm.m])]++(([(x,X0),(zb,.vec 5 RW),(o,.vec 1 SW)]++(KR++(psL ss++R)))++[(zp,.vec 2 (Q0 ph))])):=kn.stL 0 rfl h5
     have hx7:=kn.l 0 rfl
     have hx:=kn.l 1 rfl
     rw[hX0]at hx
     have hzb:=kn.l 2 rfl
     have hMv:=(kn.get (pm.m,.map pm.ver (mI gl)) (by simp[hMm])).1
     have hzp:=(kn.get (zp,.vec 2 (Q0 ph)) (by simp)).1
     have hptk:(Q0 ph).take ph.length=Q0 ph:=List.take_of_length_le (by rw[Qy];omega)
     have hpg:(Q0 ph).getD i []=[.int .i64 p.to,.sl false 1 (Qg p.args)]:=by rw[Qax _ _ hip,hphi];rfl
     refine Qb5 ?_
     simp only[go_sem,hx,hzb,hRWl,hRWt,hRWg,hlt,hzp,Qy,hptk,hip,Nat.zero_add,Nat.le_refl]
     refine Qbjj (by omega) hx7 hMv hne fun H6 hu=>?_
     have kn:=kn.call0 hu
     have hx:=kn.l 1 rfl
     rw[hX0]at hx
     have hzb:=kn.l 2 rfl
     have hzp:=(kn.get (zp,.vec 2 (Q0 ph)) (by simp)).1
     simp only[go_sem,Qxn,hx,hzb,hRWl,hRWt,hRWg,hlt,hzp,Qy,hptk,hip,hpg,Nat.zero_add,Nat.le_refl]
     intro H7 h7
     have hrow:(Q0 ph).set i [.int .i64 p.to,.sl false 1 (Qg (ps.map fun w=>(lkI w gl).getD 0))]=Q0 (mix (stlP nx N g b) (Y b).phis (i+1)):=by
      rw[hpl2,←Qapq hiY,hp,stlP,hps,←hphe,Q0,Q0,List.map_set];rfl
     rw[hrow]at h7
     have kn:Kn H0 H7 E ((([(x,X0),(zb,.vec 5 RW),(o,.vec 1 SW)]++(KR++(psL ss++R)))++[(zp,.vec 2 (Q0 (mix (stlP nx N g b) (Y b).phis (i+1))))])++[(x7,.st [.mp pm.m])]):=
      ((kn.perm (L':=[(zp,.vec 2 (Q0 ph))]++([(x7,.st [.mp pm.m])]++([(x,X0),(zb,.vec 5 RW),(o,.vec 1 SW)]++(KR++(psL ss++R))))) (Qm fun f hf h0 hc hp=>by simp only[hf];omega)).stL 0 rfl h7).perm (Qm fun f hf h0 hc hp=>by
       show f ([(zp,_)]++([(x7,_)]++([(x,X0),(zb,.vec 5 RW),(o,.vec 1 SW)]++(KR++(psL ss++R)))))=_
       simp only[hf];omega)
     have kn:=kn.drop
     refine Qv ?_
     simp only[go_sem,l26]
     refine⟨Qr (by omega) (by omega),?_⟩
     show ∃m,_
     refine⟨s.ms.length-(i+1),by omega,i+1,_,_,rfl,by omega,rfl,?_,kn,rfl,rfl,rfl,rfl,rfl,rfl,by first|rfl|exact congrArg V.c hzs.symm,rfl,rfl⟩
     rw[hpc]
     exact .mk _ _ _ (by rw[Qy,Qaa2,hphl])
    ·intro hc2
     have hie:s.ms.length≤i:=by simpa using hc2
     rw[Qaa1 _ _ (by omega)]at hphe
     refine Qw ?_
     simp only[go_sem,X.next]
     have hy2:ks[b].y=Y b:=by rw[hkbe,hkby]
     obtain⟨ks2,hks2⟩:∃ks2,ks2=ks.set b ⟨⟨ph,ks[b].y.ins,ks[b].y.jump,ks[b].y.on,ks[b].y.next⟩,ks[b].pc,pl⟩:=⟨_,rfl⟩
     have hst:=hS.step hkb hphe (pl:=pl) (by rw[hkbe];exact hgr)
     have hrw:=PkS.rows (ks:=ks) (ph:=ph) (pl:=pl) hkb
     have h1:((ks.set b ⟨⟨ph,ks[b].y.ins,ks[b].y.jump,ks[b].y.on,ks[b].y.next⟩,ks[b].pc,pl⟩).flatMap KBlk.pl).Perm (pl++KR):=by
      have:=Qbg (f:=KBlk.pl) (l:=ks.set b ⟨⟨ph,ks[b].y.ins,ks[b].y.jump,ks[b].y.on,ks[b].y.next⟩,ks[b].pc,pl⟩) (i:=b) (by rw[List.length_set];exact hkb)
      rw[List.getElem_set_self,List.eraseIdx_set_eq,hKR]at this
      exact this
     rw[←hks2]at hst hrw h1
     have kn:Kn H0 H3 E ([(x,X0),(zb,.vec 5 RW),(o,.vec 1 SW)]++(ks2.flatMap KBlk.pl++(psL ss++R))):=kn.perm (Qm fun f hf h0 hc hp=>by
      have:=hp _ _ h1
      simp only[hf]at this⊢;omega)
     refine Qv ?_
     simp only[go_sem,l0,l1,l12,l13]
     refine⟨Qr (by omega) (by omega),?_⟩
     show ∃m,_
     exact⟨N-(b+1),by omega,b+1,ks2,rfl,by omega,hst,hrw.trans hkr,kn,rfl,rfl,rfl,rfl⟩
  ·intro hc
   have hbe:b=N:=by have:N≤b:=(by simpa using hc);omega
   subst hbe
   refine Qw ?_
   simp only[go_sem,X.next,Q4,Q7,Qabc,List.not_mem_nil]
   exact⟨fun _=>trivial,hK ks _ hS hkr kn⟩
end Go.AE.Y

namespace Go.AE.Y
attribute [local go_sem] cond_true cond_false Bool.not_true Bool.not_false
open Go.Proofs.Tryz
variable {H H0 F:Heap}{K:V→Heap→Prop}{E L B pl:List (Nat×Obj)}
theorem Qaor {y:BlkD}(hy:y.cl)(hK:∀pc N nc nl H',Gr N 2 (Q0 y.phis) pc→Gr nl 1 (Qg y.next) nc→Kn H H' [] (N++nl)→K (.ag [pc,.sl false 4 (Qa1 y.ins),.int .i64 y.jump,.int .i64 y.on,nc]) H'):Qp prog Qbh [.ag y.cells] H K:=by
 refine Qdu ?_
 refine Qb Qai Q63 ?_
 refine Qa ?_
 simp only[go_sem,BlkD.cells]
 intro x1 hx1 H0 h0
 have kn:=(Kn.start0 H).al hx1 h0
 intro x2 hx2 H1 h1
 have kn:=kn.al hx2 h1
 have hx1:=kn.l 0 rfl
 refine Qa ?_
 simp only[go_sem,hx1]
 refine Qbfw hy.p hy.pa kn fun pc N H2 hgp kn=>?_
 have hpw:=hgp.isOw
 have hx1:=kn.l 0 rfl
 simp only[go_sem,Qh4,hpw,hx1]
 intro H3 h3
 have kn:=kn.stL 0 rfl h3
 have hx1:=kn.l 0 rfl
 refine Qa ?_
 simp only[go_sem,hx1,hpw]
 refine Qbfv hy.i hy.ia fun H4 hu=>?_
 have kn:=kn.call0 hu
 have hx1:=kn.l 0 rfl
 simp only[go_sem,Qh5,hpw,hx1]
 intro H5 h5
 have kn:=kn.stL 0 rfl h5
 have hx1:=kn.l 0 rfl
 refine Qa ?_
 simp only[go_sem,hx1,hpw]
 refine Qaop kn hy.n fun t Lg H6 hgr how kn=>?_
 have hx1:=kn.l 0 rfl
 simp only[go_sem,Qh6,hpw,how,hx1]
 intro H7 h7
 have kn:=kn.stL 0 rfl h7
 have hx1:=kn.l 0 rfl
 have hx2:=kn.l 1 rfl
 refine Qa ?_
 simp only[go_sem,hx1,hx2,hpw,how]
 intro H8 h8
 have kn:Kn H H8 [] ([(x1,.st [pc,.sl false 4 (Qa1 y.ins),.int .i64 y.jump,.int .i64 y.on,t]),(x2,.st [pc,.sl false 4 (Qa1 y.ins),.int .i64 y.jump,.int .i64 y.on,t])]++(N++Lg)):=
  (kn.stL 1 rfl h8).perm (Qm fun f hf h0 hc hp=>by
   have e1:=hc (x1,.st [pc,.sl false 4 (Qa1 y.ins),.int .i64 y.jump,.int .i64 y.on,t]) ([(x2,.st [pc,.sl false 4 (Qa1 y.ins),.int .i64 y.jump,.int .i64 y.on,t])]++N++Lg)
   have e2:=hc (x1,.st [pc,.sl false 4 (Qa1 y.ins),.int .i64 y.jump,.int .i64 y.on,t]) [(x2,.st [pc,.sl false 4 (Qa1 y.ins),.int .i64 y.jump,.int .i64 y.on,t])]
   show f ((x1,_)::([(x2,_)]++N++Lg))=_
   rw[e1]
   simp only[hf,e2];omega)
 have hx2:=kn.l 1 rfl
 refine Qk ?_
 simp only[go_sem,Q4,Q7,Qnz,List.mem_singleton,forall_eq,RS.op,hpw,how,hx2]
 exact⟨unx H (N++Lg),.ag [pc,.sl false 4 (Qa1 y.ins),.int .i64 y.jump,.int .i64 y.on,t],H8.frz (unx H (N++Lg)),FrzL.ag (.cons (.same _ hpw) (.cons (Qd rfl) (.cons (Qd rfl) (.cons (Qd rfl) (.cons (.same _ how) .nil))))),Qdf _ _,hK pc N t Lg _ hgp hgr kn.finK⟩
structure NBlk where
 y:BlkD
 pc:C
 pl:List (Nat×Obj)
 nc:C
 nl:List (Nat×Obj)
def NBlk.row (b:NBlk):List C:=[b.pc,.sl false 4 (Qa1 b.y.ins),.int .i64 b.y.jump,.int .i64 b.y.on,b.nc]
def NBlk.ok (b:NBlk):Prop:=Gr b.pl 2 (Q0 b.y.phis) b.pc∧Gr b.nl 1 (Qg b.y.next) b.nc
def NBlk.lg (b:NBlk):List (Nat×Obj):=b.pl++b.nl
theorem NBlk.noOw {b:NBlk}(h:b.ok):Go.AE.noOw b.row=true:=by
 have h1:=h.1.isOw
 have h2:=h.2.isOw
 simp only[Go.AE.noOw,NBlk.row,List.all_cons,List.all_nil,h1,h2];rfl
theorem Qba8 {l:List BlkD}{fl:Bool}(hl:l.length≤2 ^ 38)(ha:∀y∈l,y.cl)(kn:Kn H0 H E L)
  (hK:∀(ks:List NBlk) t Lg H',ks.map NBlk.y=l→(∀b∈ks,b.ok)→Gr Lg 5 (ks.map NBlk.row) t→Kn H0 H' E ((L++ks.flatMap NBlk.lg)++Lg)→K (.c t) H') :
  Qp prog Qbu [.c (.sl fl 5 (Qn l)),.c (.fn Qbh [])] H K:=by
 refine Qb Qai Qmv ?_
 refine Qa ?_
 simp only[go_sem]
 refine Qa ?_
 simp only[go_sem]
 refine Q5 ?_
 refine Qa ?_
 simp only[go_sem,Ql]
 intro _
 refine Qi (Qf (Qx (fun m e1 H1=>∃(ks:List NBlk) (t:C) (Lg:List (Nat×Obj)),m=l.length-ks.length∧ks.length≤l.length∧ks.map NBlk.y=l.take ks.length∧(∀b∈ks,b.ok)∧Gr Lg 5 (ks.map NBlk.row) t∧Kn H0 H1 E ((L++ks.flatMap NBlk.lg)++Lg)∧
  e1=[(1,.c (.fn Qbh [])),(5,.c t),(8,.c (.sl fl 5 (Qn l))),(9,.c (.int .i64 l.length)),(10,.c (.int .i64 ks.length))]) l.length ?_ ?_))
 ·exact⟨[],_,[],by simp,by simp,by simp,by simp,.nil 5,by simpa using kn,rfl⟩
 ·clear kn
  rintro m e1 H1 ⟨ks,t,Lg,hm,hi,hky,hko,hgr,kn,rfl⟩
  have htw:=hgr.isOw
  refine Qa ?_
  simp only[go_sem,htw]
  refine Qi (Qe rfl ?_ ?_)
  ·intro hc
   have hlt:ks.length<l.length:=by simpa using hc
   obtain⟨y,hy⟩:∃y,l[ks.length]=y:=⟨_,rfl⟩
   have hym:y∈l:=by rw[←hy];exact List.getElem_mem hlt
   have htk:l.take (ks.length+1)=l.take ks.length++[y]:=by rw[List.take_succ_eq_append_getElem hlt,hy]
   refine Qh ?_
   try simp only[go_sem]
   refine Qi (Qf ?_)
   refine Qa ?_
   simp only[go_sem,htw,hlt,Ql,Qak _ _ hlt,BlkD.cells,hy]
   intro x7 hx7 H2 h2
   have kn:=kn.al hx7 h2
   have hx7:H2 x7=.st [.sl true 2 [],.sl true 4 [],.int .i64 0,.int .i64 0,.sl true 1 []]:=(kn.get (x7,.st [.sl true 2 [],.sl true 4 [],.int .i64 0,.int .i64 0,.sl true 1 []]) (by simp)).1
   simp only[go_sem,Qcu,hx7,htw]
   intro H3 h3
   have kn:Kn H0 H3 E (((L++ks.flatMap NBlk.lg)++Lg)++[(x7,blkC y)]):=by
    have:=kn.stL ((L++ks.flatMap NBlk.lg)++Lg).length (x:=x7) (o:=.st [.sl true 2 [],.sl true 4 [],.int .i64 0,.int .i64 0,.sl true 1 []]) (by simp) h3
    simpa[blkC]using this
   have hx7:H3 x7=.st [.sl false 2 (Q0 y.phis),.sl false 4 (Qa1 y.ins),.int .i64 y.jump,.int .i64 y.on,.sl false 1 (Qg y.next)]:=(kn.get (x7,blkC y) (by simp)).1
   have kn:=kn.drop
   refine Qv ?_
   simp only[go_sem,htw,hx7,List.append_nil,List.map_nil]
   refine Qaor (y:=y) (ha y hym) fun pc N nc nl H4 hgp hgn k2=>?_
   have kn:Kn H0 H4 E ((L++(ks++[(⟨y,pc,N,nc,nl⟩:NBlk)]).flatMap NBlk.lg)++Lg):=(kn.comp0 k2).perm (Qm fun f hf h0 hc hp=>by
    simp only[hf,List.flatMap_append,List.flatMap_cons,List.flatMap_nil,List.append_nil,NBlk.lg];omega)
   have hpw:=hgp.isOw
   have hnw:=hgn.isOw
   simp only[go_sem,Qcw,htw,hpw,hnw]
   refine kn.growR (new:=[NBlk.row ⟨y,pc,N,nc,nl⟩]) hgr (.mk' _ _ _ _) (by intro r hr;simp only[List.mem_singleton]at hr;subst hr;exact NBlk.noOw ⟨hgp,hgn⟩) (by simp only[List.length_map,LIM,List.length_cons,List.length_nil];omega) fun t2 Lg2 H5 hgr2 ht2 kn=>?_
   simp only[go_sem,Qcv,ht2]
   refine Qv ?_
   simp only[go_sem,X.next,ht2]
   refine⟨Qr (by omega) (by omega),l.length-(ks.length+1),by omega,ks++[⟨y,pc,N,nc,nl⟩],t2,Lg2,by simp,by simp;omega,?_,fun b hb=>?_,?_,kn,?_⟩
   ·rw[List.length_append,List.length_singleton,htk,List.map_append,hky];rfl
   ·rcases List.mem_append.1 hb with hb|hb
    ·exact hko b hb
    ·simp only[List.mem_singleton]at hb;subst hb;exact⟨hgp,hgn⟩
   ·rw[List.map_append];exact hgr2
   ·simp
  ·intro hc
   have hge:ks.length=l.length:=by have:l.length≤ks.length:=(by simpa using hc);omega
   rw[hge,List.take_length]at hky
   refine Qw ?_
   simp only[go_sem,X.next]
   refine Qa ?_
   simp only[go_sem,htw]
   refine Qk ?_
   simp only[go_sem,Q4,Q7,Qd8,List.mem_singleton,forall_eq,RS.op,htw]
   exact hK ks t Lg H1 hky hko hgr kn
theorem Qast {q:CodeD}{fl:Bool}(hb:q.blocks.length≤2 ^ 38)(ha:∀y∈q.blocks,y.cl)
  (hK:∀(ks:List NBlk) bc bl H',ks.map NBlk.y=q.blocks→(∀b∈ks,b.ok)→Gr bl 5 (ks.map NBlk.row) bc→Kn H H' [] (ks.flatMap NBlk.lg++bl)→K (.ag [.int .i64 q.params,.int .i64 q.regs,bc]) H') :
  Qp prog Qhe [.ag [.int .i64 q.params,.int .i64 q.regs,.sl fl 5 (Qn q.blocks)]] H K:=by
 refine Qdu ?_
 refine Qb Qai Qaaw ?_
 refine Qa ?_
 simp only[go_sem]
 intro x1 hx1 H0 h0
 have kn:=(Kn.start0 H).al hx1 h0
 intro x2 hx2 H1 h1
 have kn:=kn.al hx2 h1
 have hx1:=kn.l 0 rfl
 refine Qa ?_
 simp only[go_sem,hx1]
 refine Qba8 hb ha kn fun ks bc bl H2 hky hko hgr kn=>?_
 have hbw:=hgr.isOw
 have hx1:=kn.l 0 rfl
 simp only[go_sem,Qjk,hbw,hx1]
 intro H3 h3
 have kn:=kn.stL 0 rfl h3
 have hx1:=kn.l 0 rfl
 have hx2:=kn.l 1 rfl
 refine Qa ?_
 simp only[go_sem,hx1,hx2,hbw]
 intro H4 h4
 have kn:Kn H H4 [] ([(x1,.st [.int .i64 q.params,.int .i64 q.regs,bc]),(x2,.st [.int .i64 q.params,.int .i64 q.regs,bc])]++(ks.flatMap NBlk.lg++bl)):=by
  have:=kn.stL 1 rfl h4
  refine this.perm ?_
  simp only[List.set,List.cons_append,List.nil_append,List.append_assoc]
  exact .refl _
 have hx2:=kn.l 1 rfl
 refine Qk ?_
 simp only[go_sem,Q4,Q7,Qrf,List.mem_singleton,forall_eq,RS.op,hbw,hx2]
 exact⟨unx H (ks.flatMap NBlk.lg++bl),.ag [.int .i64 q.params,.int .i64 q.regs,bc],H4.frz (unx H (ks.flatMap NBlk.lg++bl)),FrzL.ag (.cons (Qd rfl) (.cons (Qd rfl) (.cons (.same _ hbw) .nil))),Qdf _ _,hK ks bc bl _ hky hko hgr kn.finK⟩
end Go.AE.Y

namespace Go.AE.Y
attribute [local go_sem] cond_true cond_false Bool.not_true Bool.not_false
open Go.Proofs.Tryz
variable {H H0:Heap}{K:V→Heap→Prop}{E L:List (Nat×Obj)}{q:CodeD}
def Qayi (e:Nat×Int):List C:=[.sl true 2 [],.sl true 4 [],.int .i64 1,.int .i64 0,.sl true 1 [[.int .i64 e.2]]]
def blkN (q:CodeD)(s j:Nat):BlkD:=⟨(Qbs q j).phis,(Qbs q j).ins,(Qbs q j).jump,(Qbs q j).on,stX (gnx q) q.blocks.length s j⟩
def nwL (q:CodeD):List (Nat×Int):=Qbm (gnx q) q.blocks.length q.blocks.length
def mpF (q:CodeD)(s r:Nat):List (List (Int×Int)):=if r<q.blocks.length then (Qbs q r).phis.map fun p=>mpS q r p s else []
structure SpI (q:CodeD)(s:Nat)(ks:List NBlk)(ss:List PSl):Prop where
 kn:ks.length=q.blocks.length
 ky:∀j (h:j<ks.length),ks[j].y=blkN q s j
 ko:∀k∈ks,k.ok
 sl:ss.length=q.blocks.length+s
 sf:PInv (mpF q s) ss
def rwN (q:CodeD)(s:Nat)(ks:List NBlk):List (List C):=ks.map NBlk.row++((nwL q).take s).map Qayi
theorem Qaze {s:Nat}{ks:List NBlk}(hk:ks.length=q.blocks.length)(hs:s≤(nwL q).length):(rwN q s ks).length=q.blocks.length+s:=by
 simp only[rwN,List.length_append,List.length_map,List.length_take];omega
theorem Qblt {s b:Nat}{ks:List NBlk}{kb:NBlk}(hb:b<ks.length)(e:ks[b]=kb):(rwN q s ks).getD b []=kb.row:=by
 rw[rwN,List.getD_eq_getElem?_getD,List.getElem?_append_left (by rw[List.length_map];exact hb)]
 simp[hb,e]
theorem Qan2 {ks:List NBlk}{b:Nat}(hb:b<ks.length):(ks.flatMap NBlk.lg).Perm ((ks.eraseIdx b).flatMap NBlk.lg++(ks[b].pl++ks[b].nl)):=(Qbg hb).trans List.perm_append_comm
theorem Qbfy {ks:List NBlk}{b:Nat}{k:NBlk}(hb:b<ks.length):((ks.set b k).flatMap NBlk.lg).Perm ((ks.eraseIdx b).flatMap NBlk.lg++(k.pl++k.nl)):=by
 have:=Qan2 (ks:=ks.set b k) (b:=b) (by rw[List.length_set];exact hb)
 rw[List.getElem_set_self,List.eraseIdx_set_eq]at this
 exact this
theorem Qat1 {ms:List PMap}{j:Nat}(hj:j<ms.length):(ms.flatMap PMap.lg).Perm ([(ms[j].m,.map ms[j].ver (mI ms[j].l))]++(ms.eraseIdx j).flatMap PMap.lg):=Qbg hj
theorem Qbju {ms:List PMap}{j:Nat}{p:PMap}(hj:j<ms.length):((ms.set j p).flatMap PMap.lg).Perm ([(p.m,.map p.ver (mI p.l))]++(ms.eraseIdx j).flatMap PMap.lg):=by
 have:=Qat1 (ms:=ms.set j p) (j:=j) (by rw[List.length_set];exact hj)
 rw[List.getElem_set_self,List.eraseIdx_set_eq]at this
 exact this
def mvM (k b:Nat)(p:PMap):PMap:=⟨p.m,p.ver+1+1,deI (b:Int) (upI (k:Int) ((lkI (b:Int) p.l).getD 0) p.l)⟩
theorem Qbfx (k b:Nat)(ms:List PMap)(j:Nat):Qeg (mix (mvM k b) ms j)=Qeg ms:=by
 simp only[Qeg,mix,List.map_append,List.map_map]
 have:(ms.take j).map ((fun p:PMap=>[C.mp p.m]) ∘ mvM k b)=(ms.take j).map fun p=>[C.mp p.m]:=rfl
 rw[this,←List.map_append,List.take_append_drop]
theorem SpI.step {s b:Nat}{v:Int}{ks:List NBlk}{ss:List PSl}{k:NBlk}{sv s0:PSl}(h:SpI q s ks ss)(F:SpF (gnx q) q.blocks.length)(he:(nwL q)[s]? = some (b,v))
  (hky:k.y=blkN q (s+1) b) (hko:k.ok) (hv:v.toNat<ss.length) (hs0:ss[v.toNat]=s0) (hsv:sv.ms=s0.ms.map (mvM (q.blocks.length+s) b)) (hsvo:sv.ok) :
  SpI q (s+1) (ks.set b k) ((ss++[(⟨[],.sl true 1 [],[]⟩:PSl)]).set v.toNat sv):=by
 obtain⟨hb,hvm,_⟩:=mem_newL.1 (List.mem_of_getElem? he)
 have hvr:=F.rng b hb v hvm
 refine⟨by rw[List.length_set];exact h.kn,fun j hj=>?_,fun w hw=>?_,by rw[List.length_set,List.length_append,h.sl];simp;omega,⟨fun r hr=>?_,fun w hw=>?_⟩⟩
 ·have hj':j<ks.length:=by simpa using hj
  rw[List.getElem_set]
  split
  ·rename_i e;subst e;exact hky
  ·rename_i e
   rw[h.ky j hj',blkN,blkN,Qbdo F he (fun hh=>e hh.symm)]
 ·rcases List.mem_or_eq_of_mem_set hw with hw|rfl
  ·exact h.ko w hw
  ·exact hko
 ·have hr':r<ss.length+1:=by simpa using hr
  rw[List.getElem_set]
  split
  ·rename_i e
   have hrn:r<q.blocks.length:=by omega
   have h1:=h.sf.f v.toNat hv
   rw[hs0,e,mpF,if_pos hrn]at h1
   rw[hsv,List.map_map,mpF,if_pos hrn]
   have h2:(s0.ms.map PMap.l).map (fun l=>deI (b:Int) (upI ((q.blocks.length+s:Nat):Int) ((lkI (b:Int) l).getD 0) l))=(Qbs q r).phis.map fun p=>mpS q r p (s+1):=by
    rw[h1,List.map_map]
    refine List.map_congr_left fun p _=>?_
    have he2:(Qbm (gnx q) q.blocks.length q.blocks.length)[s]? = some (b,v):=he
    simp only[Function.comp_apply]
    rw[mpS,he2]
    simp only
    rw[if_pos (by omega)]
   rw[←h2,List.map_map];rfl
  ·rename_i e
   by_cases hrs:r<ss.length
   ·rw[List.getElem_append_left hrs,h.sf.f r hrs,mpF,mpF]
    by_cases hrn:r<q.blocks.length
    ·rw[if_pos hrn,if_pos hrn]
     refine List.map_congr_left fun p _=>?_
     have he2:(Qbm (gnx q) q.blocks.length q.blocks.length)[s]? = some (b,v):=he
     rw[mpS,he2]
     simp only
     rw[if_neg (by omega)]
    ·rw[if_neg hrn,if_neg hrn]
   ·have:r=ss.length:=by omega
    subst this
    have hsl:=h.sl
    rw[List.getElem_append_right (Nat.le_refl _),mpF,if_neg (by omega)]
    simp
 ·rcases List.mem_or_eq_of_mem_set hw with hw|rfl
  ·rcases List.mem_append.1 hw with hw|hw
   ·exact h.sf.ok w hw
   ·simp only[List.mem_singleton]at hw;subst hw;exact .nil 1
  ·exact hsvo
end Go.AE.Y

namespace Go.AE.Y
attribute [local go_sem] cond_true cond_false Bool.not_true Bool.not_false
open Go.Proofs.Tryz
variable {H H0:Heap}{K:V→Heap→Prop}{E L:List (Nat×Obj)}{q:CodeD}
def spO (x2 x3:Nat)(q:CodeD)(bc:C):List (Nat×Obj):=[(x2,.st [.int .i64 0,.int .i64 0,.sl true 5 []]),(x3,.st [.int .i64 q.params,.int .i64 q.regs,bc])]
theorem Qant (e:Nat×Int):noOw (Qayi e)=true:=rfl
theorem Qbf9 {s:Nat}{ks:List NBlk}{e:Nat×Int}(he:(nwL q)[s]? = some e):rwN q s ks++[Qayi e]=rwN q (s+1) ks:=by
 obtain⟨h1,h2⟩:=List.getElem?_eq_some_iff.1 he
 rw[rwN,rwN,List.take_succ_eq_append_getElem h1,h2,List.map_append,List.append_assoc];rfl
set_option maxHeartbeats 8000000 in
theorem Qbdl {Q:X→Env→Heap→Prop}{e:Env}{fl fls:Bool}{x2 x3 s b i:Nat}{v:Int}{Ls:List Int}{ks:List NBlk}{ss:List PSl}{bc gc:C}{bl gl:List (Nat×Obj)}(ho:q.ok)
  (he:(nwL q)[s]? = some (b,v)) (hI:SpI q s ks ss) (hgb:Gr bl 5 (rwN q s ks) bc) (hgg:Gr gl 1 (ss.map PSl.row) gc)
  (kn:Kn H0 H [] ((spO x2 x3 q bc++(ks.flatMap NBlk.lg++psL ss))++(bl++gl)))
  (l1:lk 1 e=.c (.pp [.int .i64 q.params,.int .i64 q.regs,.sl fl 5 (Qn q.blocks)])) (l2:lk 2 e=.c (.ptr x2 0)) (l3:lk 3 e=.c (.ptr x3 0)) (l4:lk 4 e=.c gc) (l5:lk 5 e=.c (.int .i64 b)) (l7:lk 7 e=.c (.int .i64 v))
  (l19:lk 19 e=.c (.int .i64 q.blocks.length)) (l20:lk 20 e=.c (.int .i64 b)) (l25:lk 25 e=.c (.sl fls 1 (Qg Ls))) (l26:lk 26 e=.c (.int .i64 Ls.length)) (l27:lk 27 e=.c (.int .i64 i))
  (hQ:∀(e:Env) (H':Heap) (ks:List NBlk) (ss:List PSl) (bc gc:C) (bl gl:List (Nat×Obj)),SpI q (s+1) ks ss→Gr bl 5 (rwN q (s+1) ks) bc→Gr gl 1 (ss.map PSl.row) gc→
   Kn H0 H' [] ((spO x2 x3 q bc++(ks.flatMap NBlk.lg++psL ss))++(bl++gl))→
   lk 1 e=.c (.pp [.int .i64 q.params,.int .i64 q.regs,.sl fl 5 (Qn q.blocks)])→lk 2 e=.c (.ptr x2 0)→lk 3 e=.c (.ptr x3 0)→lk 4 e=.c gc→lk 5 e=.c (.int .i64 b)→
   lk 19 e=.c (.int .i64 q.blocks.length)→lk 20 e=.c (.int .i64 b)→lk 25 e=.c (.sl fls 1 (Qg Ls))→lk 26 e=.c (.int .i64 Ls.length)→lk 27 e=.c (.int .i64 i)→Q .nrm e H') :
  Qac prog Qly Q e H:=by
 have F:=ho.spF
 have hb1:=ho.b1
 obtain⟨hb,hvm,_⟩:=mem_newL.1 (List.mem_of_getElem? he)
 have hvr:=F.rng b hb v hvm
 have hsl:s<(nwL q).length:=(List.getElem?_eq_some_iff.1 he).1
 have hnl:(nwL q).length≤2 * q.blocks.length:=Q20 F (Nat.le_refl _)
 have hrl:=Qaze (q:=q) (s:=s) hI.kn (by omega)
 obtain⟨N,hN⟩:∃N,q.blocks.length+s=N:=⟨_,rfl⟩
 rw[hN]at hrl
 have hbw:=hgb.isOw
 have hgw:=hgg.isOw
 have hbL:=hgb.lenC
 rw[hrl]at hbL
 have kn:Kn H0 H [] ((spO x2 x3 q bc++(ks.flatMap NBlk.lg++psL ss)++gl)++bl):=kn.perm (Qm fun f hf h0 hc hp=>by simp only[hf];omega)
 have hx3:=kn.l 1 rfl
 have hbok:=eq_true (hgb.slc kn).ok
 refine Qa ?_
 simp only[go_sem,l1,l2,l3,l4,l5,l7,l19,l20,l25,l26,l27,hx3,hbw,hgw,hbL,hbok]
 try intro _
 refine Qa ?_
 simp only[go_sem,hx3,hbw,hgw,Qgz,List.take,List.drop,List.length,List.append]
 refine kn.growR (new:=[Qayi (b,v)]) hgb (.mk' _ _ _ _) (by intro r hr;simp only[List.mem_singleton]at hr;rw[hr];exact Qant _) (by simp only[hrl,LIM,List.length_cons,List.length_nil];omega) fun bc2 bl2 H2 hgb2 hbw2 kn=>?_
 rw[Qbf9 he]at hgb2
 have hx3:=kn.l 1 rfl
 simp only[go_sem,Ql4,hx3,hbw2,hgw]
 intro H3 h3
 have kn:Kn H0 H3 [] ((spO x2 x3 q bc2++(ks.flatMap NBlk.lg++psL ss)++bl2)++gl):=(kn.stL 1 rfl h3).perm (Qm fun f hf h0 hc hp=>by
  show f ((spO x2 x3 q bc2++(ks.flatMap NBlk.lg++psL ss)++gl)++bl2)=_
  simp only[hf];omega)
 refine Qa ?_
 simp only[go_sem,hbw2,hgw]
 refine kn.growR (new:=[PSl.row ⟨[],.sl true 1 [],[]⟩]) hgg (.mk' _ _ _ _) (by intro r hr;simp only[List.mem_singleton]at hr;rw[hr];rfl) (by simp only[List.length_map,hI.sl,LIM,List.length_cons,List.length_nil];omega) fun gc2 gl2 H4 hgg2 hgw2 kn=>?_
 obtain⟨ss1,hss1⟩:∃ss1:List PSl,ss1=ss++[⟨[],.sl true 1 [],[]⟩]:=⟨_,rfl⟩
 have hs1r:ss.map PSl.row++[PSl.row ⟨[],.sl true 1 [],[]⟩]=ss1.map PSl.row:=by rw[hss1,List.map_append];rfl
 rw[hs1r]at hgg2
 have hs1l:ss1.length=N+1:=by rw[hss1,List.length_append,hI.sl];simp;omega
 have hs1p:psL ss1=psL ss:=by rw[hss1,psL,psL,List.flatMap_append];simp[PSl.lg]
 rw[←hs1p]at kn
 simp only[go_sem,Ql5,hgw2]
 have hbk:b<ks.length:=by rw[hI.kn];exact hb
 obtain⟨kb,hkb⟩:∃kb,ks[b]=kb:=⟨_,rfl⟩
 have hkbo:kb.ok:=by rw[←hkb];exact hI.ko _ (List.getElem_mem hbk)
 have hkby:kb.y=blkN q s b:=by rw[←hkb];exact hI.ky b hbk
 obtain⟨ns0,hns0⟩:∃ns0,stX (gnx q) q.blocks.length s b=ns0:=⟨_,rfl⟩
 have hkbn:kb.y.next=ns0:=by rw[hkby,←hns0];rfl
 have hn0l:ns0.length=(gnx q b).length:=by rw[←hns0,stX,List.length_map]
 have hn02:ns0.length≤2:=by rw[hn0l];exact F.len b hb
 have hn0p:0<ns0.length:=by rw[hn0l];exact List.length_pos_of_mem hvm
 have hnew:=Qbj6 F he
 rw[hns0,hN]at hnew
 obtain⟨f1,hf1⟩:∃f1:Int→Int,f1=fun w=>if w=v then ((N:Nat):Int)else w:=⟨_,rfl⟩
 rw[←hf1]at hnew
 have hrl1:=Qaze (q:=q) (s:=s+1) hI.kn (by omega)
 have hrl2:(rwN q (s+1) ks).length=N+1:=by omega
 obtain⟨zb,rfl,rfl⟩:∃z,bc2=.vsl z 5 0 (N+1)∧bl2=[(z,.vec 5 (rwN q (s+1) ks))]:=by
  rcases hgb2 with ⟨_,h,_⟩|⟨z,h1,h2⟩
  ·have:=congrArg List.length h;rw[hrl2]at this;simp at this
  ·exact⟨z,by rw[h1,hrl2],h2⟩
 obtain⟨og,rfl,rfl⟩:∃z,gc2=.vsl z 1 0 (N+1)∧gl2=[(z,.vec 1 (ss1.map PSl.row))]:=by
  rcases hgg2 with ⟨_,h,_⟩|⟨z,h1,h2⟩
  ·have:=congrArg List.length h;rw[List.length_map,hs1l]at this;simp at this
  ·exact⟨z,by rw[h1,List.length_map,hs1l],h2⟩
 obtain⟨zn,hnc,hnl2⟩:∃z,kb.nc=.vsl z 1 0 ns0.length∧kb.nl=[(z,.vec 1 (Qg ns0))]:=by
  have h2:=hkbo.2
  rw[hkbn]at h2
  rcases h2 with ⟨_,h,_⟩|⟨z,h1,h2⟩
  ·have:=congrArg List.length h;rw[Qc]at this;simp only[List.length_nil]at this;omega
  ·exact⟨z,by rw[h1,Qc],h2⟩
 have hrow:=Qblt (q:=q) (s:=s+1) hbk hkb
 rw[NBlk.row,hnc]at hrow
 obtain⟨RW,hRW⟩:∃RW,rwN q (s+1) ks=RW:=⟨_,rfl⟩
 obtain⟨SW,hSW⟩:∃SW,ss1.map PSl.row=SW:=⟨_,rfl⟩
 obtain⟨KR,hKR⟩:∃KR,(ks.eraseIdx b).flatMap NBlk.lg=KR:=⟨_,rfl⟩
 have hsp:=Qan2 hbk
 rw[hkb,hnl2,hKR]at hsp
 rw[hRW]at kn hrow hrl2
 rw[hSW]at kn
 have hRt:RW.take (N+1)=RW:=List.take_of_length_le (by omega)
 have hbN:b<N+1:=by omega
 have hpcw:=hkbo.1.isOw
 obtain⟨A,hA⟩:∃A,KR++(kb.pl++psL ss1)=A:=⟨_,rfl⟩
 have kn:Kn H0 H4 [] ([(zn,.vec 1 (Qg ns0))]++([(x3,.st [.int .i64 q.params,.int .i64 q.regs,.vsl zb 5 0 (N+1)]),(zb,.vec 5 RW),(og,.vec 1 SW),(x2,.st [.int .i64 0,.int .i64 0,.sl true 5 []])]++A)):=kn.perm (Qm fun f hf h0 hc hp=>by
  have e4:∀(a b c d:Nat×Obj),f [a,b,c,d]=f [a]+f [b]+f [c]+f [d]:=fun a b c d=>by rw[hc a [b,c,d],hc b [c,d],hc c [d]];omega
  have e2:∀(a b:Nat×Obj),f [a,b]=f [a]+f [b]:=fun a b=>hc a [b]
  have:=hp _ _ hsp
  rw[←hA]
  simp only[hf,spO,e4,e2]at this⊢;omega)
 have hzn:=kn.l 0 rfl
 have hx3:=kn.l 1 rfl
 have hzb:=kn.l 2 rfl
 refine Q5 ?_
 refine Qa ?_
 simp only[go_sem,hx3,hzb,hrl2,hRt,hrow,hbN,hpcw,hzn,Qc,Nat.zero_add,Nat.le_refl]
 try intro _
 refine Qi (Qf (Qx (fun m e1 H1=>∃(j:Nat) (ns:List Int),m=ns0.length-j∧j≤ns0.length∧ns=mix f1 ns0 j∧Kn H0 H1 [] ([(zn,.vec 1 (Qg ns))]++([(x3,.st [.int .i64 q.params,.int .i64 q.regs,.vsl zb 5 0 (N+1)]),(zb,.vec 5 RW),(og,.vec 1 SW),(x2,.st [.int .i64 0,.int .i64 0,.sl true 5 []])]++A))∧
  lk 1 e1=.c (.pp [.int .i64 q.params,.int .i64 q.regs,.sl fl 5 (Qn q.blocks)])∧lk 2 e1=.c (.ptr x2 0)∧lk 3 e1=.c (.ptr x3 0)∧lk 4 e1=.c (.vsl og 1 0 (N+1))∧lk 5 e1=.c (.int .i64 b)∧lk 7 e1=.c (.int .i64 v)∧lk 8 e1=.c (.int .i64 N)∧lk 19 e1=.c (.int .i64 q.blocks.length)∧lk 20 e1=.c (.int .i64 b)∧lk 25 e1=.c (.sl fls 1 (Qg Ls))∧lk 26 e1=.c (.int .i64 Ls.length)∧lk 27 e1=.c (.int .i64 i)∧lk 50 e1=.c (.vsl zn 1 0 ns0.length)∧lk 51 e1=.c (.int .i64 ns0.length)∧lk 52 e1=.c (.int .i64 j)) ns0.length ?_ ?_))
 ·exact⟨0,ns0,by omega,by omega,(Q9q _ _).symm,kn,rfl,rfl,rfl,rfl,rfl,rfl,rfl,rfl,rfl,rfl,rfl,rfl,rfl,rfl,rfl⟩
 ·clear kn hx3 hzb hzn l1 l2 l3 l4 l5 l7 l19 l20 l25 l26 l27
  rintro m e1 H5 ⟨j,ns,hm,hj,hns,kn,l1,l2,l3,l4,l5,l7,l8,l19,l20,l25,l26,l27,l50,l51,l52⟩
  have hzn:=kn.l 0 rfl
  have hx3:=kn.l 1 rfl
  have hzb:=kn.l 2 rfl
  have hnsl:ns.length=ns0.length:=by rw[hns,Qaa2]
  have hnst:(Qg ns).take ns0.length=Qg ns:=List.take_of_length_le (by rw[Qc];omega)
  refine Qa ?_
  simp only[go_sem,l1,l2,l3,l4,l5,l7,l8,l19,l20,l25,l26,l27,l50,l51,l52]
  refine Qi (Qe rfl ?_ ?_)
  ·intro hc
   have hlt:j<ns0.length:=by simpa using hc
   have hjn:j<ns.length:=by omega
   obtain⟨w,hw⟩:∃w,ns0[j]=w:=⟨_,rfl⟩
   have hwn:ns[j]=w:=by rw[←hw];subst hns;exact Qa4n hlt hjn
   have hgd:ns.getD j 0=w:=by simp[List.getD_eq_getElem?_getD,hjn,hwn]
   have hset:=Qapq (f:=f1) hlt
   rw[hw]at hset
   refine Qh ?_
   try simp only[go_sem]
   refine Qvd (fun e1 H1=>Kn H0 H1 [] ([(zn,.vec 1 (Qg (mix f1 ns0 (j+1))))]++([(x3,.st [.int .i64 q.params,.int .i64 q.regs,.vsl zb 5 0 (N+1)]),(zb,.vec 5 RW),(og,.vec 1 SW),(x2,.st [.int .i64 0,.int .i64 0,.sl true 5 []])]++A))∧
    lk 1 e1=.c (.pp [.int .i64 q.params,.int .i64 q.regs,.sl fl 5 (Qn q.blocks)])∧lk 2 e1=.c (.ptr x2 0)∧lk 3 e1=.c (.ptr x3 0)∧lk 4 e1=.c (.vsl og 1 0 (N+1))∧lk 5 e1=.c (.int .i64 b)∧lk 7 e1=.c (.int .i64 v)∧lk 8 e1=.c (.int .i64 N)∧lk 19 e1=.c (.int .i64 q.blocks.length)∧lk 20 e1=.c (.int .i64 b)∧lk 25 e1=.c (.sl fls 1 (Qg Ls))∧lk 26 e1=.c (.int .i64 Ls.length)∧lk 27 e1=.c (.int .i64 i)∧lk 50 e1=.c (.vsl zn 1 0 ns0.length)∧lk 51 e1=.c (.int .i64 ns0.length)∧lk 52 e1=.c (.int .i64 j)) ?_ ?_
   ·intro Q2 hnr _ _
    refine Qf ?_
    refine Qa ?_
    simp only[go_sem,l1,l2,l3,l4,l5,l7,l8,l19,l20,l25,l26,l27,l50,l51,l52,hzn,Qc,hnsl,hnst,hlt,Qs _ _ hjn,hgd,Nat.zero_add,Nat.le_refl]
    refine Qa ?_
    simp only[go_sem]
    refine Qe rfl ?_ ?_
    ·intro hc2
     have hwv:w=v:=by simpa using hc2
     refine Qv ?_
     simp only[go_sem,hx3,hzb,hrl2,hRt,hrow,hbN,hpcw,hzn,Qc,hnsl,hnst,hlt,Qs _ _ hjn,Qanv,Nat.zero_add,Nat.le_refl]
     intro H6 h6
     have hfw:f1 w=((N:Nat):Int):=by rw[hf1];simp[hwv]
     have e:ns.set j ((N:Nat):Int)=mix f1 ns0 (j+1):=by rw[←hset,←hns,hfw]
     rw[e]at h6
     have kn:=kn.stL 0 rfl h6
     exact hnr _ _ ⟨kn,rfl,rfl,rfl,rfl,rfl,rfl,rfl,rfl,rfl,rfl,rfl,rfl,rfl,rfl,rfl⟩
    ·intro hc2
     have hwv:¬w=v:=by simpa using hc2
     refine Qh ?_
     try simp only[go_sem]
     have e:mix f1 ns0 (j+1)=ns:=by
      have hfw:f1 w=w:=by rw[hf1];simp[hwv]
      rw[←hset,←hns,hfw]
      conv=>lhs;rw[←hwn]
      exact List.set_getElem_self hjn
     refine hnr _ _ ⟨?_,rfl,rfl,rfl,rfl,rfl,rfl,rfl,rfl,rfl,rfl,rfl,rfl,rfl,rfl,rfl⟩
     rw[e];exact kn
   ·rintro e4 H6 ⟨kn,l1,l2,l3,l4,l5,l7,l8,l19,l20,l25,l26,l27,l50,l51,l52⟩
    refine Qv ?_
    simp only[go_sem,l1,l2,l3,l4,l5,l7,l8,l19,l20,l25,l26,l27,l50,l51,l52]
    refine⟨Qr (by omega) (by omega),?_⟩
    show ∃m,_
    exact⟨ns0.length-(j+1),by omega,j+1,_,rfl,by omega,rfl,kn,rfl,rfl,rfl,rfl,rfl,rfl,rfl,rfl,rfl,rfl,rfl,rfl,rfl,rfl,rfl⟩
  ·intro hc
   have hge:ns0.length≤j:=by simpa using hc
   rw[Qaa1 _ _ hge,←hnew]at hns
   refine Qw ?_
   simp only[go_sem,X.next]
   obtain⟨kb2,hkb2⟩:∃kb2:NBlk,kb2=⟨blkN q (s+1) b,kb.pc,kb.pl,kb.nc,[(zn,.vec 1 (Qg ns))]⟩:=⟨_,rfl⟩
   have hkb2o:kb2.ok:=by
    rw[hkb2]
    refine⟨?_,?_⟩
    ·have:=hkbo.1
     rw[hkby]at this
     exact this
    ·show Gr [(zn,.vec 1 (Qg ns))] 1 (Qg (stX (gnx q) q.blocks.length (s+1) b)) kb.nc
     rw[←hns,hnc]
     exact .mk _ _ _ (by rw[Qc,hnsl])
   have hkb2y:kb2.y=blkN q (s+1) b:=by rw[hkb2]
   have hkb2r:kb2.row=kb.row:=by rw[hkb2,NBlk.row,NBlk.row,hkby];rfl
   have hkb2l:kb2.pl++kb2.nl=kb.pl++[(zn,.vec 1 (Qg ns))]:=by rw[hkb2]
   obtain⟨r,hr⟩:∃r,v.toNat=r:=⟨_,rfl⟩
   have hrv:v=(r:Int):=by omega
   have hrn:r<q.blocks.length:=by omega
   have hrs:r<ss.length:=by rw[hI.sl];omega
   have hrs1:r<ss1.length:=by omega
   obtain⟨s0,hs0⟩:∃s0,ss[r]=s0:=⟨_,rfl⟩
   have hs01:ss1[r]=s0:=by rw[←hs0];subst hss1;exact List.getElem_append_left hrs
   have hs0o:s0.ok:=by rw[←hs0];exact hI.sf.ok _ (List.getElem_mem hrs)
   have hs0f:s0.ms.map PMap.l=mpF q s r:=by rw[←hs0];exact hI.sf.f r hrs
   have hpml:∀pm∈s0.ms,pm.l.length≤N:=fun pm hpm=>by
    have h1:pm.l∈s0.ms.map PMap.l:=List.mem_map.2 ⟨pm,hpm,rfl⟩
    rw[hs0f,mpF,if_pos hrn]at h1
    obtain⟨p,_,h2⟩:=List.mem_map.1 h1
    rw[←h2,←hN];exact Qbba q r p s
   have hs0l:s0.ms.length≤1200:=by
    have h1:=congrArg List.length hs0f
    rw[mpF,if_pos hrn,List.length_map,List.length_map,Qcm hrn]at h1
    have:=(ho.il r hrn).2
    omega
   have hSg:SW.getD r []=[s0.c]:=by
    rw[←hSW,List.getD_eq_getElem?_getD]
    simp only[List.getElem?_map,List.getElem?_eq_getElem hrs1,hs01,Option.map_some,Option.getD_some]
    rfl
   have hSl:SW.length=N+1:=by rw[←hSW,List.length_map,hs1l]
   have hSt:SW.take (N+1)=SW:=List.take_of_length_le (by omega)
   have hs0w:=Gr.isOw hs0o
   have hsp2:=Qaa6 hrs1 hs01
   obtain⟨B1,hB1⟩:∃B1,[(zn,Obj.vec 1 (Qg ns)),(x3,.st [.int .i64 q.params,.int .i64 q.regs,.vsl zb 5 0 (N+1)]),(zb,.vec 5 RW),(og,.vec 1 SW),(x2,.st [.int .i64 0,.int .i64 0,.sl true 5 []])]++(KR++(kb.pl++psL (ss1.eraseIdx r)))=B1:=⟨_,rfl⟩
   have hogB:(og,Obj.vec 1 SW)∈B1:=by rw[←hB1];simp
   have kn:Kn H0 H5 [] (s0.ms.flatMap PMap.lg++(B1++s0.g)):=kn.perm (Qm fun f hf h0 hc hp=>by
    have e5:∀(a b c d e:Nat×Obj),f [a,b,c,d,e]=f [a]+f [b]+f [c]+f [d]+f [e]:=fun a b c d e=>by rw[hc a [b,c,d,e],hc b [c,d,e],hc c [d,e],hc d [e]];omega
    have e4:∀(a b c d:Nat×Obj),f [a,b,c,d]=f [a]+f [b]+f [c]+f [d]:=fun a b c d=>by rw[hc a [b,c,d],hc b [c,d],hc c [d]];omega
    have:=hp _ _ hsp2
    rw[PSl.lg]at this
    rw[←hB1,←hA]
    simp only[hf,e4,e5]at this⊢;omega)
   have hog:=(kn.get (og,.vec 1 SW) (by simp[hogB])).1
   have hs0k:okSl H5 s0.c=True∧lenC s0.c=s0.ms.length:=by
    refine⟨eq_true ?_,by have:=Gr.lenC hs0o;rw[Qci]at this;exact this⟩
    rcases hs0o with ⟨h1,_,_⟩|⟨z,h1,h2⟩
    ·rw[h1];trivial
    ·have hz:=(kn.get (z,.vec 1 (Qeg s0.ms)) (by rw[h2];simp)).1
     rw[h1];simp only[okSl,hz,Nat.zero_add,Nat.le_refl,and_self]
   refine Qa ?_
   simp only[go_sem,l1,l2,l3,l4,l5,l7,l8,l19,l20,l25,l26,l27,hrv,hog,hSl,hSt,hSg,hs0w,hs0k.1,hs0k.2,show r<N+1 from by omega,Nat.zero_add,Nat.le_refl]
   try intro _
   refine Qf (Qx (fun m e1 H1=>∃(j:Nat) (ms:List PMap),m=s0.ms.length-j∧j≤s0.ms.length∧ms=mix (mvM N b) s0.ms j∧Kn H0 H1 [] (ms.flatMap PMap.lg++(B1++s0.g))∧
    lk 1 e1=.c (.pp [.int .i64 q.params,.int .i64 q.regs,.sl fl 5 (Qn q.blocks)])∧lk 2 e1=.c (.ptr x2 0)∧lk 3 e1=.c (.ptr x3 0)∧lk 4 e1=.c (.vsl og 1 0 (N+1))∧lk 5 e1=.c (.int .i64 b)∧lk 8 e1=.c (.int .i64 N)∧lk 19 e1=.c (.int .i64 q.blocks.length)∧lk 20 e1=.c (.int .i64 b)∧lk 25 e1=.c (.sl fls 1 (Qg Ls))∧lk 26 e1=.c (.int .i64 Ls.length)∧lk 27 e1=.c (.int .i64 i)∧lk 73 e1=.c s0.c∧lk 74 e1=.c (.int .i64 s0.ms.length)∧lk 75 e1=.c (.int .i64 j)) s0.ms.length ?_ ?_)
   ·exact⟨0,s0.ms,by omega,by omega,(Q9q _ _).symm,kn,rfl,rfl,rfl,rfl,rfl,rfl,rfl,rfl,rfl,rfl,rfl,rfl,rfl,rfl⟩
   ·clear kn hog hs0k hzn hx3 hzb l1 l2 l3 l4 l5 l7 l8 l19 l20 l25 l26 l27 l50 l51 l52
    rintro m2 e2 H6 ⟨j2,ms,hm2,hj2,hms,kn,l1,l2,l3,l4,l5,l8,l19,l20,l25,l26,l27,l73,l74,l75⟩
    refine Qa ?_
    simp only[go_sem,l1,l2,l3,l4,l5,l8,l19,l20,l25,l26,l27,l73,l74,l75,hs0w]
    refine Qi (Qe rfl ?_ ?_)
    ·intro hc2
     have hlt:j2<s0.ms.length:=by simpa using hc2
     have hmsl:ms.length=s0.ms.length:=by rw[hms,Qaa2]
     have hjm:j2<ms.length:=by omega
     obtain⟨pm,hpm⟩:∃pm,s0.ms[j2]=pm:=⟨_,rfl⟩
     have hpmm:pm∈s0.ms:=by rw[←hpm];exact List.getElem_mem hlt
     have hpl:=hpml pm hpmm
     have hmj:ms[j2]=pm:=by rw[←hpm];subst hms;exact Qa4n hlt hjm
     have hset:=Qapq (f:=mvM N b) hlt
     rw[hpm,←hms]at hset
     obtain⟨zs,hzs,hsg⟩:∃z,s0.c=.vsl z 1 0 s0.ms.length∧s0.g=[(z,.vec 1 (Qeg s0.ms))]:=by
      rcases hs0o with ⟨_,h,_⟩|⟨z,h1,h2⟩
      ·have:=congrArg List.length h;rw[Qci]at this;simp only[List.length_nil]at this;omega
      ·exact⟨z,by rw[h1,Qci],h2⟩
     have hzv:=(kn.get (zs,.vec 1 (Qeg s0.ms)) (by rw[hsg];simp)).1
     have hmpg:(Qeg s0.ms).getD j2 []=[.mp pm.m]:=by rw[Qan0 _ _ hlt,hpm]
     have hmpt:(Qeg s0.ms).take s0.ms.length=Qeg s0.ms:=List.take_of_length_le (by rw[Qci];omega)
     have hs1:=Qat1 hjm
     rw[hmj]at hs1
     have hs2:=Qbju (p:=mvM N b pm) hjm
     obtain⟨MR,hMR⟩:∃MR,(ms.eraseIdx j2).flatMap PMap.lg=MR:=⟨_,rfl⟩
     rw[hMR]at hs1 hs2
     have kn:Kn H0 H6 [] ([(pm.m,.map pm.ver (mI pm.l))]++(MR++(B1++s0.g))):=kn.perm (Qm fun f hf h0 hc hp=>by
      have:=hp _ _ hs1
      simp only[hf]at this⊢;omega)
     have hM:=kn.l 0 rfl
     have hokM:Qz7 H6 (.mp pm.m)=True:=by simp only[Qz7,hM]
     have henM:Qag H6 (.mp pm.m)=mI pm.l:=by simp only[Qag,hM]
     refine Qh ?_
     try simp only[go_sem]
     refine Qi (Qf ?_)
     refine Qa ?_
     simp only[go_sem,l1,l2,l3,l4,l5,l8,l19,l20,l25,l26,l27,l73,l74,l75,hzs,hzv,Qci,hmpt,hlt,hmpg,Nat.zero_add,Nat.le_refl]
     refine Qa ?_
     simp only[go_sem,hM,hokM,henM,Q9r,Qa9x,Qbhq,Qa33]
     refine⟨by simp only[LIM];omega,fun H7 h7=>?_⟩
     have kn:=kn.stL 0 rfl h7
     have hM:=kn.l 0 rfl
     refine Qv ?_
     simp only[go_sem,hM,Q9r,Qa9l]
     intro H8 h8
     have kn:=kn.stL 0 rfl h8
     have kn:Kn H0 H8 [] ((mix (mvM N b) s0.ms (j2+1)).flatMap PMap.lg++(B1++s0.g)):=kn.perm (Qm fun f hf h0 hc hp=>by
      have:=hp _ _ hs2
      rw[hset]at this
      show f ([((mvM N b pm).m,.map (mvM N b pm).ver (mI (mvM N b pm).l))]++(MR++(B1++s0.g)))=_
      simp only[hf]at this⊢;omega)
     refine Qv ?_
     simp only[go_sem]
     refine⟨Qr (by omega) (by omega),?_⟩
     show ∃m,_
     exact⟨s0.ms.length-(j2+1),by omega,j2+1,_,rfl,by omega,rfl,kn,rfl,rfl,rfl,rfl,rfl,rfl,rfl,rfl,rfl,rfl,rfl,by first|rfl|exact congrArg V.c hzs.symm,rfl,rfl⟩
    ·intro hc2
     have hge:s0.ms.length≤j2:=by simpa using hc2
     rw[Qaa1 _ _ hge]at hms
     refine Qw ?_
     simp only[go_sem,X.next]
     obtain⟨sv,hsv⟩:∃sv:PSl,sv=⟨ms,s0.c,s0.g⟩:=⟨_,rfl⟩
     have hrows:Qeg ms=Qeg s0.ms:=by
      have:=Qbfx N b s0.ms s0.ms.length
      rw[Qaa1 _ _ (Nat.le_refl _),←hms]at this
      exact this
     have hsvo:sv.ok:=by
      rw[hsv]
      show Gr s0.g 1 (Qeg ms) s0.c
      rw[hrows];exact hs0o
     have hst:=hI.step F he (k:=kb2) (sv:=sv) (s0:=s0) hkb2y hkb2o (by rw[hr];exact hrs) (by simp only[hr];exact hs0) (by rw[hsv,hN];exact hms) hsvo
     rw[←hss1,hr]at hst
     have hRW2:rwN q (s+1) (ks.set b kb2)=RW:=by
      rw[←hRW,rwN,rwN,List.map_set,hkb2r]
      congr 1
      have e:kb.row=(ks.map NBlk.row)[b]'(by rw[List.length_map];exact hbk):=by simp[hkb]
      rw[e,List.set_getElem_self]
     have hSW2:(ss1.set r sv).map PSl.row=SW:=by
      rw[←hSW,List.map_set]
      have e:sv.row=(ss1.map PSl.row)[r]'(by rw[List.length_map];exact hrs1):=by simp[hs01,hsv,PSl.row]
      rw[e,List.set_getElem_self]
     have hns2:=Qbfy (k:=kb2) hbk
     rw[hKR,hkb2l]at hns2
     have hps2:=Qbbj (s:=sv) hrs1
     have hsvl:sv.lg=ms.flatMap PMap.lg++s0.g:=by rw[hsv];rfl
     rw[hsvl]at hps2
     refine hQ _ H6 (ks.set b kb2) (ss1.set r sv) (.vsl zb 5 0 (N+1)) (.vsl og 1 0 (N+1)) [(zb,.vec 5 RW)] [(og,.vec 1 SW)] hst ?_ ?_ (kn.perm (Qm fun f hf h0 hc hp=>?_)) rfl rfl rfl rfl rfl rfl rfl rfl rfl rfl
     ·rw[hRW2];exact .mk _ _ _ hrl2.symm
     ·rw[hSW2];exact .mk _ _ _ hSl.symm
     ·have e5:∀(a b c d e:Nat×Obj),f [a,b,c,d,e]=f [a]+f [b]+f [c]+f [d]+f [e]:=fun a b c d e=>by rw[hc a [b,c,d,e],hc b [c,d,e],hc c [d,e],hc d [e]];omega
      have e2:∀(a b:Nat×Obj),f [a,b]=f [a]+f [b]:=fun a b=>hc a [b]
      have h1:=hp _ _ hns2
      have h2:=hp _ _ hps2
      rw[←hB1]
      simp only[hf,spO,e5,e2]at h1 h2⊢;omega
end Go.AE.Y

namespace Go.AE.Y
attribute [local go_sem] cond_true cond_false Bool.not_true Bool.not_false
open Go.Proofs.Tryz
variable {H H0:Heap}{K:V→Heap→Prop}{E L:List (Nat×Obj)}{q:CodeD}
def spY (q:CodeD)(j:Nat):BlkD:=if j<q.blocks.length then blkN q (nwL q).length j else match (nwL q)[j-q.blocks.length]? with
 |some e=>goB e.2
 |none=>⟨[],[],0,0,[]⟩
def spG (q:CodeD)(r:Nat)(p:PhiD)(w:Int):Int:=(lkI w (mpS q r p (nwL q).length)).getD 0
theorem Qa43 (ho:q.ok)(j:Nat):(spY q j).next=spX (gnx q) q.blocks.length j:=by
 rw[spY]
 by_cases h:j<q.blocks.length
 ·rw[if_pos h];exact Qbdn ho.spF h
 ·rw[if_neg h,Qin (by omega)]
  show (match (nwL q)[j-q.blocks.length]? with
   |some e=>goB e.2
   |none=>⟨[],[],0,0,[]⟩:BlkD).next=match (nwL q)[j-q.blocks.length]? with
   |some e=>[e.2]
   |none=>[]
  cases (nwL q)[j-q.blocks.length]? <;> rfl
theorem Q9w (q:CodeD)(j:Nat):(spY q j).phis=if j<q.blocks.length then (Qbs q j).phis else []:=by
 rw[spY]
 by_cases h:j<q.blocks.length
 ·rw[if_pos h,if_pos h];rfl
 ·rw[if_neg h,if_neg h]
  cases (nwL q)[j-q.blocks.length]? <;> rfl
theorem Qbl5 (q:CodeD)(j:Nat):mpF q (nwL q).length j=(spY q j).phis.map fun p=>mpS q j p (nwL q).length:=by
 rw[Q9w,mpF]
 by_cases h:j<q.blocks.length
 ·rw[if_pos h,if_pos h]
 ·rw[if_neg h,if_neg h];rfl
theorem Qbdg (ho:q.ok){j:Nat}(h:j<(spD q).blocks.length):stlY (spX (gnx q) q.blocks.length) (spD q).blocks.length (spG q) j (spY q j)=(spD q).blocks[j]:=by
 by_cases hj:j<q.blocks.length
 ·have e:=Qa42 hj
  rw[List.getElem?_eq_getElem h]at e
  have hp:(Qbs q j).phis.map (stlP (spX (gnx q) q.blocks.length) (spD q).blocks.length (spG q) j)=(Qbs q j).phis.map (spP q j):=List.map_congr_left fun p hp=>by
   rw[stlP,spP,Qdl]
   rw[Qcm hj]at hp
   exact congrArg _ (Qba9 ho.spF hj ((ho.bs j hj).pal p hp))
  rw[Option.some.inj e,stlY,spY,if_pos hj,spB,←hp,←Qbdn ho.spF hj];rfl
 ·have e:=Qbdf (q:=q) (b:=j) (by omega)
  rw[List.getElem?_eq_getElem h]at e
  have e2:(nwL q)[j-q.blocks.length]?.map (fun e=>goB e.2)=some (spD q).blocks[j]:=e.symm
  obtain⟨x,hx,hy⟩:=Option.map_eq_some_iff.1 e2
  rw[←hy,stlY,spY,if_neg hj,hx];rfl
def ksN (q:CodeD)(ks:List NBlk):List KBlk:=ks.map (fun k=>⟨k.y,k.pc,k.pl⟩)++(nwL q).map fun e=>⟨goB e.2,.sl true 2 [],[]⟩
theorem Qbk7 (q:CodeD)(ks:List NBlk):(ksN q ks).flatMap KBlk.pl=ks.flatMap NBlk.pl:=by
 have e:((nwL q).map fun e=>(⟨goB e.2,.sl true 2 [],[]⟩:KBlk)).flatMap KBlk.pl=[]:=List.flatMap_eq_nil_iff.2 fun k hk=>by
  obtain⟨e,_,rfl⟩:=List.mem_map.1 hk;rfl
 rw[ksN,List.flatMap_append,e,List.append_nil,List.flatMap_map]
theorem Qa4p:∀(ks:List NBlk),(ks.flatMap NBlk.lg).Perm (ks.flatMap NBlk.pl++ks.flatMap NBlk.nl)
 |[]=>.refl _
 |k::ks=>by
  have ih:=Qa4p ks
  refine Qm fun f hf h0 hc hp=>?_
  have:=hp _ _ ih
  simp only[List.flatMap_cons,NBlk.lg,hf]at this⊢;omega
theorem Qbk8 {ks:List NBlk}{ss:List PSl}(ho:q.ok)(h:SpI q (nwL q).length ks ss):StS (spX (gnx q) q.blocks.length) (spD q).blocks.length (spG q) (spY q) 0 (ksN q ks):=by
 have hl:(ksN q ks).length=(spD q).blocks.length:=by
  rw[Qdl,Qz6,ksN,List.length_append,List.length_map,List.length_map,h.kn];rfl
 refine⟨hl,fun j hj=>?_,fun k hk=>?_⟩
 ·rw[if_neg (Nat.not_lt_zero j)]
  by_cases hjn:j<q.blocks.length
  ·have hjk:j<ks.length:=by rw[h.kn];exact hjn
   have e:(ksN q ks)[j]=⟨ks[j].y,ks[j].pc,ks[j].pl⟩:=by
    simp only[ksN];rw[List.getElem_append_left (by rw[List.length_map];exact hjk)];simp
   rw[e,spY,if_pos hjn,h.ky j hjk]
  ·have hkl:(ks.map fun k=>(⟨k.y,k.pc,k.pl⟩:KBlk)).length=q.blocks.length:=by rw[List.length_map,h.kn]
   have hjw:j-q.blocks.length<(nwL q).length:=by
    rw[hl,Qdl,Qz6]at hj
    have:(Qbm (gnx q) q.blocks.length q.blocks.length).length=(nwL q).length:=rfl
    omega
   have e:(ksN q ks)[j]=⟨goB ((nwL q)[j-q.blocks.length]).2,.sl true 2 [],[]⟩:=by
    simp only[ksN];rw[List.getElem_append_right (by omega)];simp[hkl]
   rw[e,spY,if_neg hjn,List.getElem?_eq_getElem hjw]
 ·rcases List.mem_append.1 hk with hk|hk
  ·obtain⟨k',hk',rfl⟩:=List.mem_map.1 hk
   exact (h.ko k' hk').1
  ·obtain⟨e,_,rfl⟩:=List.mem_map.1 hk
   exact .nil 2
end Go.AE.Y

namespace Go.AE.Y
variable {q:CodeD}
structure RsI (q:CodeD)(s:Nat)(os:List OBlk):Prop where
 n:os.length=q.blocks.length
 y:∀j (h:j<os.length),os[j].d=blkN q s j
 ok:∀b∈os,b.ok
def rwO (q:CodeD)(s:Nat)(os:List OBlk):List (List C):=os.map OBlk.row++((nwL q).take s).map Qayi
theorem Qbbu {s:Nat}{os:List OBlk}(hk:os.length=q.blocks.length)(hs:s≤(nwL q).length):(rwO q s os).length=q.blocks.length+s:=by
 simp only[rwO,List.length_append,List.length_map,List.length_take];omega
theorem Qblu {s b:Nat}{os:List OBlk}{kb:OBlk}(hb:b<os.length)(e:os[b]=kb):(rwO q s os).getD b []=kb.row:=by
 rw[rwO,List.getD_eq_getElem?_getD,List.getElem?_append_left (by rw[List.length_map];exact hb)]
 simp[hb,e]
theorem Qbga {s:Nat}{os:List OBlk}{e:Nat×Int}(he:(nwL q)[s]? = some e):rwO q s os++[Qayi e]=rwO q (s+1) os:=by
 obtain⟨h1,h2⟩:=List.getElem?_eq_some_iff.1 he
 rw[rwO,rwO,List.take_succ_eq_append_getElem h1,h2,List.map_append,List.append_assoc];rfl
def OBlk.nxt (o:OBlk)(ns:List Int):OBlk:=⟨o.phis,o.pc,o.pl,o.ins,o.ic,o.il,o.jump,o.on,⟨ns,o.nx.y⟩⟩
theorem RsI.step {s b:Nat}{v:Int}{os:List OBlk}(h:RsI q s os)(F:SpF (gnx q) q.blocks.length)(he:(nwL q)[s]? = some (b,v))(hb:b<os.length) :
  RsI q (s+1) (os.set b (os[b].nxt (stX (gnx q) q.blocks.length (s+1) b))):=by
 refine⟨by rw[List.length_set];exact h.n,fun j hj=>?_,fun w hw=>?_⟩
 ·have hj':j<os.length:=by simpa using hj
  rw[List.getElem_set]
  split
  ·rename_i e;subst e
   have:=h.y b hb
   rw[OBlk.d,blkN]at this
   simp only[BlkD.mk.injEq]at this
   obtain⟨e1,e2,e3,e4,_⟩:=this
   simp only[OBlk.nxt,OBlk.d,blkN,e1,e2,e3,e4]
  ·rename_i e
   rw[h.y j hj',blkN,blkN,Qbdo F he (fun hh=>e hh.symm)]
 ·rcases List.mem_or_eq_of_mem_set hw with hw|rfl
  ·exact h.ok w hw
  ·have:=h.ok _ (List.getElem_mem hb)
   exact⟨this.p,this.i,this.a⟩
end Go.AE.Y

namespace Go.AE.Y
attribute [local go_sem] cond_true cond_false Bool.not_true Bool.not_false
open Go.Proofs.Tryz
variable {H H0:Heap}{K:V→Heap→Prop}{E L:List (Nat×Obj)}{q:CodeD}
set_option maxHeartbeats 4000000 in
theorem Qa6v {Q:X→Env→Heap→Prop}{e:Env}{fl:Bool}{x2 x3 s b i:Nat}{v:Int}{os:List OBlk}{bc:C}{bl:List (Nat×Obj)}(ho:q.ok)
  (he:(nwL q)[s]? = some (b,v)) (hi:(gnx q b)[i]? = some v) (hI:RsI q s os) (hgb:Gr bl 5 (rwO q s os) bc)
  (kn:Kn H0 H [] ((spO x2 x3 q bc++os.flatMap OBlk.lg)++bl))
  (l1:lk 1 e=.c (.pp [.int .i64 q.params,.int .i64 q.regs,.sl fl 5 (Qn q.blocks)])) (l2:lk 2 e=.c (.ptr x2 0)) (l3:lk 3 e=.c (.ptr x3 0)) (l4:lk 4 e=.c (.int .i64 b)) (l5:lk 5 e=.c (.int .i64 i)) (l6:lk 6 e=.c (.int .i64 v))
  (hQ:∀(e:Env) (H':Heap) (os:List OBlk) (bc:C) (bl:List (Nat×Obj)),RsI q (s+1) os→Gr bl 5 (rwO q (s+1) os) bc→Kn H0 H' [] ((spO x2 x3 q bc++os.flatMap OBlk.lg)++bl)→
   lk 1 e=.c (.pp [.int .i64 q.params,.int .i64 q.regs,.sl fl 5 (Qn q.blocks)])→lk 2 e=.c (.ptr x2 0)→lk 3 e=.c (.ptr x3 0)→lk 4 e=.c (.int .i64 b)→lk 5 e=.c (.int .i64 i)→Q .nrm e H') :
  Qac prog Q5n Q e H:=by
 have F:=ho.spF
 have hb1:=ho.b1
 obtain⟨hb,hvm,_⟩:=mem_newL.1 (List.mem_of_getElem? he)
 have hsl:s<(nwL q).length:=(List.getElem?_eq_some_iff.1 he).1
 have hnl:(nwL q).length≤2 * q.blocks.length:=Q20 F (Nat.le_refl _)
 have hrl:=Qbbu (q:=q) (s:=s) hI.n (by omega)
 obtain⟨N,hN⟩:∃N,q.blocks.length+s=N:=⟨_,rfl⟩
 rw[hN]at hrl
 have hbk:b<os.length:=by rw[hI.n];exact hb
 obtain⟨kb,hkb⟩:∃kb,os[b]=kb:=⟨_,rfl⟩
 have hkbo:kb.ok:=by rw[←hkb];exact hI.ok _ (List.getElem_mem hbk)
 have hkn:kb.nx.ns=stX (gnx q) q.blocks.length s b:=by
  have:=hI.y b hbk
  rw[hkb]at this
  exact congrArg BlkD.next this
 have hil:i<kb.nx.ns.length:=by rw[hkn,stX,List.length_map];exact (List.getElem?_eq_some_iff.1 hi).1
 have hset:=Qbj7 F he hi
 rw[←hkn,hN]at hset
 have hstep:=hI.step F he hbk
 rw[hkb]at hstep
 obtain⟨zb,rfl,rfl⟩:∃z,bc=.vsl z 5 0 N∧bl=[(z,.vec 5 (rwO q s os))]:=by
  rcases hgb with ⟨_,h,_⟩|⟨z,h1,h2⟩
  ·have:=congrArg List.length h;rw[hrl]at this;simp only[List.length_nil]at this;omega
  ·exact⟨z,by rw[h1,hrl],h2⟩
 have hrow:=Qblu (q:=q) (s:=s) hbk hkb
 have hRt:(rwO q s os).take N=rwO q s os:=List.take_of_length_le (by omega)
 have hbN:b<N:=by omega
 have hpw:=hkbo.p.isOw
 have hiw:=hkbo.i.isOw
 have hsp:=Qbg (f:=OBlk.lg) hbk
 rw[hkb]at hsp
 have hsp2:=Qbg (f:=OBlk.lg) (l:=os.set b (kb.nxt (stX (gnx q) q.blocks.length (s+1) b))) (i:=b) (by rw[List.length_set];exact hbk)
 rw[List.getElem_set_self,List.eraseIdx_set_eq]at hsp2
 obtain⟨KR,hKR⟩:∃KR,(os.eraseIdx b).flatMap OBlk.lg=KR:=⟨_,rfl⟩
 rw[hKR]at hsp hsp2
 have kn:Kn H0 H [] ([(kb.nx.y,.vec 1 (Qg kb.nx.ns))]++(((spO x2 x3 q (.vsl zb 5 0 N))++(kb.rest++KR))++[(zb,.vec 5 (rwO q s os))])):=kn.perm (Qm fun f hf h0 hc hp=>by
  have:=hp _ _ hsp
  rw[OBlk.lg_eq]at this
  simp only[hf]at this⊢;omega)
 have hy:=kn.l 0 rfl
 have hx3:=kn.l 2 rfl
 have hzb:=(kn.get (zb,.vec 5 (rwO q s os)) (by simp)).1
 refine Qae ?_
 simp only[go_sem,l1,l2,l3,l4,l5,l6,hx3,hzb,hrl,hRt,hrow,OBlk.row_eq,hbN,hpw,hiw,hy,hil,Qc,Qs _ _ hil,Qanv,Nat.zero_add,Nat.le_refl]
 intro H2 h2
 rw[hset]at h2
 have kn:=kn.stL 0 rfl h2
 obtain⟨os2,hos2⟩:∃os2,os.set b (kb.nxt (stX (gnx q) q.blocks.length (s+1) b))=os2:=⟨_,rfl⟩
 rw[hos2]at hsp2 hstep
 have hrows:rwO q s os=rwO q s os2:=by
  rw[rwO,rwO,←hos2,List.map_set]
  congr 1
  have e1:(kb.nxt (stX (gnx q) q.blocks.length (s+1) b)).row=kb.row:=by
   rw[OBlk.row_eq,OBlk.row_eq]
   have:(stX (gnx q) q.blocks.length (s+1) b).length=kb.nx.ns.length:=by rw[hkn,stX,stX,List.length_map,List.length_map]
   simp only[OBlk.nxt,this]
  have e2:kb.row=(os.map OBlk.row)[b]'(by rw[List.length_map];exact hbk):=by simp[hkb]
  rw[e1,e2,List.set_getElem_self]
 have kn:Kn H0 H2 [] ((spO x2 x3 q (.vsl zb 5 0 N)++os2.flatMap OBlk.lg)++[(zb,.vec 5 (rwO q s os))]):=kn.perm (Qm fun f hf h0 hc hp=>by
  have:=hp _ _ hsp2
  have e:(kb.nxt (stX (gnx q) q.blocks.length (s+1) b)).lg=[(kb.nx.y,.vec 1 (Qg (stX (gnx q) q.blocks.length (s+1) b)))]++kb.rest:=rfl
  rw[e]at this
  show f ([(kb.nx.y,_)]++(((spO x2 x3 q (.vsl zb 5 0 N))++(kb.rest++KR))++[(zb,.vec 5 (rwO q s os))]))=_
  simp only[hf]at this⊢;omega)
 rw[hrows]at kn
 have hgb2:Gr [(zb,.vec 5 (rwO q s os2))] 5 (rwO q s os2) (.vsl zb 5 0 N):=.mk _ _ _ (by rw[←hrows,hrl])
 obtain⟨bc1,hbc1⟩:∃c,C.vsl zb 5 0 N=c:=⟨_,rfl⟩
 obtain⟨bl1,hbl1⟩:∃l,[(zb,Obj.vec 5 (rwO q s os2))]=l:=⟨_,rfl⟩
 rw[hbc1,hbl1]at kn hgb2
 have hbw1:=hgb2.isOw
 have hx3:=kn.l 1 rfl
 refine Qv ?_
 simp only[go_sem,hx3,hbw1,Qgz,List.take,List.drop,List.length,List.append,List.map_nil]
 refine kn.growR (new:=[Qayi (b,v)]) hgb2 (.mk' _ _ _ _) (by intro r hr;simp only[List.mem_singleton]at hr;rw[hr];exact Qant _) (by simp only[←hrows,hrl,LIM,List.length_cons,List.length_nil];omega) fun bc2 bl2 H3 hgb3 hbw2 kn=>?_
 rw[Qbga he]at hgb3
 have hx3:=kn.l 1 rfl
 simp only[go_sem,Q1b,hx3,hbw2]
 intro H4 h4
 have kn:=kn.stL 1 rfl h4
 exact hQ _ H4 os2 bc2 bl2 hstep hgb3 kn rfl rfl rfl rfl rfl
end Go.AE.Y

namespace Go.AE.Y
attribute [local go_sem] cond_true cond_false Bool.not_true Bool.not_false
open Go.Proofs.Tryz
variable {H H0:Heap}{K:V→Heap→Prop}{E L:List (Nat×Obj)}{q:CodeD}
def shN (q:CodeD)(b i:Nat):Nat:=(Qbm (gnx q) q.blocks.length b).length+(((gnx q b).take i).filter (shV (gnx q) q.blocks.length b)).length
set_option maxHeartbeats 4000000 in
theorem Qa6t {Q:X→Env→Heap→Prop}{e:Env}{fl:Bool}{x2 x3:Nat}{os:List OBlk}{bc:C}{bl:List (Nat×Obj)}(ho:q.ok)
  (hI:RsI q 0 os) (hgb:Gr bl 5 (rwO q 0 os) bc)
  (kn:Kn H0 H [] ((spO x2 x3 q bc++os.flatMap OBlk.lg)++bl))
  (l1:lk 1 e=.c (.pp [.int .i64 q.params,.int .i64 q.regs,.sl fl 5 (Qn q.blocks)])) (l2:lk 2 e=.c (.ptr x2 0)) (l3:lk 3 e=.c (.ptr x3 0)) (l4:lk 4 e=.c (.int .i64 0))
  (hQ:∀(e:Env) (H':Heap) (os:List OBlk) (bc:C) (bl:List (Nat×Obj)),RsI q (nwL q).length os→Gr bl 5 (rwO q (nwL q).length os) bc→Kn H0 H' [] ((spO x2 x3 q bc++os.flatMap OBlk.lg)++bl)→
   lk 1 e=.c (.pp [.int .i64 q.params,.int .i64 q.regs,.sl fl 5 (Qn q.blocks)])→lk 2 e=.c (.ptr x2 0)→lk 3 e=.c (.ptr x3 0)→Q .nrm e H') :
  Qac prog (.block 0 (.loop Qxt)) Q e H:=by
 have F:=ho.spF
 have hb1:=ho.b1
 refine Qf (Qx (fun m e1 H1=>∃(b:Nat) (os:List OBlk) (bc:C) (bl:List (Nat×Obj)),m=q.blocks.length-b∧b≤q.blocks.length∧RsI q (Qbm (gnx q) q.blocks.length b).length os∧Gr bl 5 (rwO q (Qbm (gnx q) q.blocks.length b).length os) bc∧
  Kn H0 H1 [] ((spO x2 x3 q bc++os.flatMap OBlk.lg)++bl)∧
  lk 1 e1=.c (.pp [.int .i64 q.params,.int .i64 q.regs,.sl fl 5 (Qn q.blocks)])∧lk 2 e1=.c (.ptr x2 0)∧lk 3 e1=.c (.ptr x3 0)∧lk 4 e1=.c (.int .i64 b)) q.blocks.length ?_ ?_)
 ·exact⟨0,os,bc,bl,by omega,by omega,hI,hgb,kn,l1,l2,l3,l4⟩
 ·clear kn hI hgb l1 l2 l3 l4
  rintro m e1 H1 ⟨b,os,bc,bl,hm,hb,hI,hgb,kn,l1,l2,l3,l4⟩
  refine Q5 ?_
  refine Qa ?_
  simp only[go_sem,l1,l2,l3,l4,Ql]
  try intro _
  refine Qi (Qe rfl ?_ ?_)
  ·intro hc
   have hlt:b<q.blocks.length:=by simpa using hc
   have hgn:q.blocks[b].next=gnx q b:=(Qk2 hlt).symm
   have hnl:=F.len b hlt
   obtain⟨ns,hns⟩:∃ns,gnx q b=ns:=⟨_,rfl⟩
   rw[hns]at hgn hnl
   refine Qh ?_
   try simp only[go_sem]
   refine Qi (Qf ?_)
   refine Qa ?_
   simp only[go_sem,l1,l2,l3,l4]
   refine Qf (Qx (fun m e1 H1=>∃(i:Nat) (os:List OBlk) (bc:C) (bl:List (Nat×Obj)),m=ns.length-i∧i≤ns.length∧RsI q (shN q b i) os∧Gr bl 5 (rwO q (shN q b i) os) bc∧
    Kn H0 H1 [] ((spO x2 x3 q bc++os.flatMap OBlk.lg)++bl)∧
    lk 1 e1=.c (.pp [.int .i64 q.params,.int .i64 q.regs,.sl fl 5 (Qn q.blocks)])∧lk 2 e1=.c (.ptr x2 0)∧lk 3 e1=.c (.ptr x3 0)∧lk 4 e1=.c (.int .i64 b)∧lk 5 e1=.c (.int .i64 i)) ns.length ?_ ?_)
   ·have e:shN q b 0=(Qbm (gnx q) q.blocks.length b).length:=by simp[shN]
    exact⟨0,os,bc,bl,by omega,by omega,by rw[e];exact hI,by rw[e];exact hgb,kn,rfl,rfl,rfl,rfl,rfl⟩
   ·clear kn hI hgb l1 l2 l3 l4
    rintro m2 e2 H2 ⟨i,os,bc,bl,hm2,hi,hI,hgb,kn,l1,l2,l3,l4,l5⟩
    refine Q5 ?_
    refine Qa ?_
    simp only[go_sem,l1,l2,l3,l4,l5,hlt,Ql,Qak _ _ hlt,BlkD.cells,hgn,Qc]
    try intro _
    refine Qi (Qe rfl ?_ ?_)
    ·intro hc2
     have hlt2:i<ns.length:=by simpa using hc2
     obtain⟨v,hv⟩:∃v,ns[i]=v:=⟨_,rfl⟩
     have hgd:ns.getD i 0=v:=by simp[List.getD_eq_getElem?_getD,hlt2,hv]
     have hiv:(gnx q b)[i]? = some v:=by rw[hns,List.getElem?_eq_getElem hlt2,hv]
     have hsucc:shN q b (i+1)=shN q b i+if shV (gnx q) q.blocks.length b v=true then 1 else 0:=by
      rw[shN,shN,hns,List.take_succ_eq_append_getElem hlt2,List.filter_append,List.length_append,hv,List.filter_cons]
      split <;> simp <;> omega
     refine Qh ?_
     try simp only[go_sem]
     refine Qvd (fun e1 H1=>∃(os:List OBlk) (bc:C) (bl:List (Nat×Obj)),RsI q (shN q b (i+1)) os∧Gr bl 5 (rwO q (shN q b (i+1)) os) bc∧
      Kn H0 H1 [] ((spO x2 x3 q bc++os.flatMap OBlk.lg)++bl)∧
      lk 1 e1=.c (.pp [.int .i64 q.params,.int .i64 q.regs,.sl fl 5 (Qn q.blocks)])∧lk 2 e1=.c (.ptr x2 0)∧lk 3 e1=.c (.ptr x3 0)∧lk 4 e1=.c (.int .i64 b)∧lk 5 e1=.c (.int .i64 i)) ?_ ?_
     ·intro Q2 hnr _ _
      refine Qf ?_
      refine Qa ?_
      simp only[go_sem,l1,l2,l3,l4,l5]
      refine Qa53 ho hlt (by rw[hns];exact hlt2) fun H3 hu=>?_
      have kn:=kn.call0 hu
      rw[hns,hgd]
      refine Qe rfl ?_ ?_
      ·intro hc3
       have hsv:shV (gnx q) q.blocks.length b v=true:=by simpa using hc3
       rw[hsv,if_pos rfl]at hsucc
       refine Qa ?_
       simp only[go_sem,hlt,Ql,Qak _ _ hlt,BlkD.cells,hgn,Qc,hlt2,Qs _ _ hlt2,hgd]
       refine Qa6v ho (Qbli hlt hiv hsv) hiv hI hgb kn rfl rfl rfl rfl rfl rfl fun e3 H9 os bc bl hI hgb kn l1 l2 l3 l4 l5=>?_
       exact hnr _ _ ⟨os,bc,bl,by rw[hsucc];exact hI,by rw[hsucc];exact hgb,kn,l1,l2,l3,l4,l5⟩
      ·intro hc3
       have hsv:¬shV (gnx q) q.blocks.length b v=true:=by simpa using hc3
       rw[if_neg hsv]at hsucc
       refine Qh ?_
       try simp only[go_sem]
       exact hnr _ _ ⟨os,bc,bl,by rw[hsucc];exact hI,by rw[hsucc];exact hgb,kn,rfl,rfl,rfl,rfl,rfl⟩
     ·rintro e4 H6 ⟨os,bc,bl,hI,hgb,kn,l1,l2,l3,l4,l5⟩
      refine Qv ?_
      simp only[go_sem,l1,l2,l3,l4,l5]
      refine⟨Qr (by omega) (by omega),?_⟩
      show ∃m,_
      exact⟨ns.length-(i+1),by omega,i+1,os,bc,bl,rfl,by omega,hI,hgb,kn,rfl,rfl,rfl,rfl,rfl⟩
    ·intro hc2
     have hge:ns.length≤i:=by simpa using hc2
     have e:shN q b i=(Qbm (gnx q) q.blocks.length (b+1)).length:=by
      rw[shN,hns,List.take_of_length_le hge,Qq9,List.length_append,List.length_map,shL,hns]
     rw[e]at hI hgb
     refine Qw ?_
     simp only[go_sem,X.next]
     refine Qv ?_
     simp only[go_sem,l1,l2,l3,l4]
     refine⟨Qr (by omega) (by omega),?_⟩
     show ∃m,_
     exact⟨q.blocks.length-(b+1),by omega,b+1,os,bc,bl,rfl,by omega,hI,hgb,kn,rfl,rfl,rfl,rfl⟩
  ·intro hc
   have hbe:b=q.blocks.length:=by have:q.blocks.length≤b:=(by simpa using hc);omega
   subst hbe
   refine Qw ?_
   simp only[go_sem,X.next]
   exact hQ _ _ os bc bl hI hgb kn rfl rfl rfl
end Go.AE.Y

namespace Go.AE.Y
attribute [local go_sem] cond_true cond_false Bool.not_true Bool.not_false
open Go.Proofs.Tryz
variable {H H0:Heap}{K:V→Heap→Prop}{E L:List (Nat×Obj)}{q:CodeD}
set_option maxHeartbeats 8000000 in
theorem Qbdk {Q:X→Env→Heap→Prop}{e:Env}{x2 x3:Nat}{ks:List NBlk}{ss:List PSl}{bc gc:C}{bl gl:List (Nat×Obj)}(ho:q.ok)
  (hI:SpI q (nwL q).length ks ss) (hgb:Gr bl 5 (rwN q (nwL q).length ks) bc) (hgg:Gr gl 1 (ss.map PSl.row) gc)
  (kn:Kn H0 H [] ((spO x2 x3 q bc++(ks.flatMap NBlk.lg++psL ss))++(bl++gl)))
  (l2:lk 2 e=.c (.ptr x2 0)) (l3:lk 3 e=.c (.ptr x3 0)) (l4:lk 4 e=.c gc)
  (hQ:∀(e:Env) (H':Heap) (ks:List KBlk) (z:Nat),ks.length=(spD q).blocks.length→ks.map KBlk.y=(spD q).blocks→(∀k∈ks,k.ok)→
   Kn H0 H' [] ([(x2,.st [.int .i64 q.params,.int .i64 q.regs,.vsl z 5 0 (spD q).blocks.length]),(z,.vec 5 (ks.map KBlk.row))]++ks.flatMap KBlk.pl)→lk 2 e=.c (.ptr x2 0)→Q .ret e H') :
  Qac prog Qlz Q e H:=by
 have F:=ho.spF
 have hb1:=ho.b1
 have hb0:=ho.b0
 have hnl:(nwL q).length≤2 * q.blocks.length:=Q20 F (Nat.le_refl _)
 have hrl:=Qaze (q:=q) (s:=(nwL q).length) hI.kn (Nat.le_refl _)
 have hND:(spD q).blocks.length=q.blocks.length+(nwL q).length:=by rw[Qdl];rfl
 obtain⟨N,hN⟩:∃N,(spD q).blocks.length=N:=⟨_,rfl⟩
 rw[←hND,hN]at hrl
 have hsl:ss.length=N:=by rw[hI.sl,←hND,hN]
 obtain⟨zb,rfl,rfl⟩:∃z,bc=.vsl z 5 0 N∧bl=[(z,.vec 5 (rwN q (nwL q).length ks))]:=by
  rcases hgb with ⟨_,h,_⟩|⟨z,h1,h2⟩
  ·have:=congrArg List.length h;rw[hrl]at this;simp only[List.length_nil]at this;omega
  ·exact⟨z,by rw[h1,hrl],h2⟩
 obtain⟨og,rfl,rfl⟩:∃z,gc=.vsl z 1 0 N∧gl=[(z,.vec 1 (ss.map PSl.row))]:=by
  rcases hgg with ⟨_,h,_⟩|⟨z,h1,h2⟩
  ·have:=congrArg List.length h;rw[List.length_map,hsl]at this;simp only[List.length_nil]at this;omega
  ·exact⟨z,by rw[h1,List.length_map,hsl],h2⟩
 have hkp:=Qa4p ks
 have kn:Kn H0 H [] (([(zb,.vec 5 (rwN q (nwL q).length ks)),(x3,.st [.int .i64 q.params,.int .i64 q.regs,.vsl zb 5 0 N]),(og,.vec 1 (ss.map PSl.row)),(x2,.st [.int .i64 0,.int .i64 0,.sl true 5 []])]++(ks.flatMap NBlk.pl++psL ss))++ks.flatMap NBlk.nl):=kn.perm (Qm fun f hf h0 hc hp=>by
  have e4:∀(a b c d:Nat×Obj),f [a,b,c,d]=f [a]+f [b]+f [c]+f [d]:=fun a b c d=>by rw[hc a [b,c,d],hc b [c,d],hc c [d]];omega
  have e2:∀(a b:Nat×Obj),f [a,b]=f [a]+f [b]:=fun a b=>hc a [b]
  have:=hp _ _ hkp
  simp only[hf,spO,e4,e2]at this⊢;omega)
 obtain⟨S,hSL,hSB,hfz,kn⟩:=kn.freeze0
 have hz:=hSB (zb,.vec 5 (rwN q (nwL q).length ks)) (by simp)
 have hrows:FrzR H S (rwN q (nwL q).length ks) ((ksN q ks).map KBlk.row):=by
  rw[rwN,ksN,List.map_append,List.map_map,List.map_map,List.take_length]
  refine FrzR.app (Qgx ks fun k hk=>?_) (Qgx _ fun e he=>?_)
  ·have hk2:=hI.ko k hk
   refine .cons (.same _ hk2.1.isOw) (.cons (Qd rfl) (.cons (Qd rfl) (.cons (Qd rfl) (.cons ?_ .nil))))
   exact Gr.frzM hk2.2 (fun p hp=>hSL p (List.mem_flatMap.2 ⟨k,hk,hp⟩)) (FrzR.same (Qt _))
  ·refine .cons (.same _ rfl) (.cons FrzR.nil.sl (.cons (Qd rfl) (.cons (Qd rfl) (.cons ?_ .nil))))
   exact FrzR.sl (FrzR.same (Qt [e.2]))
 have hno:∀r∈rwN q (nwL q).length ks,Go.AE.noOw r=true:=fun r hr=>by
  rcases List.mem_append.1 hr with hr|hr
  ·obtain⟨k,hk,rfl⟩:=List.mem_map.1 hr
   exact NBlk.noOw (hI.ko k hk)
  ·obtain⟨e,_,rfl⟩:=List.mem_map.1 hr;rfl
 have hfz2:=hfz.set (o:=.vec 5 ((ksN q ks).map KBlk.row)) hz.2 (by rw[hz.1];exact .vecR hrows hno)
 have kn:=kn.setL (o':=.vec 5 ((ksN q ks).map KBlk.row)) 0 rfl (by simp)
 generalize hH2:(H.frz S).set zb (.vec 5 ((ksN q ks).map KBlk.row))=H2 at hfz2 kn
 have hpl:=Qbk7 q ks
 have kn:Kn H0 H2 [] ([(x3,.st [.int .i64 q.params,.int .i64 q.regs,.vsl zb 5 0 N]),(zb,.vec 5 ((ksN q ks).map KBlk.row)),(og,.vec 1 (ss.map PSl.row))]++((ksN q ks).flatMap KBlk.pl++(psL ss++[(x2,.st [.int .i64 0,.int .i64 0,.sl true 5 []])]))):=kn.perm (Qm fun f hf h0 hc hp=>by
  have e4:∀(a b c d:Nat×Obj),f [a,b,c,d]=f [a]+f [b]+f [c]+f [d]:=fun a b c d=>by rw[hc a [b,c,d],hc b [c,d],hc c [d]];omega
  have e3:∀(a b c:Nat×Obj),f [a,b,c]=f [a]+f [b]+f [c]:=fun a b c=>by rw[hc a [b,c],hc b [c]];omega
  rw[hpl]
  show f ([(zb,_),(x3,_),(og,_),(x2,_)]++(ks.flatMap NBlk.pl++psL ss))=_
  simp only[hf,e4,e3];omega)
 refine Q5 ?_
 refine c_gh (Qez S (Qao0 ?_) hfz2) (e':=[(2,.c (.ptr x2 0)),(3,.c (.ptr x3 0)),(4,.c (.vsl og 1 0 N))]) ?_
 ·simp only[List.forall_mem_cons,l2,l3,l4]
  exact⟨.c _ _ (.same _ rfl),.c _ _ (.same _ rfl),.c _ _ (.same _ rfl),by simp⟩
 clear hfz hfz2 hSL hSB hz hrows hno hH2
 refine Qa ?_
 simp only[go_sem]
 have hst:=Qbk8 ho hI
 rw[hN]at hst
 refine Qbg2 (nx:=spX (gnx q) q.blocks.length) (N:=N) (g:=spG q) (Y:=spY q) (by omega) hst (fun j _=>Qa43 ho j) (fun j _=>?_) hsl (PTel.of (G:=fun j p=>mpS q j p (nwL q).length) ⟨fun j hj=>?_,hI.sf.ok⟩ fun _ _ _=>rfl) kn fun ks2 H3 hS2 hkr kn=>?_
 ·rw[Q9w]
  split
  ·rename_i h
   rw[Qcm h]
   have:=(ho.il j h).2
   omega
  ·simp
 ·rw[hI.sf.f j hj,Qbl5]
 have hx3:=kn.l 0 rfl
 have kn:Kn H0 H3 [] ([(x2,.st [.int .i64 0,.int .i64 0,.sl true 5 []]),(x3,.st [.int .i64 q.params,.int .i64 q.regs,.vsl zb 5 0 N])]++([(zb,.vec 5 (ks2.map KBlk.row))]++(ks2.flatMap KBlk.pl++([(og,.vec 1 (ss.map PSl.row))]++psL ss)))):=kn.perm (Qm fun f hf h0 hc hp=>by
  have e3:∀(a b c:Nat×Obj),f [a,b,c]=f [a]+f [b]+f [c]:=fun a b c=>by rw[hc a [b,c],hc b [c]];omega
  have e2:∀(a b:Nat×Obj),f [a,b]=f [a]+f [b]:=fun a b=>hc a [b]
  rw[hkr]
  simp only[hf,e3,e2];omega)
 have hx2:=kn.l 0 rfl
 have hx3:=kn.l 1 rfl
 refine Qa ?_
 simp only[go_sem,hx2,hx3]
 intro H4 h4
 have kn:=kn.stL 0 rfl h4
 refine Qk ?_
 rw[hN]at hQ
 refine hQ _ H4 ks2 zb hS2.n ?_ hS2.ok ?_ rfl
 ·refine List.ext_getElem (by rw[List.length_map,hS2.n,hN]) fun j h1 h2=>?_
  have hj:j<ks2.length:=by simpa using h1
  rw[List.getElem_map,hS2.y j hj,if_pos (by rw[←hS2.n];exact hj),←hN]
  exact Qbdg ho h2
 ·have kn:Kn H0 H4 [] (([(x2,.st [.int .i64 q.params,.int .i64 q.regs,.vsl zb 5 0 N]),(zb,.vec 5 (ks2.map KBlk.row))]++ks2.flatMap KBlk.pl)++([(x3,.st [.int .i64 q.params,.int .i64 q.regs,.vsl zb 5 0 N])]++([(og,.vec 1 (ss.map PSl.row))]++psL ss))):=kn.perm (Qm fun f hf h0 hc hp=>by
   have e2:∀(a b:Nat×Obj),f [a,b]=f [a]+f [b]:=fun a b=>hc a [b]
   show f ([(x2,_),(x3,_)]++([(zb,_)]++(ks2.flatMap KBlk.pl++([(og,_)]++psL ss))))=_
   simp only[hf,e2];omega)
  exact kn.drop
end Go.AE.Y

namespace Go.AE.Y
variable {H H0:Heap}{q:CodeD}
def goK (e:Nat×Int):KBlk:=⟨goB e.2,.sl true 2 [],[]⟩
theorem Qa6u {x2 x3:Nat}{os:List OBlk}{bc:C}{bl:List (Nat×Obj)}(ho:q.ok)(hI:RsI q (nwL q).length os)(hgb:Gr bl 5 (rwO q (nwL q).length os) bc)(kn:Kn H0 H [] ((spO x2 x3 q bc++os.flatMap OBlk.lg)++bl)) :
  ∃(S:Nat→Bool) (H4:Heap) (ks:List KBlk) (zb:Nat),FrzH H S H4∧ks.length=(spD q).blocks.length∧(∀j (h:j<ks.length),ks[j].y=spY q j)∧(∀k∈ks,k.ok)∧
   Kn H0 H4 [] (spO x2 x3 q (.vsl zb 5 0 (spD q).blocks.length)++([(zb,.vec 5 (ks.map KBlk.row))]++ks.flatMap KBlk.pl)):=by
 have hb0:=ho.b0
 have hrl:=Qbbu (q:=q) (s:=(nwL q).length) hI.n (Nat.le_refl _)
 have hND:(spD q).blocks.length=q.blocks.length+(nwL q).length:=by rw[Qdl];rfl
 rw[←hND]at hrl
 obtain⟨zb,rfl,rfl⟩:∃z,bc=.vsl z 5 0 (spD q).blocks.length∧bl=[(z,.vec 5 (rwO q (nwL q).length os))]:=by
  rcases hgb with ⟨_,h,_⟩|⟨z,h1,h2⟩
  ·have:=congrArg List.length h;rw[hrl]at this;simp only[List.length_nil]at this;omega
  ·exact⟨z,by rw[h1,hrl],h2⟩
 have hp1:∀(l:List OBlk),(l.flatMap OBlk.lg).Perm (l.flatMap OBlk.pl++l.flatMap fun o=>o.nx.lg++(o.phis.flatMap OPhi.lg++(o.ins.flatMap OIns.lg++o.il))):=fun l=>by
  induction l with
  |nil=>exact .refl _
  |cons o l ih=>
   refine Qm fun f hf h0 hc hp=>?_
   have:=hp _ _ ih
   simp only[List.flatMap_cons,OBlk.lg,hf]at this⊢;omega
 have hp2:=hp1 os
 obtain⟨LF,hLF⟩:∃LF,(os.flatMap fun o=>o.nx.lg++(o.phis.flatMap OPhi.lg++(o.ins.flatMap OIns.lg++o.il)))=LF:=⟨_,rfl⟩
 rw[hLF]at hp2
 have kn:Kn H0 H [] ((([(zb,.vec 5 (rwO q (nwL q).length os))]++spO x2 x3 q (.vsl zb 5 0 (spD q).blocks.length))++os.flatMap OBlk.pl)++LF):=kn.perm (Qm fun f hf h0 hc hp=>by
  have:=hp _ _ hp2
  simp only[hf]at this⊢;omega)
 obtain⟨S,hSL,hSB,hfz,kn⟩:=kn.freeze0
 have hHd:∀o∈os,Held H S (o.nx.lg++(o.phis.flatMap OPhi.lg++(o.ins.flatMap OIns.lg++o.il))):=fun o h p hp=>hSL p (by rw[←hLF];exact List.mem_flatMap.2 ⟨o,h,hp⟩)
 have hz:=hSB (zb,.vec 5 (rwO q (nwL q).length os)) (by simp)
 obtain⟨H4,ks,g1,g2,g3,g4,g5⟩:=Qayf (S:=S) os hfz (fun o h=>⟨hI.ok o h,(hHd o h).r.l,fun p hp=>hSB p (List.mem_append_right _ (List.mem_flatMap.2 ⟨o,h,hp⟩))⟩) kn
 have hkl:ks.length=os.length:=by have:=congrArg List.length g2;simpa using this
 have hyj:∀j (h:j<ks.length) (h2:j<os.length),ks[j].y=os[j].d∧ks[j].pc=os[j].pc:=fun j h h2=>by
  have e1:(ks.map KBlk.y)[j]? = some ks[j].y:=by simp[h]
  have e2:(ks.map KBlk.pc)[j]? = some ks[j].pc:=by simp[h]
  rw[g2]at e1
  rw[g3]at e2
  simp only[List.getElem?_map,List.getElem?_eq_getElem h2,Option.map_some,Option.some.injEq]at e1 e2
  exact⟨e1.symm,e2.symm⟩
 have hkr:ks.map KBlk.row=os.map fun o=>kRow o.d o.pc:=List.ext_getElem (by simp[hkl]) fun j h1 h2=>by
  have hj:j<ks.length:=by simpa using h1
  obtain⟨e1,e2⟩:=hyj j hj (by omega)
  simp only[List.getElem_map,KBlk.row,e1,e2]
 have hrows:FrzR H S (rwO q (nwL q).length os) ((ks++(nwL q).map goK).map KBlk.row):=by
  rw[rwO,List.map_append,hkr,List.map_map,List.take_length]
  refine FrzR.app (Qgx os fun o h=>?_) (Qgx _ fun e he=>?_)
  ·have hk:=hI.ok o h
   have hh:=hHd o h
   exact .cons (.same _ hk.p.isOw) (.cons (Gr.frzM hk.i hh.r.r.r (Qa4e hh.r.r.l)) (.cons (Qd rfl) (.cons (Qd rfl) (.cons (o.nx.frz hh.l) .nil))))
  ·refine .cons (.same _ rfl) (.cons FrzR.nil.sl (.cons (Qd rfl) (.cons (Qd rfl) (.cons ?_ .nil))))
   exact FrzR.sl (FrzR.same (Qt [e.2]))
 have hno:∀r∈rwO q (nwL q).length os,Go.AE.noOw r=true:=fun r hr=>by
  rcases List.mem_append.1 hr with hr|hr
  ·obtain⟨k,hk,rfl⟩:=List.mem_map.1 hr
   exact k.noOw (hI.ok k hk)
  ·obtain⟨e,_,rfl⟩:=List.mem_map.1 hr;rfl
 have hl2:(ks++(nwL q).map goK).length=(spD q).blocks.length:=by rw[List.length_append,List.length_map,hkl,hI.n,hND]
 have hpl:(ks++(nwL q).map goK).flatMap KBlk.pl=ks.flatMap KBlk.pl:=by
  have e:((nwL q).map goK).flatMap KBlk.pl=[]:=List.flatMap_eq_nil_iff.2 fun k hk=>by
   obtain⟨e,_,rfl⟩:=List.mem_map.1 hk;rfl
  rw[List.flatMap_append,e,List.append_nil]
 have kn:=g5
 rw[List.append_assoc]at kn
 have kn:=kn.setL (o':=.vec 5 ((ks++(nwL q).map goK).map KBlk.row)) 0 rfl (by simp)
 refine⟨S,H4.set zb (.vec 5 ((ks++(nwL q).map goK).map KBlk.row)),ks++(nwL q).map goK,zb,g1.set hz.2 (by rw[hz.1];exact .vecR hrows hno),hl2,fun j hj=>?_,fun k hk=>?_,kn.perm (Qm fun f hf h0 hc hp=>by
  rw[hpl]
  show f ([(zb,_)]++(spO x2 x3 q (.vsl zb 5 0 (spD q).blocks.length)++ks.flatMap KBlk.pl))=_
  simp only[hf];omega)⟩
 ·by_cases hjn:j<q.blocks.length
  ·have hjk:j<ks.length:=by rw[hkl,hI.n];exact hjn
   have hjo:j<os.length:=by omega
   rw[List.getElem_append_left hjk,(hyj j hjk hjo).1,spY,if_pos hjn,hI.y j hjo]
  ·have hkn:ks.length=q.blocks.length:=by rw[hkl,hI.n]
   have hjw:j-q.blocks.length<(nwL q).length:=by omega
   have e:(ks++(nwL q).map goK)[j]=goK ((nwL q)[j-q.blocks.length]):=by
    rw[List.getElem_append_right (by omega)];simp[hkn]
   rw[e,spY,if_neg hjn,List.getElem?_eq_getElem hjw];rfl
 ·rcases List.mem_append.1 hk with hk|hk
  ·exact g4 k hk
  ·obtain⟨e,_,rfl⟩:=List.mem_map.1 hk
   exact .nil 2
end Go.AE.Y

namespace Go.AE.Y
attribute [local go_sem] cond_true cond_false Bool.not_true Bool.not_false
open Go.Proofs.Tryz
variable {H H0:Heap}{K:V→Heap→Prop}{q:CodeD}
theorem Qbma (ho:q.ok){b:Nat}(hb:b<q.blocks.length){p:PhiD}(hp:p∈(Qbs q b).phis):stlP (spX (gnx q) q.blocks.length) (spD q).blocks.length (spG q) b p=spP q b p:=by
 rw[stlP,spP,Qdl]
 rw[Qcm hb]at hp
 exact congrArg _ (Qba9 ho.spF hb ((ho.bs b hb).pal p hp))
theorem Qbjp {nx:Nat→List Int}{n j:Nat}(h:j<n):org nx n j=j:=by rw[org,if_pos h]
set_option maxHeartbeats 16000000 in
theorem Qazd {Q:X→Env→Heap→Prop}{e:Env}{fl:Bool}{x2 x3 zb:Nat}{ks0:List KBlk}(ho:q.ok)(hS0:StS (spX (gnx q) q.blocks.length) (spD q).blocks.length (spG q) (spY q) 0 ks0)
  (kn:Kn H0 H [] (spO x2 x3 q (.vsl zb 5 0 (spD q).blocks.length)++([(zb,.vec 5 (ks0.map KBlk.row))]++ks0.flatMap KBlk.pl)))
  (l1:lk 1 e=.c (.pp [.int .i64 q.params,.int .i64 q.regs,.sl fl 5 (Qn q.blocks)])) (l2:lk 2 e=.c (.ptr x2 0)) (l3:lk 3 e=.c (.ptr x3 0)) (l7:lk 7 e=.c (.int .i64 0))
  (hQ:∀(e:Env) (H':Heap) (ks:List KBlk),StS (spX (gnx q) q.blocks.length) (spD q).blocks.length (spG q) (spY q) q.blocks.length ks→Kn H0 H' [] (spO x2 x3 q (.vsl zb 5 0 (spD q).blocks.length)++([(zb,.vec 5 (ks.map KBlk.row))]++ks.flatMap KBlk.pl))→
   lk 2 e=.c (.ptr x2 0)→lk 3 e=.c (.ptr x3 0)→Q .nrm e H') :
  Qac prog (.block 4 (.loop Qxu)) Q e H:=by
 have F:=ho.spF
 have hb1:=ho.b1
 have hnl:(nwL q).length≤2 * q.blocks.length:=Q20 F (Nat.le_refl _)
 have hND:(spD q).blocks.length=q.blocks.length+(nwL q).length:=by rw[Qdl];rfl
 have hNo:(spD q).blocks.length=Qz6 (gnx q) q.blocks.length q.blocks.length:=Qdl q
 have hstl:=fun (b:Nat) (hb:b<q.blocks.length) (p:PhiD) (hp:p∈(Qbs q b).phis)=>Qbma ho hb hp
 obtain⟨N,hN⟩:∃N,(spD q).blocks.length=N:=⟨_,rfl⟩
 simp only[hN]at hND hNo kn hQ hS0 hstl
 have hN1:N≤100000:=by omega
 obtain⟨X2,hX2⟩:∃o,o=Obj.st [.int .i64 0,.int .i64 0,.sl true 5 []]:=⟨_,rfl⟩
 obtain⟨X3,hX3⟩:∃o,o=Obj.st [.int .i64 q.params,.int .i64 q.regs,.vsl zb 5 0 N]:=⟨_,rfl⟩
 have hspO:spO x2 x3 q (.vsl zb 5 0 N)=[(x2,X2),(x3,X3)]:=by rw[hX2,hX3];rfl
 rw[hspO]at kn hQ
 refine Qf (Qx (fun m e1 H1=>∃(b:Nat) (ks:List KBlk),m=q.blocks.length-b∧b≤q.blocks.length∧StS (spX (gnx q) q.blocks.length) N (spG q) (spY q) b ks∧
  Kn H0 H1 [] ([(x2,X2),(x3,X3)]++([(zb,.vec 5 (ks.map KBlk.row))]++ks.flatMap KBlk.pl))∧
  lk 1 e1=.c (.pp [.int .i64 q.params,.int .i64 q.regs,.sl fl 5 (Qn q.blocks)])∧lk 2 e1=.c (.ptr x2 0)∧lk 3 e1=.c (.ptr x3 0)∧lk 7 e1=.c (.int .i64 b)) q.blocks.length ?_ ?_)
 ·exact⟨0,ks0,by omega,by omega,hS0,kn,l1,l2,l3,l7⟩
 ·clear kn hS0 l1 l2 l3 l7
  rintro m e1 H1 ⟨b,ks,hm,hb,hS,kn,l1,l2,l3,l7⟩
  have hkl:=hS.n
  refine Q5 ?_
  refine Qa ?_
  simp only[go_sem,l1,l2,l3,l7,Ql]
  try intro _
  refine Qi (Qe rfl ?_ ?_)
  ·intro hc
   have hlt:b<q.blocks.length:=by simpa using hc
   have hbN:b<N:=by omega
   have hkb:b<ks.length:=by omega
   obtain⟨kb,hkbe⟩:∃kb,ks[b]=kb:=⟨_,rfl⟩
   have hkbo:Gr kb.pl 2 (Q0 kb.y.phis) kb.pc:=by rw[←hkbe];exact hS.ok _ (List.getElem_mem hkb)
   have hkby:kb.y=spY q b:=by have:=hS.y b hkb;rw[if_neg (Nat.lt_irrefl b),hkbe]at this;exact this
   have hYph:(spY q b).phis=(Qbs q b).phis:=by rw[Q9w,if_pos hlt]
   have hkbU:kb.y.phis=(Qbs q b).phis:=by rw[hkby,hYph]
   have hyo:=ho.bs b hlt
   have hil:=ho.il b hlt
   have hbe:=Qcm hlt
   rw[←hbe]at hyo hil
   have hstlb:=hstl b hlt
   obtain⟨R,hR⟩:∃R,(ks.eraseIdx b).flatMap KBlk.pl=R:=⟨_,rfl⟩
   have hflat:(ks.flatMap KBlk.pl).Perm (kb.pl++R):=by rw[←hR,←hkbe];exact Qbg hkb
   obtain⟨RW,hRW⟩:∃RW,ks.map KBlk.row=RW:=⟨_,rfl⟩
   have hRWl:RW.length=N:=by rw[←hRW,List.length_map,hkl]
   have hRWg:RW.getD b []=[kb.pc,.sl false 4 (Qa1 kb.y.ins),.int .i64 kb.y.jump,.int .i64 kb.y.on,.sl false 1 (Qg kb.y.next)]:=by
    rw[←hRW,List.getD_eq_getElem?_getD]
    simp only[List.getElem?_map,List.getElem?_eq_getElem hkb,hkbe,Option.map_some,Option.getD_some]
    exact kb.row_eq
   have hRWt:RW.take N=RW:=List.take_of_length_le (by omega)
   have hRWx:∀j,j<RW.length→∃a1 a2 a3 a4 fl,RW.getD j []=[a1,a2,a3,a4,.sl fl 1 (Qg (spX (gnx q) q.blocks.length j))]:=fun j hj=>by
    have hj':j<ks.length:=by omega
    have hy:=hS.y j hj'
    have hyn:ks[j].y.next=spX (gnx q) q.blocks.length j:=by
     rw[←Qa43 ho j,hy]
     split <;> rfl
    refine⟨ks[j].pc,.sl false 4 (Qa1 ks[j].y.ins),.int .i64 ks[j].y.jump,.int .i64 ks[j].y.on,false,?_⟩
    rw[←hRW,List.getD_eq_getElem?_getD]
    simp only[List.getElem?_map,List.getElem?_eq_getElem hj',Option.map_some,Option.getD_some]
    rw[←hyn]
    exact KBlk.row_eq _
   rw[hRW]at kn
   refine Qh ?_
   try simp only[go_sem]
   refine Qi (Qf ?_)
   refine Qa ?_
   simp only[go_sem,l1,l2,l3,l7]
   refine Qk3 (nx:=gnx q) (.mk' _ _ _ _) rfl (Qi2 H1 q fl).x fun H2 hu=>?_
   have kn:=kn.call0 hu
   simp only[go_sem,Qxo,Ql]
   obtain⟨olds,hol⟩:∃o,Q1 (gnx q) (b:Int) q.blocks.length=o:=⟨_,rfl⟩
   rw[hol]
   have hx3:=kn.l 1 rfl
   rw[hX3]at hx3
   have hzb:H2 zb=.vec 5 RW:=(kn.get (zb,.vec 5 RW) (by simp)).1
   refine Qa ?_
   simp only[go_sem,hx3]
   refine Qk3 (nx:=spX (gnx q) q.blocks.length) (vslc hzb hRWl.symm) rfl hRWx fun H3 hu=>?_
   have kn:=kn.call0 hu
   rw[hRWl]
   obtain⟨news,hnw⟩:∃o,Q1 (spX (gnx q) q.blocks.length) (b:Int) N=o:=⟨_,rfl⟩
   rw[hnw]
   have hnl2:news.length≤N:=by rw[←hnw];exact Qbk _ _ _
   simp only[go_sem,Qxp]
   refine Qa ?_
   simp only[go_sem]
   have kn:Kn H0 H3 [] (([(x2,X2),(x3,X3),(zb,.vec 5 RW)]++R)++kb.pl):=kn.perm (Qm fun f hf h0 hc hp=>by
    have:=hp _ _ hflat
    have e3:∀(a b c:Nat×Obj),f [a,b,c]=f [a,b]+f [c]:=fun a b c=>by rw[hc a [b,c],hc a [b],hc b [c]];omega
    simp only[hf,e3]at this⊢;omega)
   refine Qf (Qx (fun m e1 H1=>∃(k:Nat) (ph:List PhiD) (pl:List (Nat×Obj)),m=ph.length-k∧k≤ph.length∧ph=mix (stlP (spX (gnx q) q.blocks.length) N (spG q) b) (Qbs q b).phis k∧Gr pl 2 (Q0 ph) kb.pc∧
    Kn H0 H1 [] (([(x2,X2),(x3,X3),(zb,.vec 5 RW)]++R)++pl)∧
    lk 1 e1=.c (.pp [.int .i64 q.params,.int .i64 q.regs,.sl fl 5 (Qn q.blocks)])∧lk 2 e1=.c (.ptr x2 0)∧lk 3 e1=.c (.ptr x3 0)∧lk 7 e1=.c (.int .i64 b)∧lk 8 e1=.c (.sl false 1 (Qg olds))∧lk 9 e1=.c (.sl false 1 (Qg news))∧lk 10 e1=.c (.int .i64 k)) kb.y.phis.length ?_ ?_)
   ·exact⟨0,kb.y.phis,kb.pl,by omega,by omega,by rw[hkbU,Q9q],hkbo,kn,rfl,rfl,rfl,rfl,rfl,rfl,rfl⟩
   ·clear kn hx3 hzb hflat hu l1 l2 l3 l7
    rintro m2 e2 H4 ⟨k,ph,pl,hm2,hk,hphe,hgr,kn,l1,l2,l3,l7,l8,l9,l10⟩
    have hphl:ph.length=(Qbs q b).phis.length:=by rw[hphe,Qaa2]
    have hx3:=kn.l 1 rfl
    rw[hX3]at hx3
    have hzb:=kn.l 2 rfl
    have hpw:=hgr.isOw
    have hpok:=eq_true (hgr.get kn).1
    have hplen:=hgr.lenC
    rw[Qy]at hplen
    refine Q5 ?_
    refine Qa ?_
    simp only[go_sem,l1,l2,l3,l7,l8,l9,l10,hx3,hzb,hRWl,hRWt,hRWg,hbN,hpw,hpok,hplen,Nat.zero_add,Nat.le_refl]
    try intro _
    refine Qi (Qe rfl ?_ ?_)
    ·intro hc2
     have hlt2:k<ph.length:=by simpa using hc2
     obtain⟨z,hpc,hpl⟩:∃z,kb.pc=.vsl z 2 0 ph.length∧pl=[(z,.vec 2 (Q0 ph))]:=by
      rcases hgr with ⟨_,h,_⟩|⟨y,h1,h2⟩
      ·have:=congrArg List.length h;rw[Qy]at this;simp only[List.length_nil]at this;omega
      ·exact⟨y,by rw[h1,Qy],h2⟩
     rw[hpc]at hRWg
     rw[hpl]at kn
     clear hpw hpok hplen
     obtain⟨p,hpk⟩:∃p,ph[k]=p:=⟨_,rfl⟩
     have hk0:k<(Qbs q b).phis.length:=by omega
     have hp0:(Qbs q b).phis[k]=p:=by
      rw[←hpk]
      subst hphe
      exact (Qa4n hk0 hlt2).symm
     have hpm:p∈(Qbs q b).phis:=by rw[←hp0];exact List.getElem_mem hk0
     have hstp:=hstlb p hpm
     obtain⟨NA,hNA⟩:∃NA,spA q b p.args=NA:=⟨_,rfl⟩
     have hNAe:NA=news.map fun w=>p.args.getD (olds.idxOf ((org (gnx q) q.blocks.length w.toNat:Nat):Int)) 0:=by rw[←hNA,spA,←hNo,hnw,hol]
     have hNl:NA.length=news.length:=by rw[hNAe,List.length_map]
     have hpal:p.args.length=olds.length:=by rw[←hol];exact hyo.pal p hpm
     have hptk:(Q0 ph).take ph.length=Q0 ph:=List.take_of_length_le (by rw[Qy];omega)
     have hpg:(Q0 ph).getD k []=[.int .i64 p.to,.sl false 1 (Qg p.args)]:=by rw[Qax _ _ hlt2,hpk];rfl
     have hbph:q.blocks[b].phis=(Qbs q b).phis:=by rw[hbe]
     have hcg:(Q0 q.blocks[b].phis).getD k []=[.int .i64 p.to,.sl false 1 (Qg p.args)]:=by rw[hbph,Qax _ _ hk0,hp0];rfl
     have hck:k<q.blocks[b].phis.length:=by rw[hbph];exact hk0
     refine Qh ?_
     try simp only[go_sem]
     refine Qi (Qf ?_)
     refine Qa ?_
     simp only[go_sem]
     refine Q5 ?_
     refine Qa ?_
     simp only[go_sem]
     refine Qi (Qf (Qx (fun m e1 H1=>∃(j:Nat) (av:List Int) (t:C) (Lg:List (Nat×Obj)),m=news.length-j∧j≤news.length∧av=NA.take j∧Gr Lg 1 (Qg av) t∧
      Kn H0 H1 [] (([(x2,X2),(x3,X3),(zb,.vec 5 RW)]++R++[(z,.vec 2 (Q0 ph))])++Lg)∧
      lk 1 e1=.c (.pp [.int .i64 q.params,.int .i64 q.regs,.sl fl 5 (Qn q.blocks)])∧lk 2 e1=.c (.ptr x2 0)∧lk 3 e1=.c (.ptr x3 0)∧lk 7 e1=.c (.int .i64 b)∧lk 8 e1=.c (.sl false 1 (Qg olds))∧lk 9 e1=.c (.sl false 1 (Qg news))∧lk 10 e1=.c (.int .i64 k)∧
      lk 11 e1=.c t∧lk 12 e1=.c (.int .i64 j)) news.length ?_ ?_))
     ·exact⟨0,[],_,[],by omega,by omega,by simp,.nil 1,by simpa using kn,rfl,rfl,rfl,rfl,rfl,rfl,rfl,rfl,rfl⟩
     ·clear kn hx3 hzb l1 l2 l3 l7 l8 l9 l10
      rintro m3 e3 H5 ⟨j,av,t,Lg,hm3,hj,hav,hgt,kn,l1,l2,l3,l7,l8,l9,l10,l11,l12⟩
      have htw:=hgt.isOw
      have hasl:av.length=j:=by rw[hav,List.length_take];omega
      refine Q5 ?_
      refine Qa ?_
      simp only[go_sem,l1,l2,l3,l7,l8,l9,l10,l11,l12,htw,Qc]
      try intro _
      refine Qi (Qe rfl ?_ ?_)
      ·intro hc3
       have hlt3:j<news.length:=by simpa using hc3
       have hnm:news[j]∈Q1 (spX (gnx q) q.blocks.length) (b:Int) N:=by rw[hnw];exact List.getElem_mem hlt3
       obtain⟨w,hwN,hwm,hwe⟩:=preds_mem.1 hnm
       obtain⟨hon,hom⟩:=Qbbh F hlt hwm
       have hgd3:news.getD j 0=(w:Int):=by rw[←hwe];simp[List.getD_eq_getElem?_getD,hlt3]
       obtain⟨og,hog⟩:∃o,org (gnx q) q.blocks.length w=o:=⟨_,rfl⟩
       have hmo:(og:Int)∈olds:=by rw[←hol,←hog];exact preds_mem.2 ⟨_,hon,hom,rfl⟩
       rw[hog]at hon hom
       have hNj:j<NA.length:=by omega
       have hNv:NA[j]=p.args.getD (olds.idxOf (og:Int)) 0:=by
        subst hNAe
        rw[List.getElem_map,hwe,Int.toNat_natCast,hog]
       refine Qh ?_
       try simp only[go_sem]
       refine Qi (Qf ?_)
       refine Qa ?_
       simp only[go_sem,l9,l12,hlt3,Qc,Qs _ _ hlt3,hgd3,htw]
       refine Q5 ?_
       refine Qa ?_
       simp only[go_sem,Ql,htw]
       try intro _
       refine Qvd (fun e1 H1=>Kn H0 H1 [] (([(x2,X2),(x3,X3),(zb,.vec 5 RW)]++R++[(z,.vec 2 (Q0 ph))])++Lg)∧
        lk 1 e1=.c (.pp [.int .i64 q.params,.int .i64 q.regs,.sl fl 5 (Qn q.blocks)])∧lk 2 e1=.c (.ptr x2 0)∧lk 3 e1=.c (.ptr x3 0)∧lk 7 e1=.c (.int .i64 b)∧lk 8 e1=.c (.sl false 1 (Qg olds))∧lk 9 e1=.c (.sl false 1 (Qg news))∧lk 10 e1=.c (.int .i64 k)∧
        lk 11 e1=.c t∧lk 12 e1=.c (.int .i64 j)∧lk 13 e1=.c (.int .i64 og)) ?_ ?_
       ·intro Q2 hnr _ _
        refine Qe rfl ?_ ?_
        ·intro hc4
         have hge:q.blocks.length≤w:=by simpa using hc4
         have hwl:w-q.blocks.length<(Qbm (gnx q) q.blocks.length q.blocks.length).length:=by
          have:(nwL q).length=(Qbm (gnx q) q.blocks.length q.blocks.length).length:=rfl
          omega
         obtain⟨ev,hev⟩:∃ev,(Qbm (gnx q) q.blocks.length q.blocks.length)[w-q.blocks.length]? = some ev:=⟨_,List.getElem?_eq_getElem hwl⟩
         have hpn:=Qat2 F hev
         have hww:q.blocks.length+(w-q.blocks.length)=w:=by omega
         have hoe:og=ev.1:=by rw[←hog,org,if_neg (by omega),hev]
         rw[hww,←hNo,←hoe]at hpn
         have hx3:=kn.l 1 rfl
         rw[hX3]at hx3
         have hzb:=kn.l 2 rfl
         refine Qv ?_
         simp only[go_sem,hx3,htw]
         refine Qk3 (nx:=spX (gnx q) q.blocks.length) (vslc hzb hRWl.symm) rfl hRWx fun H6 hu=>?_
         have kn:=kn.call0 hu
         rw[hRWl,hpn]
         have hi1:Qg [(og:Int)]=[[.int .i64 og]]:=rfl
         rw[hi1]
         simp only[go_sem,Qxq,List.getD_cons_zero,htw]
         exact⟨Int.le_refl 0,hnr _ _ ⟨kn,rfl,rfl,rfl,rfl,rfl,rfl,rfl,rfl,rfl,rfl⟩⟩
        ·intro hc4
         have hlt4:w<q.blocks.length:=by simpa using hc4
         have hoe:og=w:=by rw[←hog];exact Qbjp hlt4
         refine Qh ?_
         try simp only[go_sem]
         rw[←hoe]
         exact hnr _ _ ⟨kn,rfl,rfl,rfl,rfl,rfl,rfl,rfl,rfl,rfl,rfl⟩
       ·rintro e4 H6 ⟨kn,l1,l2,l3,l7,l8,l9,l10,l11,l12,l13⟩
        refine Qb5 ?_
        simp only[go_sem,l1,l2,l3,l7,l8,l9,l10,l11,l12,l13,hlt,hck,Ql,Qak _ _ hlt,BlkD.cells,Qy,hcg,htw]
        refine Qbi3 (ns:=olds) (.mk' _ _ _ _) rfl fun r hr=>?_
        obtain⟨a,ha⟩:∃a,olds.idxOf (og:Int)=a:=⟨_,rfl⟩
        have ra:r=(a:Int):=by rw[←ha];exact hr.idx hmo
        have hal:a<olds.length:=by rw[←ha];exact List.idxOf_lt_length_of_mem hmo
        rw[ha]at hNv
        have hal2:a<p.args.length:=by omega
        simp only[go_sem,l1,l2,l3,l7,l8,l9,l10,l11,l12,l13,Qxs,ra,hlt,hck,Ql,Qak _ _ hlt,BlkD.cells,Qy,hcg,hal2,Qc,Qs _ _ hal2,htw]
        refine kn.growR (new:=Qg [p.args.getD a 0]) hgt (.mk' _ _ _ _) (Qt _) (by simp only[Qc,LIM,List.length_cons,List.length_nil];omega) fun t2 Lg2 H7 hgt2 ht2 kn=>?_
        simp only[go_sem,l1,l2,l3,l7,l8,l9,l10,l11,l12,l13,Qxr,ht2]
        refine Qv ?_
        simp only[go_sem,ht2]
        refine⟨Qr (by omega) (by omega),?_⟩
        show ∃m,_
        refine⟨news.length-(j+1),by omega,j+1,av++[p.args.getD a 0],t2,Lg2,rfl,by omega,by rw[hav,List.take_succ_eq_append_getElem hNj,hNv],by rw[Qby];exact hgt2,kn,rfl,rfl,rfl,rfl,rfl,rfl,rfl,rfl,by simp[lk]⟩
      ·intro hc3
       have hje:j=news.length:=by have:news.length≤j:=(by simpa using hc3);omega
       have hav:av=NA:=by rw[hav,List.take_of_length_le (by omega)]
       subst hav
       have hset0:=Qapq (f:=stlP (spX (gnx q) q.blocks.length) N (spG q) b) hk0
       rw[hp0,hstp,spP,hNA]at hset0
       refine Qw ?_
       simp only[go_sem,X.next]
       obtain⟨S,hSL,hSB,hfz,kn⟩:=kn.freeze0
       have hft:FrzC H5 S t (.sl false 1 (Qg av)):=Gr.frzM hgt hSL (FrzR.same (Qt _))
       refine c_gh (Qez S (Qao0 ?_) hfz) (e':=[(1,.c (.pp [.int .i64 q.params,.int .i64 q.regs,.sl fl 5 (Qn q.blocks)])),(2,.c (.ptr x2 0)),(3,.c (.ptr x3 0)),(7,.c (.int .i64 b)),(8,.c (.sl false 1 (Qg olds))),(9,.c (.sl false 1 (Qg news))),(10,.c (.int .i64 k)),(11,.c (.sl false 1 (Qg av)))]) ?_
       ·simp only[List.forall_mem_cons,l1,l2,l3,l7,l8,l9,l10,l11]
        exact⟨.c _ _ (.same _ rfl),.c _ _ (.same _ rfl),.c _ _ (.same _ rfl),.c _ _ (.same _ rfl),.c _ _ (.same _ rfl),.c _ _ (.same _ rfl),.c _ _ (.same _ rfl),.c _ _ hft,by simp⟩
       generalize H5.frz S=H6 at *
       have hx3:=kn.l 1 rfl
       rw[hX3]at hx3
       have hzb:=kn.l 2 rfl
       have hz:H6 z=.vec 2 (Q0 ph):=(kn.get (z,.vec 2 (Q0 ph)) (by simp)).1
       have hset:(Q0 ph).set k [.int .i64 p.to,.sl false 1 (Qg av)]=Q0 (ph.set k ⟨p.to,av⟩):=Qa6m ph k ⟨p.to,av⟩
       refine Qv ?_
       simp only[go_sem,hx3,hzb,hz,hRWl,hRWt,hRWg,hbN,hlt2,hptk,hpg,hset,Qy,Nat.zero_add,Nat.le_refl]
       intro H7 h7
       have kn:Kn H0 H7 [] (([(x2,X2),(x3,X3),(zb,.vec 5 RW)]++R)++[(z,.vec 2 (Q0 (ph.set k ⟨p.to,av⟩)))]):=by
        have:=kn.stL ([(x2,X2),(x3,X3),(zb,Obj.vec 5 RW)]++R).length (x:=z) (o:=.vec 2 (Q0 ph)) (by simp) h7
        simpa using this
       refine Qv ?_
       simp only[go_sem]
       refine⟨Qr (by omega) (by omega),?_⟩
       show ∃m,_
       refine⟨ph.length-(k+1),by omega,k+1,ph.set k ⟨p.to,av⟩,_,by rw[List.length_set],by rw[List.length_set];omega,by rw[hphe];exact hset0,?_,kn,rfl,rfl,rfl,rfl,rfl,rfl,by simp[lk]⟩
       rw[hpc];exact .mk _ _ _ (by rw[Qy,List.length_set])
    ·intro hc2
     have hge:ph.length≤k:=by simpa using hc2
     refine Qw ?_
     simp only[go_sem,X.next]
     refine Qv ?_
     simp only[go_sem,l1,l2,l3,l7]
     refine⟨Qr (by omega) (by omega),?_⟩
     show ∃m,_
     have hpe:ph=(spY q b).phis.map (stlP (spX (gnx q) q.blocks.length) N (spG q) b):=by rw[hphe,Qaa1 _ _ (by omega),hYph]
     have hst:=hS.step hkb (ph:=ph) (pl:=pl) hpe (by rw[hkbe];exact hgr)
     have hrw:=PkS.rows (ks:=ks) (ph:=ph) (pl:=pl) hkb
     have hs2:=Qbg (f:=KBlk.pl) (l:=ks.set b ⟨⟨ph,ks[b].y.ins,ks[b].y.jump,ks[b].y.on,ks[b].y.next⟩,ks[b].pc,pl⟩) (i:=b) (by rw[List.length_set];exact hkb)
     rw[List.getElem_set_self,List.eraseIdx_set_eq,hR]at hs2
     generalize ks.set b ⟨⟨ph,ks[b].y.ins,ks[b].y.jump,ks[b].y.on,ks[b].y.next⟩,ks[b].pc,pl⟩=ks' at *
     have kn:Kn H0 H4 [] ([(x2,X2),(x3,X3)]++([(zb,.vec 5 (ks'.map KBlk.row))]++ks'.flatMap KBlk.pl)):=by
      rw[hrw,hRW]
      refine kn.perm (Qm fun f hf h0 hc hp=>?_)
      have:=hp _ _ hs2
      have e3:∀(a b c:Nat×Obj),f [a,b,c]=f [a,b]+f [c]:=fun a b c=>by rw[hc a [b,c],hc a [b],hc b [c]];omega
      simp only[hf,e3]at this⊢;omega
     exact⟨q.blocks.length-(b+1),by omega,b+1,ks',rfl,by omega,hst,kn,rfl,rfl,rfl,by simp[lk]⟩
  ·intro hc
   have hie:b=q.blocks.length:=by have:q.blocks.length≤b:=(by simpa using hc);omega
   subst hie
   refine Qw ?_
   simp only[go_sem,X.next]
   exact hQ _ _ ks hS kn rfl rfl
end Go.AE.Y

namespace Go.AE.Y
attribute [local go_sem] cond_true cond_false Bool.not_true Bool.not_false
open Go.Proofs.Tryz
variable {H H0:Heap}{K:V→Heap→Prop}{q:CodeD}
theorem Qbdp {nx:Nat→List Int}{N:Nat}{g:Nat→PhiD→Int→Int}{j:Nat}{y:BlkD}(h:y.phis=[]):stlY nx N g j y=y:=by
 rw[stlY,h];cases y;simp only at h;subst h;rfl
theorem Qbj2 {ks:List KBlk}(ho:q.ok)(h:StS (spX (gnx q) q.blocks.length) (spD q).blocks.length (spG q) (spY q) q.blocks.length ks):ks.map KBlk.y=(spD q).blocks:=by
 refine List.ext_getElem (by rw[List.length_map,h.n]) fun j h1 h2=>?_
 have hj:j<ks.length:=by simpa using h1
 rw[List.getElem_map,h.y j hj,←Qbdg ho h2]
 split
 ·rfl
 ·rename_i hn
  rw[Qbdp]
  rw[Q9w,if_neg hn]
set_option maxHeartbeats 4000000 in
theorem Qa54 (ho:q.ok)(hK:∀H',Upd H H' []→K (.ag (spD q).cells) H') :
  Qp prog Qyi [.ag [.int .i64 q.params,.int .i64 q.regs,.sl false 5 (Qn q.blocks)]] H K:=by
 refine Qu ?_
 refine Qb Qai Qa6b ?_
 refine Qa ?_
 simp only[go_sem]
 intro x2 hx2 H1 h1
 have kn:=(Kn.start0 H).al hx2 h1
 refine Qa ?_
 simp only[go_sem]
 refine Qa4h ho.sg fun o H2 k2 hok hod _=>?_
 have kn:=kn.comp0 k2
 have hbw:=hok.b.isOw
 have hop:o.params=q.params:=congrArg CodeD.params hod
 have hor:o.regs=q.regs:=congrArg CodeD.regs hod
 have hob:o.blocks.map OBlk.d=q.blocks:=congrArg CodeD.blocks hod
 have hol:o.blocks.length=q.blocks.length:=by rw[←hob,List.length_map]
 simp only[go_sem,Q1a,OCode.row,hop,hor,hbw]
 intro x3 hx3 H3 h3
 have kn:Kn H H3 [] ([(x3,.st [.int .i64 0,.int .i64 0,.sl true 5 []])]++([(x2,.st [.int .i64 0,.int .i64 0,.sl true 5 []])]++o.lg)):=(kn.al hx3 h3).perm List.perm_append_comm
 have hx3:=kn.l 0 rfl
 simp only[go_sem,Q09,hx3,hbw]
 intro H4 h4
 have kn:Kn H H4 [] ([(x3,.st [.int .i64 q.params,.int .i64 q.regs,o.bc])]++([(x2,.st [.int .i64 0,.int .i64 0,.sl true 5 []])]++o.lg)):=kn.stL 0 rfl h4
 have kn:Kn H H4 [] ((spO x2 x3 q o.bc++o.blocks.flatMap OBlk.lg)++o.bl):=kn.perm (Qm fun f hf h0 hc hp=>by
  have e2:∀(a b:Nat×Obj),f [a,b]=f [a]+f [b]:=fun a b=>hc a [b]
  simp only[hf,spO,OCode.lg,e2];omega)
 have hI:RsI q 0 o.blocks:=⟨hol,fun j hj=>by
  have hjq:j<q.blocks.length:=by omega
  have e:(o.blocks.map OBlk.d)[j]'(by simpa using hj)=q.blocks[j]:=by simp only[hob]
  rw[List.getElem_map]at e
  rw[e,blkN,Qa44,Qcm hjq,Qk2 hjq],hok.bs⟩
 have hgb:Gr o.bl 5 (rwO q 0 o.blocks) o.bc:=by rw[rwO];simpa using hok.b
 refine Q5 ?_
 refine Qa ?_
 simp only[go_sem]
 refine Qi ?_
 refine Qa6t ho hI hgb kn rfl rfl rfl rfl fun e5 H5 os bc bl hI hgb kn l1 l2 l3=>?_
 obtain⟨S,H6,ks,zb,hfz,hkl,hky,hko,kn⟩:=Qa6u ho hI hgb kn
 simp only[go_sem]
 refine Q5 ?_
 refine Q5 ?_
 refine c_gh (Qez S (Qao0 ?_) hfz) (e':=[(1,.c (.pp [.int .i64 q.params,.int .i64 q.regs,.sl false 5 (Qn q.blocks)])),(2,.c (.ptr x2 0)),(3,.c (.ptr x3 0))]) ?_
 ·simp only[List.forall_mem_cons,l1,l2,l3]
  exact⟨.c _ _ (.same _ rfl),.c _ _ (.same _ rfl),.c _ _ (.same _ rfl),by simp⟩
 clear hfz hgb hI
 refine Qa ?_
 simp only[go_sem]
 refine Qi ?_
 refine Qazd ho ⟨hkl,fun j h=>by rw[if_neg (Nat.not_lt_zero j)];exact hky j h,hko⟩ kn rfl rfl rfl rfl fun e7 H7 ks2 hS kn l2 l3=>?_
 have hyb:=Qbj2 ho hS
 have hkl2:=hS.n
 have hko2:=hS.ok
 simp only[go_sem]
 have kn:Kn H H7 [] ([(x2,.st [.int .i64 0,.int .i64 0,.sl true 5 []]),(x3,.st [.int .i64 q.params,.int .i64 q.regs,.vsl zb 5 0 (spD q).blocks.length])]++([(zb,.vec 5 (ks2.map KBlk.row))]++ks2.flatMap KBlk.pl)):=kn
 have hx3:=kn.l 1 rfl
 have hx2:=kn.l 0 rfl
 refine Qa ?_
 simp only[go_sem,l2,l3,hx2,hx3]
 intro H8 h8
 have kn:Kn H H8 [] ([(x2,.st [.int .i64 q.params,.int .i64 q.regs,.vsl zb 5 0 (spD q).blocks.length]),(x3,.st [.int .i64 q.params,.int .i64 q.regs,.vsl zb 5 0 (spD q).blocks.length])]++([(zb,.vec 5 (ks2.map KBlk.row))]++ks2.flatMap KBlk.pl)):=kn.stL 0 rfl h8
 have hx2:=kn.l 0 rfl
 have hz:=kn.l 2 rfl
 refine Qk ?_
 simp only[go_sem,Q4,Q7,Qan6,List.mem_singleton,forall_eq,RS.op,hx2]
 have hmem:∀k∈ks2,∀p∈k.pl,H8 p.1=p.2∧un H p.1=true:=fun k hk p hp=>
  ⟨(kn.get p (List.mem_append_right _ (List.mem_append_right _ (List.mem_append_right _ (List.mem_flatMap.2 ⟨k,hk,hp⟩))))).1,Qir (kn.loc p (List.mem_append_right _ (List.mem_append_right _ (List.mem_flatMap.2 ⟨k,hk,hp⟩))))⟩
 have hrows:FrzR H8 (un H) (ks2.map KBlk.row) (Qn (spD q).blocks):=by
  rw[←hyb,Qn,List.map_map]
  refine Qgx ks2 fun k hk=>?_
  exact .cons (Gr.frzM (hko2 k hk) (hmem k hk) (FrzR.same (Qmx _))) (.cons (Qd rfl) (.cons (Qd rfl) (.cons (Qd rfl) (.cons (Qd rfl) .nil))))
 have hfr:=FrzR.vsl (kn.un 2 rfl) hz (by rw[List.length_map,hkl2]) hrows
 exact⟨_,FrzL.ag (.cons (Qd rfl) (.cons (Qd rfl) (.cons hfr .nil))),hK _ kn.fin⟩
theorem Qa55 (hq:q.ok)(hK:∀H',Upd H H' []→K (.ag (spD q).cells) H') :
  Qp prog Qu0 [.ag [.int .i64 q.params,.int .i64 q.regs,.sl false 5 (Qn q.blocks)],.c (.str [115,112,108,105,116])] H K:=by
 refine Qu ?_
 refine Qb Qai Qbau ?_
 refine Qa ?_
 simp only[go_sem]
 intro x4 hx4 H1 h1
 have kn:=(Kn.start0 H).al hx4 h1
 refine Q5 ?_
 refine Qa ?_
 simp only[go_sem]
 refine Qi (Qf ?_)
 refine Qa ?_
 simp only[go_sem]
 refine Qe rfl (fun hc=>absurd hc (by decide)) (fun _=>?_)
 refine Qa ?_
 simp only[go_sem]
 refine Qe rfl (fun hc=>absurd hc (by decide)) (fun _=>?_)
 refine Qa ?_
 simp only[go_sem]
 refine Qe rfl (fun _=>?_) (fun hc=>absurd hc (by decide))
 refine Qa ?_
 simp only[go_sem]
 refine Qa54 hq fun H2 hu=>?_
 have kn:=kn.call0 hu
 have hx4:=kn.l 0 rfl
 simp only[go_sem,Q5o,CodeD.cells,hx4]
 intro H3 h3
 have kn:=kn.stL 0 rfl h3
 have hx4:=kn.l 0 rfl
 refine Qk ?_
 simp only[go_sem,X.next,Q4,Q7,Qat5,List.mem_singleton,forall_eq,RS.op,hx4]
 exact⟨_,FrzL.ag (.cons (.same _ rfl) (.cons (.same _ rfl) (.cons (.same _ rfl) .nil))),hK _ kn.fin⟩
end Go.AE.Y

namespace Go.AE.Y
attribute [local go_sem] cond_true cond_false Bool.not_true Bool.not_false
open Go.Proofs.Tryz
variable {H H0:Heap}{K:V→Heap→Prop}{E L:List (Nat×Obj)}{q:CodeD}
theorem Qbbb {nx:Nat→List Int}{n b i:Nat}(hb:b<n)(hi:i<(shL nx n b).length):(Qbm nx n n)[(Qbm nx n b).length+i]? = some (b,(shL nx n b)[i]):=Qapr hi hb
theorem Qbg5 (ho:q.ok){ks:List NBlk}{ss:List PSl}(hky:ks.map NBlk.y=q.blocks)(hko:∀k∈ks,k.ok)(hsl:ss.length=q.blocks.length)(hs:PInv (phT q q.blocks.length) ss):SpI q 0 ks ss:=by
 have hl:ks.length=q.blocks.length:=by rw[←hky,List.length_map]
 refine⟨hl,fun j h=>?_,hko,hsl,⟨fun r hr=>?_,hs.ok⟩⟩
 ·have hj:j<q.blocks.length:=by omega
  have e:ks[j].y=q.blocks[j]:=by simp only[←hky,List.getElem_map]
  rw[e,blkN,Qa44,Qk2 hj,Qcm hj]
 ·rw[hs.f r hr,phT,mpF];rfl
set_option maxHeartbeats 8000000 in
theorem Qa3z {fl:Bool}(ho:q.ok)(hK:∀H',Upd H H' []→K (.ag (spD q).cells) H') :
  Qp prog Qhm [.ag [.int .i64 q.params,.int .i64 q.regs,.sl fl 5 (Qn q.blocks)]] H K:=by
 have F:=ho.spF
 have hb1:=ho.b1
 have hnl:(nwL q).length≤2 * q.blocks.length:=Q20 F (Nat.le_refl _)
 refine Qu ?_
 refine Qb Qai Qaid ?_
 refine Qa ?_
 simp only[go_sem]
 intro x2 hx2 H1 h1
 have kn:=(Kn.start0 H).al hx2 h1
 refine Qa ?_
 simp only[go_sem]
 refine Qast (by omega) ho.cl fun ks bc bl H2 hky hko hgb k2=>?_
 have kn:=kn.comp0 k2
 have hbw:=hgb.isOw
 simp only[go_sem,Ql1,hbw]
 intro x3 hx3 H3 h3
 have kn:Kn H H3 [] ([(x3,.st [.int .i64 0,.int .i64 0,.sl true 5 []])]++([(x2,.st [.int .i64 0,.int .i64 0,.sl true 5 []])]++(ks.flatMap NBlk.lg++bl))):=(kn.al hx3 h3).perm List.perm_append_comm
 have hx3:=kn.l 0 rfl
 simp only[go_sem,Ql0,hx3,hbw]
 intro H4 h4
 have kn:Kn H H4 [] ([(x3,.st [.int .i64 q.params,.int .i64 q.regs,bc])]++([(x2,.st [.int .i64 0,.int .i64 0,.sl true 5 []])]++(ks.flatMap NBlk.lg++bl))):=kn.stL 0 rfl h4
 refine Qa ?_
 simp only[go_sem]
 refine Qbf6 ho fun o ss H5 hsl hss k3=>?_
 have kn:=kn.comp0 k3
 have hI0:=Qbg5 ho hky hko hsl hss
 have hgb0:Gr bl 5 (rwN q 0 ks) bc:=by rw[rwN];simpa using hgb
 have hgg0:Gr [(o,.vec 1 (ss.map PSl.row))] 1 (ss.map PSl.row) (.vsl o 1 0 q.blocks.length):=.mk _ _ _ (by rw[List.length_map,hsl])
 have kn:Kn H H5 [] ((spO x2 x3 q bc++(ks.flatMap NBlk.lg++psL ss))++(bl++[(o,.vec 1 (ss.map PSl.row))])):=kn.perm (Qm fun f hf h0 hc hp=>by
  have e2:∀(a b:Nat×Obj),f [a,b]=f [a]+f [b]:=fun a b=>hc a [b]
  simp only[hf,spO,e2];omega)
 simp only[go_sem,Ql2]
 refine Q5 ?_
 refine Qa ?_
 simp only[go_sem,Ql]
 try intro _
 refine Qi (Qf (Qx (fun m e1 H1=>∃(b:Nat) (ks:List NBlk) (ss:List PSl) (bc gc:C) (bl gl:List (Nat×Obj)),m=q.blocks.length-b∧b≤q.blocks.length∧SpI q (Qbm (gnx q) q.blocks.length b).length ks ss∧Gr bl 5 (rwN q (Qbm (gnx q) q.blocks.length b).length ks) bc∧Gr gl 1 (ss.map PSl.row) gc∧
  Kn H H1 [] ((spO x2 x3 q bc++(ks.flatMap NBlk.lg++psL ss))++(bl++gl))∧
  lk 1 e1=.c (.pp [.int .i64 q.params,.int .i64 q.regs,.sl fl 5 (Qn q.blocks)])∧lk 2 e1=.c (.ptr x2 0)∧lk 3 e1=.c (.ptr x3 0)∧lk 4 e1=.c gc∧lk 19 e1=.c (.int .i64 q.blocks.length)∧lk 20 e1=.c (.int .i64 b)) q.blocks.length ?_ ?_))
 ·exact⟨0,ks,ss,bc,_,bl,_,by omega,by omega,hI0,hgb0,hgg0,kn,rfl,rfl,rfl,rfl,rfl,rfl⟩
 ·clear kn hI0 hgb0 hgg0 hx3 hgb hbw
  rintro m e1 H6 ⟨b,ks,ss,bc,gc,bl,gl,hm,hb,hI,hgb,hgg,kn,l1,l2,l3,l4,l19,l20⟩
  have hgw:=hgg.isOw
  refine Qa ?_
  simp only[go_sem,l1,l2,l3,l4,l19,l20,hgw]
  refine Qi (Qe rfl ?_ ?_)
  ·intro hc
   have hlt:b<q.blocks.length:=by simpa using hc
   obtain⟨Ls,hLs⟩:∃Ls,shL (gnx q) q.blocks.length b=Ls:=⟨_,rfl⟩
   have hLl:Ls.length≤2:=by rw[←hLs,shL];exact Nat.le_trans (List.length_filter_le _ _) (F.len b hlt)
   have hsucc:(Qbm (gnx q) q.blocks.length (b+1)).length=(Qbm (gnx q) q.blocks.length b).length+Ls.length:=by rw[Qq9,List.length_append,List.length_map,hLs]
   obtain⟨s,hs⟩:∃s,(Qbm (gnx q) q.blocks.length b).length=s:=⟨_,rfl⟩
   rw[hs]at hI hgb hsucc
   refine Qh ?_
   try simp only[go_sem]
   refine Qi (Qf ?_)
   refine Qa ?_
   simp only[go_sem,l1,l2,l3,l4,l19,l20,hgw]
   refine Qa ?_
   simp only[go_sem,hgw]
   refine Qahm ho hlt fun fls H7 hu=>?_
   have kn:=kn.call0 hu
   rw[hLs]
   simp only[go_sem,Ql3,Qc,hgw]
   try intro _
   refine Qf (Qx (fun m e1 H1=>∃(i:Nat) (ks:List NBlk) (ss:List PSl) (bc gc:C) (bl gl:List (Nat×Obj)),m=Ls.length-i∧i≤Ls.length∧SpI q (s+i) ks ss∧Gr bl 5 (rwN q (s+i) ks) bc∧Gr gl 1 (ss.map PSl.row) gc∧
    Kn H H1 [] ((spO x2 x3 q bc++(ks.flatMap NBlk.lg++psL ss))++(bl++gl))∧
    lk 1 e1=.c (.pp [.int .i64 q.params,.int .i64 q.regs,.sl fl 5 (Qn q.blocks)])∧lk 2 e1=.c (.ptr x2 0)∧lk 3 e1=.c (.ptr x3 0)∧lk 4 e1=.c gc∧lk 5 e1=.c (.int .i64 b)∧lk 19 e1=.c (.int .i64 q.blocks.length)∧lk 20 e1=.c (.int .i64 b)∧
    lk 25 e1=.c (.sl fls 1 (Qg Ls))∧lk 26 e1=.c (.int .i64 Ls.length)∧lk 27 e1=.c (.int .i64 i)) Ls.length ?_ ?_)
   ·exact⟨0,ks,ss,bc,gc,bl,gl,by omega,by omega,hI,hgb,hgg,kn,rfl,rfl,rfl,rfl,rfl,rfl,rfl,rfl,rfl,rfl⟩
   ·clear kn hI hgb hgg hgw l1 l2 l3 l4 l19 l20
    rintro m2 e2 H8 ⟨i,ks,ss,bc,gc,bl,gl,hm2,hi,hI,hgb,hgg,kn,l1,l2,l3,l4,l5,l19,l20,l25,l26,l27⟩
    have hgw:=hgg.isOw
    refine Qa ?_
    simp only[go_sem,l1,l2,l3,l4,l5,l19,l20,l25,l26,l27,hgw]
    refine Qi (Qe rfl ?_ ?_)
    ·intro hc2
     have hlt2:i<Ls.length:=by simpa using hc2
     obtain⟨v,hv⟩:∃v,Ls[i]=v:=⟨_,rfl⟩
     have hgd:Ls.getD i 0=v:=by simp[List.getD_eq_getElem?_getD,hlt2,hv]
     have he:(nwL q)[s+i]? = some (b,v):=by
      have:=Qbbb (nx:=gnx q) (i:=i) hlt (by rw[hLs];exact hlt2)
      rw[hs]at this
      subst hLs
      rw[hv]at this
      exact this
     refine Qh ?_
     try simp only[go_sem]
     refine Qi (Qf ?_)
     refine Qa ?_
     simp only[go_sem,l1,l2,l3,l4,l5,l19,l20,l25,l26,l27,hgw,hlt2,Qc,Qs _ _ hlt2,hgd]
     refine Qbdl ho he hI hgb hgg kn rfl rfl rfl rfl rfl rfl rfl rfl rfl rfl rfl fun e3 H9 ks ss bc gc bl gl hI hgb hgg kn l1 l2 l3 l4 l5 l19 l20 l25 l26 l27=>?_
     have hgw:=hgg.isOw
     refine Qv ?_
     simp only[go_sem,l1,l2,l3,l4,l5,l19,l20,l25,l26,l27,hgw]
     refine⟨Qr (by omega) (by omega),?_⟩
     show ∃m,_
     exact⟨Ls.length-(i+1),by omega,i+1,ks,ss,bc,gc,bl,gl,rfl,by omega,hI,hgb,hgg,kn,rfl,rfl,rfl,rfl,rfl,rfl,rfl,rfl,rfl,rfl⟩
    ·intro hc2
     have hie:i=Ls.length:=by have:Ls.length≤i:=(by simpa using hc2);omega
     subst hie
     rw[←hsucc]at hI hgb
     refine Qw ?_
     simp only[go_sem,X.next]
     refine Qv ?_
     simp only[go_sem,l1,l2,l3,l4,l19,l20,hgw]
     refine⟨Qr (by omega) (by omega),?_⟩
     show ∃m,_
     exact⟨q.blocks.length-(b+1),by omega,b+1,ks,ss,bc,gc,bl,gl,rfl,by omega,hI,hgb,hgg,kn,rfl,rfl,rfl,rfl,rfl,rfl⟩
  ·intro hc
   have hbe:b=q.blocks.length:=by have:q.blocks.length≤b:=(by simpa using hc);omega
   subst hbe
   refine Qw ?_
   simp only[go_sem,X.next]
   refine Qbdk ho hI hgb hgg kn rfl rfl rfl fun e3 H9 ks2 z hkl hky hko kn l2=>?_
   have hx2:=kn.l 0 rfl
   simp only[go_sem,Q4,Q7,Qww,List.mem_singleton,forall_eq,RS.op,l2,hx2]
   have hmem:∀k∈ks2,∀p∈k.pl,H9 p.1=p.2∧un H p.1=true:=fun k hk p hp=>
    ⟨(kn.get p (List.mem_append_right _ (List.mem_append_right _ (List.mem_flatMap.2 ⟨k,hk,hp⟩)))).1,Qir (kn.loc p (List.mem_append_right _ (List.mem_flatMap.2 ⟨k,hk,hp⟩)))⟩
   have hz:=kn.l 1 rfl
   have hrows:FrzR H9 (un H) (ks2.map KBlk.row) (Qn (spD q).blocks):=by
    rw[←hky,Qn,List.map_map]
    refine Qgx ks2 fun k hk=>?_
    exact .cons (Gr.frzM (hko k hk) (hmem k hk) (FrzR.same (Qmx _))) (.cons (Qd rfl) (.cons (Qd rfl) (.cons (Qd rfl) (.cons (Qd rfl) .nil))))
   have hfr:=FrzR.vsl (kn.un 1 rfl) hz (by rw[List.length_map,hkl]) hrows
   exact⟨_,FrzL.ag (.cons (Qd rfl) (.cons (Qd rfl) (.cons hfr .nil))),hK _ kn.fin⟩
end Go.AE.Y

namespace Go.AE.Y
attribute [local go_sem] cond_true cond_false Bool.not_true Bool.not_false
open Go.Proofs.Tryz
variable {H H0:Heap}{K:V→Heap→Prop}{q:CodeD}
theorem shL_nil {b:Nat}:(shL (gnx q) q.blocks.length b=[])↔(gnx q b).any (shV (gnx q) q.blocks.length b)=false:=by
 rw[shL,List.filter_eq_nil_iff,List.any_eq_false]
def hasT (q:CodeD)(b:Nat):Bool:=(List.range b).any fun b=>(gnx q b).any (shV (gnx q) q.blocks.length b)
theorem Qa92 (q:CodeD)(b:Nat):hasT q (b+1)=(hasT q b || (gnx q b).any (shV (gnx q) q.blocks.length b)):=by
 simp[hasT,List.range_succ]
theorem Qbis {q:CodeD}{b c:Nat}(h:hasT q b=true)(hc:b≤c):hasT q c=true:=by
 simp only[hasT,List.any_eq_true,List.mem_range]at h⊢
 obtain⟨x,h1,h2⟩:=h
 exact⟨x,by omega,h2⟩
set_option maxHeartbeats 2000000 in
theorem Qang {fl:Bool}(ho:q.ok)(hK:∀H',Upd H H' []→K (.c (.bool (hasS q))) H') :
  Qp prog Qfh [.ag [.int .i64 q.params,.int .i64 q.regs,.sl fl 5 (Qn q.blocks)]] H K:=by
 have F:=ho.spF
 have hb1:=ho.b1
 refine Qu ?_
 refine Qb Qai Qapb ?_
 refine Qa ?_
 simp only[go_sem]
 refine Q5 ?_
 refine Qa ?_
 simp only[go_sem]
 refine Qas5 (Qi2 H q fl) ?_
 rw[Ql,ho.fitB]
 simp only[go_sem,Qn2]
 refine Qi (Qe rfl (fun h=>by simp at h) fun _=>?_)
 refine Qh ?_
 try simp only[go_sem]
 refine Q5 ?_
 refine Qa ?_
 simp only[go_sem,Ql]
 try intro _
 refine Qi (Qf (Qx (fun m e1 H1=>∃(b:Nat),m=q.blocks.length-b∧b≤q.blocks.length∧hasT q b=false∧Kn H H1 [] []∧
  lk 1 e1=.c (.pp [.int .i64 q.params,.int .i64 q.regs,.sl fl 5 (Qn q.blocks)])∧lk 9 e1=.c (.int .i64 q.blocks.length)∧lk 10 e1=.c (.int .i64 b)) q.blocks.length ?_ ?_))
 ·exact⟨0,by omega,by omega,rfl,Kn.start0 H,rfl,rfl,rfl⟩
 ·rintro m e1 H1 ⟨b,hm,hb,hT,kn,l1,l9,l10⟩
  refine Qa ?_
  simp only[go_sem,l1,l9,l10]
  refine Qi (Qe rfl ?_ ?_)
  ·intro hc
   have hlt:b<q.blocks.length:=by simpa using hc
   have hsucc:=Qa92 q b
   rw[hT,Bool.false_or]at hsucc
   refine Qh ?_
   try simp only[go_sem]
   refine Qi (Qf ?_)
   refine Qa ?_
   simp only[go_sem,l1,l9,l10]
   refine Qa ?_
   simp only[go_sem]
   refine Qahm ho hlt fun fls H2 hu=>?_
   have kn:=kn.call0 hu
   obtain⟨Ls,hLs⟩:∃Ls,shL (gnx q) q.blocks.length b=Ls:=⟨_,rfl⟩
   rw[hLs]
   simp only[go_sem,Qn3,Qc]
   try intro _
   refine Qe rfl ?_ ?_
   ·intro hc2
    have hpos:0<Ls.length:=by simpa using hc2
    have hany:(gnx q b).any (shV (gnx q) q.blocks.length b)=true:=by
     cases h:(gnx q b).any (shV (gnx q) q.blocks.length b)with
     |true=>rfl
     |false=>have:=shL_nil.2 h;rw[hLs]at this;rw[this]at hpos;simp at hpos
    refine Qa ?_
    simp only[go_sem]
    refine Qk ?_
    simp only[go_sem,X.next,Q4,Q7,Qmy,List.mem_singleton,forall_eq,RS.op]
    have:=hK _ kn.fin
    have e:hasS q=true:=Qbis (b:=b+1) (hsucc.trans hany) (by omega)
    rw[e]at this
    exact⟨_,.c _ _ (Qd rfl),this⟩
   ·intro hc2
    have hz:Ls=[]:=by
     have:¬0<Ls.length:=by simpa using hc2
     exact List.eq_nil_of_length_eq_zero (by omega)
    have hany:=shL_nil.1 (hLs.trans hz)
    refine Qh ?_
    try simp only[go_sem]
    refine Qv ?_
    simp only[go_sem]
    refine⟨Qr (by omega) (by omega),?_⟩
    show ∃m,_
    exact⟨q.blocks.length-(b+1),by omega,b+1,rfl,by omega,hsucc.trans hany,kn,rfl,rfl,rfl⟩
  ·intro hc
   have hbe:b=q.blocks.length:=by have:q.blocks.length≤b:=(by simpa using hc);omega
   subst hbe
   refine Qw ?_
   simp only[go_sem,X.next]
   refine Qa ?_
   simp only[go_sem]
   refine Qk ?_
   simp only[go_sem,Q4,Q7,Qmy,List.mem_singleton,forall_eq,RS.op]
   have:=hK _ kn.fin
   have e:hasS q=false:=hT
   rw[e]at this
   exact⟨_,.c _ _ (Qd rfl),this⟩
end Go.AE.Y

namespace Go.AE.Y
open Go.Proofs.Tryz
def Qle:List Item:=[mJ 4 9]
def Q7b:SC:=sR (fJ 5 0 2::lJ 6 5::fJ 7 0 3::lJ 8 7::eI 9 (.call Qc1 [.t 6,.t 8,.k (.c (.fn Qc7 []))])::Qle) [4] .ret
def Qaiu:SC:=sR [vJ 2 0,vJ 3 1,fB 4 false] [2,3] Q7b
def Qwm:List RS:=[.tmp 4]
theorem Qahz:mFn prog Qhd 2 10 Qaiu Qwm=true:=by kernel_rfl
def Qlt:List Item:=[pF 37 31 36,mJ 4 37]
def Qlu:List Item:=pF 30 24 29::mJ 31 30::gTf 32 31 1 2::gTl 33 31 32::gTf 34 31 1 3::gTl 35 31 34::.e (some 36) (some (31,true)) (.call Qdi [.t 33,.t 35,.k (.c (.fn Qd0 []))])::Qlt
def Qlv:List Item:=pF 23 17 22::mJ 24 23::gTf 25 24 0 2::gTl 26 24 25::gTf 27 24 0 3::gTl 28 24 27::.e (some 29) (some (24,true)) (.call Qdj [.t 26,.t 28,.k (.c (.fn Qd1 []))])::Qlu
def Q75:SC:=sR (fJ 5 2 2::lJ 6 5::fJ 7 2 3::lJ 8 7::bJ 9 .eql 6 8::mJ 10 9::gTf 11 10 3 2::gTl 12 10 11::gTf 13 10 3 3::gTl 14 10 13::gT 15 10 (.bin 0 .eql (.t 12) (.t 14))::pF 16 10 15::mJ 17 16::gTf 18 17 4 2::gTl 19 17 18::gTf 20 17 4 3::gTl 21 17 20::.e (some 22) (some (17,true)) (.call Qho [.t 19,.t 21])::Qlv) [4] .ret
def Qala:SC:=sR [vJ 2 0,vJ 3 1,fB 4 false] [2,3] Q75
def Qwu:List RS:=[.tmp 4]
theorem Qaia:mFn prog Qce 2 38 Qala Qwu=true:=by kernel_rfl
def Qoa:List Item:=[pF 23 17 22,mJ 4 23]
def Qacz:SC:=sR (fJ 5 0 2::lJ 6 5::fJ 7 0 3::lJ 8 7::bJ 9 .eql 6 8::mJ 10 9::gTf 11 10 1 2::gTl 12 10 11::gTf 13 10 1 3::gTl 14 10 13::gT 15 10 (.bin 0 .eql (.t 12) (.t 14))::pF 16 10 15::mJ 17 16::gTf 18 17 2 2::gTl 19 17 18::gTf 20 17 2 3::gTl 21 17 20::.e (some 22) (some (17,true)) (.call Qcg [.t 19,.t 21,.k (.c (.fn Qce []))])::Qoa) [4] .ret
def Qaqn:SC:=sR [vJ 2 0,vJ 3 1,fB 4 false] [2,3] Qacz
def Q0c:List RS:=[.tmp 4]
theorem Qapg:mFn prog Qc7 2 24 Qaqn Q0c=true:=by kernel_rfl
def Qsr:List Item:=[pF 30 24 29,mJ 4 30]
def Qalb:SC:=sR (fJ 5 0 2::lJ 6 5::fJ 7 0 3::lJ 8 7::bJ 9 .eql 6 8::mJ 10 9::gTf 11 10 1 2::gTl 12 10 11::gTf 13 10 1 3::gTl 14 10 13::gT 15 10 (.bin 0 .eql (.t 12) (.t 14))::pF 16 10 15::mJ 17 16::gTf 18 17 3 2::gTl 19 17 18::gTf 20 17 3 3::gTl 21 17 20::gT 22 17 (.bin 0 .eql (.t 19) (.t 21))::pF 23 17 22::mJ 24 23::gTf 25 24 2 2::gTl 26 24 25::gTf 27 24 2 3::gTl 28 24 27::.e (some 29) (some (24,true)) (.call Qho [.t 26,.t 28])::Qsr) [4] .ret
def Qauh:SC:=sR [vJ 2 0,vJ 3 1,fB 4 false] [2,3] Qalb
def Q42:List RS:=[.tmp 4]
theorem Qath:mFn prog Qd0 2 31 Qauh Q42=true:=by kernel_rfl
def Qss:List Item:=[pF 16 10 15,mJ 4 16]
def Qalc:SC:=sR (fJ 5 0 2::lJ 6 5::fJ 7 0 3::lJ 8 7::bJ 9 .eql 6 8::mJ 10 9::gTf 11 10 1 2::gTl 12 10 11::gTf 13 10 1 3::gTl 14 10 13::.e (some 15) (some (10,true)) (.call Qho [.t 12,.t 14])::Qss) [4] .ret
def Qaui:SC:=sR [vJ 2 0,vJ 3 1,fB 4 false] [2,3] Qalc
def Q43:List RS:=[.tmp 4]
theorem Qati:mFn prog Qd1 2 17 Qaui Q43=true:=by kernel_rfl
def Qow:List Item:=[gF 45 39 (.not (.t 44)),pT 46 39 45]
def Qafh:SC:=cT 46 (sR [fB 4 false] [4] .ret) .skip
def Qox:List Item:=[gF 81 67 (.not (.t 80)),pT 82 67 81]
def Qafi:SC:=cT 82 (sR [fB 4 false] [4] .ret) .skip
def Qafj:SC:=.reg [mJ 52 5,cJ 53 .add 52 1,mJ 5 53] [2,3,5]
def Qafk:SC:=.seq (.block 1 (.seq (.dreg 29 [0,1,2,3,4,5,6,7,8,9,10,11,12,13,14,15,16,17,18,19,20,21,22,23,24,25,26,27,28] ( fJ 54 0 2::lJ 55 54::mJ 56 5::iJ 57 2 55 56::fJ 58 0 57::lJ 59 58::fJ 60 0 3::lJ 61 60::mJ 62 5::iJ 63 2 61 62::fJ 64 0 63::lJ 65 64::bJ 66 .neq 59 65::mJ 67 66::gFf 68 67 0 2::gFl 69 67 68::gFm 70 67 5::gF 71 67 (.iad 2 (.t 69) (.t 70))::gFf 72 67 1 71::gFl 73 67 72::gFf 74 67 0 3::gFl 75 67 74::gFm 76 67 5::gF 77 67 (.iad 2 (.t 75) (.t 76))::gFf 78 67 1 77::gFl 79 67 78::.e (some 80) (some (67,false)) (.call Qqy [.t 73,.t 79])::Qox) [2,3,5,82]) Qafi)) Qafj
def Q80:SC:=.seq (sR [mJ 47 5,fJ 48 0 2,lJ 49 48,nJ 50 49,bJ 51 .lss 47 50] [2,3,5,51] (cT 51 .skip (.exit 0))) Qafk
def Qoy:List Item:=[sJ 4 7 94]
def Qoz:List Item:=[sJ 4 8 99]
def Qo0:List Item:=[gF 125 119 (.not (.t 124)),pT 126 119 125]
def Q8r:SC:=cT 126 (sR [fB 4 false] [4] .ret) .skip
def Q8s:SC:=sR (fJ 100 0 7::lJ 101 100::fJ 102 0 8::lJ 103 102::bJ 104 .neq 101 103::mJ 105 104::gFf 106 105 1 7::gFl 107 105 106::gFf 108 105 1 8::gFl 109 105 108::gF 110 105 (.bin 0 .neq (.t 107) (.t 109))::pT 111 105 110::mJ 112 111::gFf 113 112 3 7::gFl 114 112 113::gFf 115 112 3 8::gFl 116 112 115::gF 117 112 (.bin 0 .neq (.t 114) (.t 116))::pT 118 112 117::mJ 119 118::gFf 120 119 2 7::gFl 121 119 120::gFf 122 119 2 8::gFl 123 119 122::.e (some 124) (some (119,false)) (.call Qqy [.t 121,.t 123])::Qo0) [2,3,6,126] Q8r
def Q8t:SC:=sR (fJ 95 1 3::lJ 96 95::mJ 97 6::iJ 98 4 96 97::tJ 99 4 98::eI 8 (.alloc [.int .i64 0,.int .i64 0,.sl true 1 [],.int .i64 0])::Qoz) [2,3,6,7,8] Q8s
def Q8u:SC:=.reg [mJ 88 6,cJ 89 .add 88 1,mJ 6 89] [2,3,6]
def Q8v:SC:=.seq (.block 3 (sR (fJ 90 1 2::lJ 91 90::mJ 92 6::iJ 93 4 91 92::tJ 94 4 93::eI 7 (.alloc [.int .i64 0,.int .i64 0,.sl true 1 [],.int .i64 0])::Qoy) [2,3,6,7] Q8t)) Q8u
def Q39:SC:=.seq (sR [mJ 83 6,fJ 84 1 2,lJ 85 84,nJ 86 85,bJ 87 .lss 83 86] [2,3,6,87] (cT 87 .skip (.exit 2))) Q8v
def Q8w:SC:=sR [fB 4 true] [4] .ret
def Q8x:SC:=.seq (sR [zJ 6 0] [2,3,6] (bL 2 Q39)) Q8w
def Q8y:SC:=.seq (sR [zJ 5 0] [2,3,5] (bL 0 Q80)) Q8x
def Q8z:SC:=.seq (sR (fJ 9 0 2::lJ 10 9::nJ 11 10::fJ 12 0 3::lJ 13 12::nJ 14 13::bJ 15 .neq 11 14::mJ 16 15::gFf 17 16 1 2::gFl 18 16 17::gF 19 16 (.len (.t 18))::gFf 20 16 1 3::gFl 21 16 20::gF 22 16 (.len (.t 21))::gF 23 16 (.bin 0 .neq (.t 19) (.t 22))::pT 24 16 23::mJ 25 24::gFf 26 25 2 2::gFl 27 25 26::gFf 28 25 2 3::gFl 29 25 28::gF 30 25 (.bin 0 .neq (.t 27) (.t 29))::pT 31 25 30::mJ 32 31::gFf 33 32 3 2::gFl 34 32 33::gFf 35 32 3 3::gFl 36 32 35::gF 37 32 (.bin 0 .neq (.t 34) (.t 36))::pT 38 32 37::mJ 39 38::gFf 40 39 4 2::gFl 41 39 40::gFf 42 39 4 3::gFl 43 39 42::.e (some 44) (some (39,false)) (.call Qqy [.t 41,.t 43])::Qow) [2,3,46] Qafh) Q8y
def Qarx:SC:=sR [vJ 2 0,vJ 3 1,fB 4 false] [2,3] Q8z
def Q0j:List RS:=[.tmp 4]
theorem Qapk:mFn prog Qj3 2 127 Qarx Q0j=true:=by kernel_rfl
def Qal3:SC:=cT 26 (sR [fB 4 false] [4] .ret) .skip
def Qtr:List Item:=[oJ 45 44]
def Qal4:SC:=cT 45 (sR [fB 4 false] [4] .ret) .skip
def Qal5:SC:=.reg [mJ 32 5,cJ 33 .add 32 1,mJ 5 33] [2,3,5]
def Qal6:SC:=.seq (.block 1 (.seq (.dreg 12 [0,1,2,3,4,5,6,7,8,9,10,11] ( fJ 34 2 2::lJ 35 34::mJ 36 5::iJ 37 5 35 36::tJ 38 5 37::fJ 39 2 3::lJ 40 39::mJ 41 5::iJ 42 5 40 41::tJ 43 5 42::aJ 44 Qj3 [.t 38,.t 43]::Qtr) [2,3,5,45]) Qal4)) Qal5
def Qafl:SC:=.seq (sR [mJ 27 5,fJ 28 2 2,lJ 29 28,nJ 30 29,bJ 31 .lss 27 30] [2,3,5,31] (cT 31 .skip (.exit 0))) Qal6
def Qal7:SC:=sR [fB 4 true] [4] .ret
def Qal8:SC:=.seq (sR [zJ 5 0] [2,3,5] (bL 0 Qafl)) Qal7
def Qal9:SC:=.seq (sR [fJ 6 0 2,lJ 7 6,fJ 8 0 3,lJ 9 8,bJ 10 .neq 7 9,mJ 11 10,gFf 12 11 1 2,gFl 13 11 12,gFf 14 11 1 3,gFl 15 11 14,gF 16 11 (.bin 0 .neq (.t 13) (.t 15)),pT 17 11 16,mJ 18 17,gFf 19 18 2 2,gFl 20 18 19,gF 21 18 (.len (.t 20)),gFf 22 18 2 3,gFl 23 18 22,gF 24 18 (.len (.t 23)),gF 25 18 (.bin 0 .neq (.t 21) (.t 24)),pT 26 18 25] [2,3,26] Qal3) Qal8
def Qawo:SC:=sR [vJ 2 0,vJ 3 1,fB 4 false] [2,3] Qal9
def Q47:List RS:=[.tmp 4]
theorem Qatp:mFn prog Qmq 2 46 Qawo Q47=true:=by kernel_rfl
def Qa7p:SC:=cT 10 (sR [fB 4 false] [4] .ret) .skip
def Qa7q:SC:=cT 25 (sR [fB 4 false] [4] .ret) .skip
def Qa7r:SC:=.reg [mJ 15 5,cJ 16 .add 15 1,mJ 5 16] [0,1,5]
def Qa7s:SC:=.seq (.block 1 (.seq (.dreg 9 [0,1,2,3,4,5,6,7,8] ( mJ 17 0::mJ 18 5::iJ 19 1 17 18::lJ 20 19::mJ 21 1::mJ 22 5::iJ 23 1 21 22::lJ 24 23::bJ 25 .neq 20 24::[]) [0,1,5,25]) Qa7q)) Qa7r
def Qa1i:SC:=.seq (sR [mJ 11 5,mJ 12 0,nJ 13 12,bJ 14 .lss 11 13] [0,1,5,14] (cT 14 .skip (.exit 0))) Qa7s
def Qa7t:SC:=sR [fB 4 true] [4] .ret
def Qa7u:SC:=.seq (sR [zJ 5 0] [0,1,5] (bL 0 Qa1i)) Qa7t
def Qa7v:SC:=.seq (sR [mJ 6 0,nJ 7 6,mJ 8 1,nJ 9 8,bJ 10 .neq 7 9] [0,1,10] Qa7p) Qa7u
def Qbgo:SC:=sR [fB 4 false] [0,1] Qa7v
def Qa4t:List RS:=[.tmp 4]
theorem Qbfl:mFn prog Qqy 2 26 Qbgo Qa4t=true:=by kernel_rfl
def Qaw9:SC:=cT 10 (sR [fB 4 false] [4] .ret) .skip
def Qaxa:SC:=cT 24 (sR [fB 4 false] [4] .ret) .skip
def Qaxb:SC:=.seq (.dreg 9 [0,1,2,3,4,5,6,7,8] ( mJ 16 0::mJ 17 5::iJ 18 1 16 17::lJ 19 18::mJ 20 1::mJ 21 5::iJ 22 1 20 21::lJ 23 22::bJ 24 .neq 19 23::[]) [0,1,12,13,24]) Qaxa
def Qaxc:SC:=.reg [cJ 25 .add 13 1,mJ 13 25] [0,1,12,13]
def Qaxd:SC:=.seq (.block 1 (sR [mJ 15 13,mJ 5 15] [0,1,5,12,13] Qaxb)) Qaxc
def Qasc:SC:=sR [bJ 14 .lss 13 12] [0,1,12,13,14] (cX 14 0 Qaxd)
def Qaxe:SC:=sR [fB 4 true] [4] .ret
def Qaxf:SC:=.seq (sR [mJ 11 0,nJ 12 11,zJ 13 0] [0,1,12,13] (bL 0 Qasc)) Qaxe
def Qaxg:SC:=.seq (sR [mJ 6 0,nJ 7 6,mJ 8 1,nJ 9 8,bJ 10 .neq 7 9] [0,1,10] Qaw9) Qaxf
def Qa8z:SC:=sR [fB 4 false] [0,1] Qaxg
def Qan8:List RS:=[.tmp 4]
theorem Qa6f:mFn prog Qho 2 26 Qa8z Qan8=true:=by kernel_rfl
def Qpq:SC:=cT 14 (sR [fB 6 false] [6] .ret) .skip
def Qec:List Item:=[mJ 7 19,sJ 5 8 21]
def Qed:List Item:=[sJ 5 9 25]
def Qee:List Item:=[oJ 30 29]
def Qpr:SC:=cT 30 (sR [fB 6 false] [6] .ret) .skip
def Qps:SC:=sR (mJ 26 2::tJ 27 5 8::tJ 28 5 9::eI 29 (.callv (.t 26) [.t 27,.t 28])::Qee) [1,2,15,16,17,30] Qpr
def Qpt:SC:=sR (mJ 22 1::mJ 23 7::iJ 24 5 22 23::tJ 25 5 24::eI 9 (.alloc [.sl true 2 [],.sl true 4 [],.int .i64 0,.int .i64 0,.sl true 1 []])::Qed) [1,2,8,9,15,16,17] Qps
def Qpu:SC:=.reg [cJ 31 .add 17 1,mJ 17 31] [1,2,15,16,17]
def Qpv:SC:=.seq (.block 1 (sR (mJ 19 17::iJ 20 5 15 17::tJ 21 5 20::eI 8 (.alloc [.sl true 2 [],.sl true 4 [],.int .i64 0,.int .i64 0,.sl true 1 []])::Qec) [1,2,7,8,15,16,17] Qpt)) Qpu
def Qnm:SC:=sR [bJ 18 .lss 17 16] [1,2,15,16,17,18] (cX 18 0 Qpv)
def Qnj:SC:=sR [fB 6 true] [6] .ret
def Qnk:SC:=.seq (sR [mJ 15 0,nJ 16 15,zJ 17 0] [1,2,15,16,17] (bL 0 Qnm)) Qnj
def Qnl:SC:=.seq (sR [mJ 10 0,nJ 11 10,mJ 12 1,nJ 13 12,bJ 14 .neq 11 13] [0,1,2,14] Qpq) Qnk
def Qvx:SC:=sR [fB 6 false] [0,1,2] Qnl
def Qge:List RS:=[.tmp 6]
theorem Qvf:mFn prog Qcg 3 32 Qvx Qge=true:=by kernel_rfl
def Qt8:SC:=cT 14 (sR [fB 6 false] [6] .ret) .skip
def Qer:List Item:=[mJ 7 19,sJ 3 8 21]
def Qes:List Item:=[sJ 3 9 25]
def Qet:List Item:=[oJ 30 29]
def Qt9:SC:=cT 30 (sR [fB 6 false] [6] .ret) .skip
def Qua:SC:=sR (mJ 26 2::tJ 27 3 8::tJ 28 3 9::eI 29 (.callv (.t 26) [.t 27,.t 28])::Qet) [1,2,15,16,17,30] Qt9
def Qub:SC:=sR (mJ 22 1::mJ 23 7::iJ 24 3 22 23::tJ 25 3 24::eI 9 (.alloc [.int .i64 0,.int .i64 0,.sl true 5 []])::Qes) [1,2,8,9,15,16,17] Qua
def Quc:SC:=.reg [cJ 31 .add 17 1,mJ 17 31] [1,2,15,16,17]
def Qud:SC:=.seq (.block 1 (sR (mJ 19 17::iJ 20 3 15 17::tJ 21 3 20::eI 8 (.alloc [.int .i64 0,.int .i64 0,.sl true 5 []])::Qer) [1,2,7,8,15,16,17] Qub)) Quc
def Qpz:SC:=sR [bJ 18 .lss 17 16] [1,2,15,16,17,18] (cX 18 0 Qud)
def Qpw:SC:=sR [fB 6 true] [6] .ret
def Qpx:SC:=.seq (sR [mJ 15 0,nJ 16 15,zJ 17 0] [1,2,15,16,17] (bL 0 Qpz)) Qpw
def Qpy:SC:=.seq (sR [mJ 10 0,nJ 11 10,mJ 12 1,nJ 13 12,bJ 14 .neq 11 13] [0,1,2,14] Qt8) Qpx
def Qzk:SC:=sR [fB 6 false] [0,1,2] Qpy
def Qh1:List RS:=[.tmp 6]
theorem Qyp:mFn prog Qc1 3 32 Qzk Qh1=true:=by kernel_rfl
def Qvy:SC:=cT 14 (sR [fB 6 false] [6] .ret) .skip
def Qf6:List Item:=[mJ 7 19,sJ 4 8 21]
def Qf7:List Item:=[sJ 4 9 25]
def Qf8:List Item:=[oJ 30 29]
def Qvz:SC:=cT 30 (sR [fB 6 false] [6] .ret) .skip
def Qv0:SC:=sR (mJ 26 2::tJ 27 4 8::tJ 28 4 9::eI 29 (.callv (.t 26) [.t 27,.t 28])::Qf8) [1,2,15,16,17,30] Qvz
def Qv1:SC:=sR (mJ 22 1::mJ 23 7::iJ 24 4 22 23::tJ 25 4 24::eI 9 (.alloc [.int .i64 0,.int .i64 0,.sl true 1 [],.int .i64 0])::Qf7) [1,2,8,9,15,16,17] Qv0
def Qv2:SC:=.reg [cJ 31 .add 17 1,mJ 17 31] [1,2,15,16,17]
def Qv3:SC:=.seq (.block 1 (sR (mJ 19 17::iJ 20 4 15 17::tJ 21 4 20::eI 8 (.alloc [.int .i64 0,.int .i64 0,.sl true 1 [],.int .i64 0])::Qf6) [1,2,7,8,15,16,17] Qv1)) Qv2
def Quh:SC:=sR [bJ 18 .lss 17 16] [1,2,15,16,17,18] (cX 18 0 Qv3)
def Que:SC:=sR [fB 6 true] [6] .ret
def Quf:SC:=.seq (sR [mJ 15 0,nJ 16 15,zJ 17 0] [1,2,15,16,17] (bL 0 Quh)) Que
def Qug:SC:=.seq (sR [mJ 10 0,nJ 11 10,mJ 12 1,nJ 13 12,bJ 14 .neq 11 13] [0,1,2,14] Qvy) Quf
def Q12:SC:=sR [fB 6 false] [0,1,2] Qug
def Qjd:List RS:=[.tmp 6]
theorem Qz3:mFn prog Qdi 3 32 Q12 Qjd=true:=by kernel_rfl
def Qv4:SC:=cT 14 (sR [fB 6 false] [6] .ret) .skip
def Qf9:List Item:=[mJ 7 19,sJ 2 8 21]
def Qga:List Item:=[sJ 2 9 25]
def Qgb:List Item:=[oJ 30 29]
def Qv5:SC:=cT 30 (sR [fB 6 false] [6] .ret) .skip
def Qv6:SC:=sR (mJ 26 2::tJ 27 2 8::tJ 28 2 9::eI 29 (.callv (.t 26) [.t 27,.t 28])::Qgb) [1,2,15,16,17,30] Qv5
def Qv7:SC:=sR (mJ 22 1::mJ 23 7::iJ 24 2 22 23::tJ 25 2 24::eI 9 (.alloc [.int .i64 0,.sl true 1 []])::Qga) [1,2,8,9,15,16,17] Qv6
def Qv8:SC:=.reg [cJ 31 .add 17 1,mJ 17 31] [1,2,15,16,17]
def Qv9:SC:=.seq (.block 1 (sR (mJ 19 17::iJ 20 2 15 17::tJ 21 2 20::eI 8 (.alloc [.int .i64 0,.sl true 1 []])::Qf9) [1,2,7,8,15,16,17] Qv7)) Qv8
def Qul:SC:=sR [bJ 18 .lss 17 16] [1,2,15,16,17,18] (cX 18 0 Qv9)
def Qui:SC:=sR [fB 6 true] [6] .ret
def Quj:SC:=.seq (sR [mJ 15 0,nJ 16 15,zJ 17 0] [1,2,15,16,17] (bL 0 Qul)) Qui
def Quk:SC:=.seq (sR [mJ 10 0,nJ 11 10,mJ 12 1,nJ 13 12,bJ 14 .neq 11 13] [0,1,2,14] Qv4) Quj
def Q13:SC:=sR [fB 6 false] [0,1,2] Quk
def Qje:List RS:=[.tmp 6]
theorem Qz4:mFn prog Qdj 3 32 Q13 Qje=true:=by kernel_rfl
def Q9b:SC:=cT 12 (sR [fB 4 false] [4] .ret) .skip
def Ql7:List Item:=[oJ 31 30]
def Q9c:SC:=cT 31 (sR [fB 4 false] [4] .ret) .skip
def Q9d:SC:=.reg [mJ 18 5,cJ 19 .add 18 1,mJ 5 19] [2,3,5]
def Q9e:SC:=.seq (.block 1 (.seq (.dreg 12 [0,1,2,3,4,5,6,7,8,9,10,11] ( fJ 20 0 2::lJ 21 20::mJ 22 5::iJ 23 3 21 22::tJ 24 3 23::fJ 25 0 3::lJ 26 25::mJ 27 5::iJ 28 3 26 27::tJ 29 3 28::aJ 30 Qmq [.t 24,.t 29]::Ql7) [2,3,5,31]) Q9c)) Q9d
def Q4f:SC:=.seq (sR [mJ 13 5,fJ 14 0 2,lJ 15 14,nJ 16 15,bJ 17 .lss 13 16] [2,3,5,17] (cT 17 .skip (.exit 0))) Q9e
def Q9f:SC:=sR [fB 4 true] [4] .ret
def Q9g:SC:=.seq (sR [zJ 5 0] [2,3,5] (bL 0 Q4f)) Q9f
def Q9h:SC:=.seq (sR [fJ 6 0 2,lJ 7 6,nJ 8 7,fJ 9 0 3,lJ 10 9,nJ 11 10,bJ 12 .neq 8 11] [2,3,12] Q9b) Q9g
def Qand:SC:=sR [vJ 2 0,vJ 3 1,fB 4 false] [2,3] Q9h
def Qwx:List RS:=[.tmp 4]
theorem Qaig:mFn prog Qbw 2 32 Qand Qwx=true:=by kernel_rfl
end Go.AE.Y

namespace Go.AE.Y
attribute [local go_sem] cond_true cond_false Bool.not_true Bool.not_false
open Go.Proofs.Tryz
variable {H H0 F:Heap}{K:V→Heap→Prop}{E L B:List (Nat×Obj)}{fl:Bool}
attribute [local instance] Classical.propDecidable
def Drc (c d:CodeD):Prop:=Idl c d
def DropOk (cs ds:List CodeD):Prop:=(Qb0 cs=true∧ds.length=cs.length∧∀i (h1:i<cs.length) (h2:i<ds.length),Drc cs[i] ds[i])∨(Qb0 cs=false∧ds=[])
theorem DropOk.unit {cs ds:List CodeD}(h:DropOk cs ds)(hg:Qb0 cs=true):Qb0 ds=true∧ds.length=cs.length∧∀i (h1:i<cs.length) (h2:i<ds.length),Idl cs[i] ds[i]:=by
 rcases h with ⟨_,hl,h⟩|⟨h,_⟩
 ·exact⟨Qbg3 hg hl fun k h1 h2=>(h k h1 h2).shr,hl,h⟩
 ·rw[hg]at h;simp at h
theorem DropOk.fits {cs ds:List CodeD}(h:DropOk cs ds):∀c∈ds,c.fits:=by
 rcases h with ⟨hg,hl,h⟩|⟨_,rfl⟩
 ·intro c hc
  obtain⟨i,hi,rfl⟩:=List.mem_iff_getElem.1 hc
  exact ((h i (by omega) hi).shr.ok (Qnt hg (by omega))).fts
 ·simp
theorem DropOk.uniq {cs ds es:List CodeD}(h:DropOk cs ds)(k:DropOk cs es):ds=es:=by
 rcases h with ⟨hg,hl,h⟩|⟨hg,rfl⟩
 ·rcases k with ⟨_,kl,k⟩|⟨hf,_⟩
  ·exact List.ext_getElem (by omega) fun i h1 h2=>(h i (by omega) h1).uniq (k i (by omega) h2)
  ·rw[hg]at hf;simp at hf
 ·rcases k with ⟨hf,_⟩|⟨_,rfl⟩
  ·rw[hg]at hf;simp at hf
  ·rfl
theorem DropOk.again {cs ds:List CodeD}(h:DropOk cs ds)(hg:Qb0 cs=true):DropOk ds ds:=by
 obtain⟨h1,h2,h3⟩:=h.unit hg
 exact .inl ⟨h1,rfl,fun i a b=>(h3 i (by omega) a).again⟩
end Go.AE.Y

namespace Go.AE.Y
attribute [local go_sem] cond_true cond_false Bool.not_true Bool.not_false
attribute [local instance] Classical.propDecidable
open Go.Proofs.Tryz
variable {H H0:Heap}{K:V→Heap→Prop}{fl:Bool}
theorem Qa6h {fn:Nat}{f:CodeD→CodeD}{l:List CodeD}(hl:l.length≤4)(hf:∀p∈l,∀(H:Heap) (K:V→Heap→Prop) (fl:Bool),(∀H',Upd H H' []→K (.ag (f p).cells) H')→Qp prog fn [.ag [.int .i64 p.params,.int .i64 p.regs,.sl fl 5 (Qn p.blocks)]] H K)
  (hK:∀H',Upd H H' []→K (.c (.sl false 3 (Qj (l.map f)))) H') :
  Qp prog Qca [.c (.sl fl 3 (Qj l)),.c (.fn fn [])] H K:=by
 refine Qu ?_
 refine Qb Qai Qq7 ?_
 refine Qa ?_
 simp only[go_sem]
 refine Qa ?_
 simp only[go_sem]
 refine Q5 ?_
 refine Qa ?_
 simp only[go_sem,Qq]
 intro _
 refine Qi (Qf (Qx (fun m e1 H1=>∃(ds:List CodeD) (t:C) (Lg:List (Nat×Obj)),m=l.length-ds.length∧ds.length≤l.length∧(∀i (h1:i<l.length) (h2:i<ds.length),ds[i]=f l[i])∧Gr Lg 3 (Qj ds) t∧Kn H H1 [] ([]++Lg)∧
  e1=[(1,.c (.fn fn [])),(5,.c t),(8,.c (.sl fl 3 (Qj l))),(9,.c (.int .i64 l.length)),(10,.c (.int .i64 ds.length))]) l.length ?_ ?_))
 ·exact⟨[],_,[],by simp,by simp,by simp,.nil 3,Kn.start0 H,rfl⟩
 ·rintro m e1 H1 ⟨ds,t,Lg,hm,hi,hdr,hgr,kn,rfl⟩
  have htw:=hgr.isOw
  refine Qa ?_
  simp only[go_sem,htw]
  refine Qi (Qe rfl ?_ ?_)
  ·intro hc
   have hlt:ds.length<l.length:=by simpa using hc
   obtain⟨p,hp⟩:∃p,l[ds.length]=p:=⟨_,rfl⟩
   have hpm:p∈l:=by rw[←hp];exact List.getElem_mem hlt
   refine Qh ?_
   try simp only[go_sem]
   refine Qi (Qf ?_)
   refine Qa ?_
   simp only[go_sem,htw,hlt,Qq,Q3 _ _ hlt,CodeD.cells,hp]
   intro x7 hx7 H2 h2
   have kn:=kn.al hx7 h2
   have hx7:H2 x7=.st [.int .i64 0,.int .i64 0,.sl true 5 []]:=(kn.get (x7,.st [.int .i64 0,.int .i64 0,.sl true 5 []]) (by simp)).1
   simp only[go_sem,Qdq,hx7,htw]
   intro H3 h3
   have kn:Kn H H3 [] ([(x7,.st [.int .i64 p.params,.int .i64 p.regs,.sl false 5 (Qn p.blocks)])]++Lg):=by
    have:=kn.stL ([]++Lg).length (x:=x7) (o:=.st [.int .i64 0,.int .i64 0,.sl true 5 []]) (by simp) h3
    refine Kn.perm (by simpa using this) ?_
    exact List.perm_append_comm
   have hx7:=kn.l 0 rfl
   refine Qv ?_
   simp only[go_sem,htw,hx7,List.append_nil,List.map_nil]
   refine hf p hpm _ _ _ fun H4 hu=>?_
   obtain⟨d,hd⟩:∃d,f p=d:=⟨_,rfl⟩
   rw[hd]
   have kn:=kn.call0 hu
   simp only[go_sem,Qds,htw,CodeD.cells]
   refine kn.growR (new:=Qj [d]) hgr (.mk' _ _ _ _) (Qa4 _) (by simp only[Qq,LIM,List.length_cons,List.length_nil];omega) fun t2 Lg2 H5 hgr2 ht2 kn=>?_
   simp only[go_sem,Qdr,ht2]
   refine Qv ?_
   simp only[go_sem,X.next,ht2]
   refine⟨Qr (by omega) (by omega),l.length-(ds.length+1),by omega,ds++[d],t2,Lg2,by simp,by simp;omega,fun i h1 h2=>?_,?_,?_,by simp⟩
   ·by_cases hi:i<ds.length
    ·rw[List.getElem_append_left hi];exact hdr i h1 hi
    ·have hie:i=ds.length:=by simp only[List.length_append,List.length_cons,List.length_nil]at h2;omega
     subst hie
     rw[hp]
     have:(ds++[d])[ds.length]=d:=by simp
     rw[this]
     exact hd.symm
   ·have:Qj (ds++[d])=Qj ds++Qj [d]:=by simp[Qj]
    rw[this];exact hgr2
   ·exact Kn.drop (B:=[(x7,.st [.int .i64 p.params,.int .i64 p.regs,.sl false 5 (Qn p.blocks)])]) (kn.perm List.perm_append_comm)
  ·intro hc
   have hge:ds.length=l.length:=by have:l.length≤ds.length:=(by simpa using hc);omega
   refine Qw ?_
   simp only[go_sem,X.next]
   refine Qa ?_
   simp only[go_sem,htw]
   refine Qk ?_
   simp only[go_sem,Q4,Q7,Qft,List.mem_singleton,forall_eq,RS.op,htw]
   have hde:ds=l.map f:=List.ext_getElem (by rw[List.length_map,hge]) fun i h1 h2=>by rw[List.getElem_map];exact hdr i (by omega) h1
   have hfin:=hK _ kn.fin
   rw[←hde]at hfin
   exact⟨_,.c _ _ (hgr.frz kn (Qa4 _)),hfin⟩
noncomputable def perL (f:CodeD→CodeD)(cs:List CodeD):List CodeD:=if Qb0 cs=true then cs.map f else []
theorem Qa6l {fn:Nat}{f:CodeD→CodeD}{cs:List CodeD}(hfit:∀c∈cs,c.fits)(hf:Qb0 cs=true→∀p∈cs,∀(H:Heap) (K:V→Heap→Prop) (fl:Bool),(∀H',Upd H H' []→K (.ag (f p).cells) H')→Qp prog fn [.ag [.int .i64 p.params,.int .i64 p.regs,.sl fl 5 (Qn p.blocks)]] H K)
  (hK:∀H',Upd H H' []→K (.tup [.ag [.sl false 3 (Qj (perL f cs))],.c (.bool (Qb0 cs))]) H') :
  Qp prog Qml [.ag [.sl fl 3 (Qj cs)],.c (.fn fn [])] H K:=by
 refine Qu ?_
 refine Qb Qai Qatg ?_
 refine Qa ?_
 simp only[go_sem]
 intro x4 hx4 H1 h1
 have kn:=(Kn.start0 H).al hx4 h1
 simp only[go_sem,Qsf]
 refine Q5 ?_
 refine Qa ?_
 simp only[go_sem]
 refine Qmu hfit fun H2 hu=>?_
 have kn:=kn.call0 hu
 simp only[go_sem,Qsg]
 have hx4:=kn.l 0 rfl
 refine Qi (Qe rfl ?_ ?_)
 ·intro hc
  have hc:=Qvh hc
  refine Qa ?_
  simp only[go_sem,hx4]
  intro H3 h3
  have kn:=kn.stL 0 rfl h3
  have hx4:=kn.l 0 rfl
  simp only[go_sem,Qsh]
  refine Qk ?_
  simp only[go_sem,X.next,Q4,Q7,Qri,List.forall_mem_cons,List.not_mem_nil,RS.op,hx4]
  have hK:=hK _ kn.fin
  rw[perL,hc]at hK
  exact⟨fun _=>trivial,_,Qj6 (FrzL.ag (.cons FrzR.nil.sl .nil)) (.c _ _ (Qd rfl)),hK⟩
 ·intro hc
  have hg:=Qht hc
  have hc4:cs.length≤4:=by have:=(of_decide_eq_true hg).1;omega
  refine Qh ?_
  try simp only[go_sem]
  refine Qa ?_
  simp only[go_sem]
  refine Qa6h hc4 (hf hg) fun H3 hu=>?_
  have kn:=kn.call0 hu
  have hx4:=kn.l 0 rfl
  simp only[go_sem,Qsj,hx4]
  intro H4 h4
  have kn:=kn.stL 0 rfl h4
  have hx4:=kn.l 0 rfl
  simp only[go_sem,Qsi]
  refine Qk ?_
  simp only[go_sem,X.next,Q4,Q7,Qri,List.forall_mem_cons,List.not_mem_nil,RS.op,hx4]
  have hK:=hK _ kn.fin
  rw[perL,if_pos hg,hg]at hK
  exact⟨fun _=>trivial,_,Qj6 (Q19 _) (.c _ _ (Qd rfl)),hK⟩
theorem Qa3y {q:CodeD}(h:q.fits):(spD q).fits:=fun y hy=>by
 rcases List.mem_append.1 hy with hy|hy
 ·obtain⟨b,hb,rfl⟩:=List.mem_map.1 hy
  have hb:=List.mem_range.1 hb
  have:=h _ (List.getElem_mem hb)
  rw[spB,Qcm hb]
  simpa using this
 ·obtain⟨e,_,rfl⟩:=List.mem_map.1 hy
  simp[goB]
theorem Qaa4 {f:CodeD→CodeD}{cs:List CodeD}(hfit:∀c∈cs,c.fits)(hf:∀c,c.fits→(f c).fits):∀c∈perL f cs,c.fits:=fun c hc=>by
 rw[perL]at hc
 split at hc
 ·obtain⟨x,hx,rfl⟩:=List.mem_map.1 hc
  exact hf x (hfit x hx)
 ·simp at hc
noncomputable def Qpk (cs:List CodeD)(b:Bool):List CodeD:=if (b&&Qb0 cs)=true then cs else []
theorem Qay4 {cs:List CodeD}{b:Bool}(hfit:∀c∈cs,c.fits)(hK:∀H',Upd H H' []→K (.tup [.ag [.sl false 3 (Qj (Qpk cs b))],.c (.bool (b&&Qb0 cs))]) H') :
  Qp prog Qhl [.ag [.sl fl 3 (Qj cs)],.c (.bool b)] H K:=by
 refine Qu ?_
 refine Qb Qai Qah9 ?_
 refine Qa ?_
 simp only[go_sem]
 intro x4 hx4 H1 h1
 have kn:=(Kn.start0 H).al hx4 h1
 simp only[go_sem,Qlr]
 refine Q5 ?_
 cases b with
 |false=>
  refine Qa ?_
  simp only[go_sem,Qe5]
  have hx4:=kn.l 0 rfl
  refine Qi (Qe rfl (fun _=>?_) (fun h=>by simp at h))
  refine Qa ?_
  simp only[go_sem,hx4,Qgz]
  intro H3 h3
  have kn:=kn.stL 0 rfl h3
  have hx4:=kn.l 0 rfl
  simp only[go_sem,Qe6]
  refine Qk ?_
  simp only[go_sem,X.next,Q4,Q7,Qfk,List.forall_mem_cons,List.not_mem_nil,RS.op,hx4]
  have hK:=hK _ kn.fin
  have e:Qpk cs false=[]:=by simp[Qpk]
  rw[e]at hK
  exact⟨fun _=>trivial,_,Qj6 (FrzL.ag (.cons FrzR.nil.sl .nil)) (.c _ _ (Qd rfl)),hK⟩
 |true=>
  refine Qa ?_
  simp only[go_sem]
  refine Qmu hfit fun H2 hu=>?_
  have kn:=kn.call0 hu
  have hx4:=kn.l 0 rfl
  simp only[go_sem,Qe5]
  refine Qi (Qe rfl ?_ ?_)
  ·intro hc
   have hc:Qb0 cs=false:=by cases h:Qb0 cs with
    |false=>rfl
    |true=>rw[h]at hc;simp at hc
   refine Qa ?_
   simp only[go_sem,hx4,Qgz]
   intro H3 h3
   have kn:=kn.stL 0 rfl h3
   have hx4:=kn.l 0 rfl
   simp only[go_sem,Qe6]
   refine Qk ?_
   simp only[go_sem,X.next,Q4,Q7,Qfk,List.forall_mem_cons,List.not_mem_nil,RS.op,hx4]
   have hK:=hK _ kn.fin
   have e:Qpk cs true=[]:=by simp[Qpk,hc]
   rw[e,hc]at hK
   exact⟨fun _=>trivial,_,Qj6 (FrzL.ag (.cons FrzR.nil.sl .nil)) (.c _ _ (Qd rfl)),hK⟩
  ·intro hc
   have hc:Qb0 cs=true:=by cases h:Qb0 cs with
    |true=>rfl
    |false=>rw[h]at hc;simp at hc
   refine Qh ?_
   try simp only[go_sem]
   refine Qa ?_
   simp only[go_sem,hx4]
   intro H3 h3
   have kn:=kn.stL 0 rfl h3
   have hx4:=kn.l 0 rfl
   simp only[go_sem,Qls]
   refine Qk ?_
   simp only[go_sem,X.next,Q4,Q7,Qfk,List.forall_mem_cons,List.not_mem_nil,RS.op,hx4]
   have hK:=hK _ kn.fin
   have e:Qpk cs true=cs:=by simp[Qpk,hc]
   rw[e,hc]at hK
   exact⟨fun _=>trivial,_,Qj6 (FrzL.ag (.cons (FrzR.same (Qa4 _)).sl .nil)) (.c _ _ (Qd rfl)),hK⟩
end Go.AE.Y

namespace Go.AE.Y
attribute [local go_sem] cond_true cond_false Bool.not_true Bool.not_false
attribute [local instance] Classical.propDecidable
open Go.Proofs.Tryz
variable {H H0:Heap}{K:V→Heap→Prop}{fl:Bool}
noncomputable def splL (cs:List CodeD):List CodeD:=Qpk (perL spD cs) (Qb0 cs)
noncomputable def splB (cs:List CodeD):Bool:=Qb0 cs&&Qb0 (perL spD cs)
theorem Qj7 {cs:List CodeD}(hfit:∀c∈cs,c.fits)(hK:∀H',Upd H H' []→K (.tup [.ag [.sl false 3 (Qj (splL cs))],.c (.bool (splB cs))]) H') :
  Qp prog Qb7 [.ag [.sl fl 3 (Qj cs)]] H K:=by
 refine Qu ?_
 refine Qb Qai Qaav ?_
 refine Qa ?_
 simp only[go_sem]
 intro x2 hx2 H1 h1
 have kn:=(Kn.start0 H).al hx2 h1
 simp only[go_sem,Qjg]
 refine Qa ?_
 simp only[go_sem]
 refine Qa6l (f:=spD) hfit (fun hg p hp H K fl hK=>?_) fun H2 hu=>?_
 ·obtain⟨i,hi,rfl⟩:=List.mem_iff_getElem.1 hp
  exact Qa3z (Qnt hg hi) hK
 have kn:=kn.call0 hu
 simp only[go_sem,Qjj,List.getD_cons_zero,List.getD_cons_succ]
 refine Qay4 (Qaa4 (f:=spD) hfit fun c h=>Qa3y h) fun H3 hu=>?_
 have kn:=kn.call0 hu
 have hx2:=kn.l 0 rfl
 simp only[go_sem,Qji,hx2,List.getD_cons_zero,List.getD_cons_succ]
 intro H4 h4
 have kn:=kn.stL 0 rfl h4
 have hx2:=kn.l 0 rfl
 simp only[go_sem,Qjh]
 refine Qk ?_
 simp only[go_sem,X.next,Q4,Q7,Qre,List.forall_mem_cons,List.not_mem_nil,RS.op,hx2]
 exact⟨fun _=>trivial,_,Qj6 (Q19 _) (.c _ _ (Qd rfl)),hK _ kn.fin⟩
end Go.AE.Y

namespace Go.AE.Y
attribute [local go_sem] cond_true cond_false Bool.not_true Bool.not_false
attribute [local instance] Classical.propDecidable
open Go.Proofs.Tryz
variable {H H0:Heap}{K:V→Heap→Prop}{fl:Bool}
set_option maxHeartbeats 4000000 in
theorem Qa52 {cs:List CodeD}{pass:List UInt8}{f:CodeD→CodeD}(hfit:∀c∈cs,c.fits)(hff:∀c∈perL f cs,c.fits)
  (hf:Qb0 cs=true→∀p∈cs,∀(H:Heap) (K:V→Heap→Prop),(∀H',Upd H H' []→K (.ag (f p).cells) H')→Qp prog Qu0 [.ag [.int .i64 p.params,.int .i64 p.regs,.sl false 5 (Qn p.blocks)],.c (.str pass)] H K)
  (hK:∀H',Upd H H' []→K (.tup [.ag [.sl false 3 (Qj (Qpk (perL f cs) (Qb0 cs)))],.c (.bool (Qb0 cs&&Qb0 (perL f cs)))]) H') :
  Qp prog Q2j [.ag [.sl fl 3 (Qj cs)],.c (.str pass)] H K:=by
 refine Qu ?_
 refine Qb Qai Qbat ?_
 refine Qa ?_
 simp only[go_sem]
 intro x4 hx4 H1 h1
 have kn:=(Kn.start0 H).al hx4 h1
 simp only[go_sem,Q5h]
 refine Q5 ?_
 refine Qa ?_
 simp only[go_sem]
 refine Qqs hfit fun H2 hu=>?_
 have kn:=kn.call0 hu
 simp only[go_sem,Q5i]
 refine Qi (Qe rfl ?_ ?_)
 ·intro hc
  have hc:Qb0 cs=false:=Qvh hc
  have hx4:=kn.l 0 rfl
  refine Qa ?_
  simp only[go_sem,hx4]
  intro H3 h3
  have kn:=kn.stL 0 rfl h3
  have hx4:=kn.l 0 rfl
  simp only[go_sem,Q5j]
  refine Qk ?_
  simp only[go_sem,X.next,Q4,Q7,Q0d,List.forall_mem_cons,List.not_mem_nil,RS.op,hx4]
  have hK:=hK _ kn.fin
  have eo:Qpk (perL f cs) false=[]:=by simp[Qpk]
  rw[hc,eo]at hK
  exact⟨fun _=>trivial,_,Qj6 (FrzL.ag (.cons (FrzR.nil.sl) .nil)) (.c _ _ (Qd rfl)),hK⟩
 ·intro hc
  have hG:Qb0 cs=true:=Qht hc
  refine Qh ?_
  try simp only[go_sem]
  refine Qa ?_
  simp only[go_sem]
  intro x6 hx6 H3 h3
  have kn:=kn.al hx6 h3
  have hx6:=kn.l 1 rfl
  simp only[go_sem,Q5k,hx6]
  intro H4 h4
  have kn:Kn H H4 [] [(x4,.st [.sl true 3 []]),(x6,.st [.sl true 3 []])]:=kn.stL 1 rfl h4
  refine Q5 ?_
  refine Qa ?_
  simp only[go_sem]
  have hcl:=(Qa49 hfit hG).1
  refine Qi (Qf (Qx (fun m e1 H1=>∃(ds:List CodeD) (t:C) (Lg:List (Nat×Obj)),m=cs.length-ds.length∧ds.length≤cs.length∧ds=(cs.take ds.length).map f∧Gr Lg 3 (Qj ds) t∧Kn H H1 [] ([(x4,.st [.sl true 3 []]),(x6,.st [t])]++Lg)∧
   lk 1 e1=.c (.str pass)∧lk 2 e1=.c (.pp [.sl fl 3 (Qj cs)])∧lk 4 e1=.c (.ptr x4 0)∧lk 6 e1=.c (.ptr x6 0)∧lk 7 e1=.c (.int .i64 ds.length)) cs.length ?_ ?_))
  ·exact⟨[],_,[],by simp,by simp,by simp,.nil 3,by simpa using kn,rfl,rfl,rfl,rfl,rfl⟩
  ·clear kn hx6
   rintro m e1 H5 ⟨ds,t,Lg,hm,hdl,hds,hgr,kn,l1,l2,l4,l6,l7⟩
   have htw:=hgr.isOw
   refine Q5 ?_
   refine Qa ?_
   simp only[go_sem,l1,l2,l4,l6,l7,Qq]
   try intro _
   refine Qi (Qe rfl ?_ ?_)
   ·intro hc2
    have hlt:ds.length<cs.length:=by simpa using hc2
    have hx6:=kn.l 1 rfl
    obtain⟨q,hq⟩:∃q,cs[ds.length]=q:=⟨_,rfl⟩
    have hqm:q∈cs:=by rw[←hq];exact List.getElem_mem hlt
    refine Qh ?_
    try simp only[go_sem]
    refine Qi (Qf ?_)
    refine Qb5 ?_
    simp only[go_sem,l1,l2,l4,l6,l7,hx6,htw,hlt,Qq,Q3 _ _ hlt,CodeD.cells,hq]
    refine hf hG q hqm _ _ fun H6 hu=>?_
    obtain⟨d,hd⟩:∃d,f q=d:=⟨_,rfl⟩
    rw[hd]
    have kn:=kn.call0 hu
    have hx6:=kn.l 1 rfl
    simp only[go_sem,Q5m,CodeD.cells,hx6,htw]
    refine kn.growR (new:=Qj [d]) hgr (.mk' _ _ _ _) (Qa4 _) (by simp only[Qq,LIM,List.length_cons,List.length_nil];omega) fun t2 Lg2 H7 hgr2 ht2 kn=>?_
    have hx6:=kn.l 1 rfl
    simp only[go_sem,Q5l,hx6,ht2]
    intro H8 h8
    have kn:=kn.stL 1 rfl h8
    refine Qv ?_
    simp only[go_sem,l1,l2,l4,l6,l7]
    refine⟨Qr (by omega) (by omega),?_⟩
    show ∃m,_
    refine⟨cs.length-(ds.length+1),by omega,ds++[d],t2,Lg2,by simp,by simp only[List.length_append,List.length_cons,List.length_nil];omega,?_,?_,kn,rfl,rfl,rfl,rfl,by simp[lk]⟩
    ·have e:(ds++[d]).length=ds.length+1:=by simp
     rw[e,List.take_succ_eq_append_getElem hlt,List.map_append,←hds,hq,List.map_cons,List.map_nil,hd]
    ·have:Qj (ds++[d])=Qj ds++Qj [d]:=by simp[Qj]
     rw[this];exact hgr2
   ·intro hcx
    have hdl2:ds.length=cs.length:=by have:cs.length≤ds.length:=(by simpa using hcx);omega
    rw[hdl2,List.take_length]at hds
    have hdp:perL f cs=ds:=by rw[perL,if_pos hG,←hds]
    rw[hG,hdp]at hK
    rw[hdp]at hff
    refine Qw ?_
    simp only[go_sem,X.next]
    have hx6:=kn.l 1 rfl
    obtain⟨S,hSL,hSB,hfz,kn⟩:=kn.freeze0
    have hx6b:=hSB (x6,.st [t]) (by simp)
    have hft:FrzC H5 S t (.sl false 3 (Qj ds)):=Gr.frzM hgr hSL (FrzR.same (Qa4 _))
    have kn:=kn.setL (o':=.st [.sl false 3 (Qj ds)]) 1 rfl (by simp)
    refine c_gh (Qez S (Qao0 ?_) (hfz.set (o:=.st [.sl false 3 (Qj ds)]) hx6b.2 (by rw[hx6b.1];exact FrzKL.st (.cons htw hft .nil)))) (e':=[(4,.c (.ptr x4 0)),(6,.c (.ptr x6 0))]) ?_
    ·simp only[List.forall_mem_cons]
     exact⟨.c _ _ (.same _ rfl),.c _ _ (.same _ rfl),by simp⟩
    generalize (H5.frz S).set x6 (Obj.st [C.sl false 3 (Qj ds)])=H6 at *
    have hx6:=kn.l 1 rfl
    have hx4:=kn.l 0 rfl
    clear hfz hx6b hft hSL hSB
    refine Q5 ?_
    refine Qa ?_
    simp only[go_sem,hx6]
    refine Qqs hff fun H7 hu=>?_
    have kn:=kn.call0 hu
    have hx6:=kn.l 1 rfl
    have hx4:=kn.l 0 rfl
    simp only[go_sem,Q06]
    refine Qi (Qe rfl ?_ ?_)
    ·intro hc3
     have hG2:Qb0 ds=false:=Qvh hc3
     refine Qa ?_
     simp only[go_sem,hx4]
     intro H8 h8
     have kn:=kn.stL 0 rfl h8
     have hx4:=kn.l 0 rfl
     simp only[go_sem,Q07]
     refine Qk ?_
     simp only[go_sem,X.next,Q4,Q7,Q0d,List.forall_mem_cons,List.not_mem_nil,RS.op,hx4]
     have hK:=hK _ kn.fin
     have eo:Qpk ds true=[]:=by simp[Qpk,hG2]
     rw[hG2,eo]at hK
     exact⟨fun _=>trivial,_,Qj6 (FrzL.ag (.cons (FrzR.nil.sl) .nil)) (.c _ _ (Qd rfl)),hK⟩
    ·intro hc3
     have hG2:Qb0 ds=true:=Qht hc3
     refine Qh ?_
     try simp only[go_sem]
     refine Qa ?_
     simp only[go_sem,hx6,hx4]
     intro H8 h8
     have kn:=kn.stL 0 rfl h8
     have hx4:=kn.l 0 rfl
     simp only[go_sem,Q08]
     refine Qk ?_
     simp only[go_sem,X.next,Q4,Q7,Q0d,List.forall_mem_cons,List.not_mem_nil,RS.op,hx4]
     have hK:=hK _ kn.fin
     have eo:Qpk ds true=ds:=by simp[Qpk,hG2]
     rw[hG2,eo]at hK
     exact⟨fun _=>trivial,_,Qj6 (Q19 ds) (.c _ _ (Qd rfl)),hK⟩
theorem Qya {cs:List CodeD}{fl:Bool}(hfit:∀c∈cs,c.fits)(hK:∀H',Upd H H' []→K (.tup [.ag [.sl false 3 (Qj (splL cs))],.c (.bool (splB cs))]) H') :
  Qp prog Qde [.ag [.sl fl 3 (Qj cs)]] H K:=by
 refine Qu ?_
 refine Qb Qai Qaaz ?_
 refine Qa ?_
 simp only[go_sem]
 intro x2 hx2 H1 h1
 have kn:=(Kn.start0 H).al hx2 h1
 simp only[go_sem,Qjw]
 refine Qa ?_
 simp only[go_sem]
 refine Qa52 (f:=spD) hfit (Qaa4 (f:=spD) hfit fun c h=>Qa3y h) (fun hg p hp H K hK=>?_) fun H2 hu=>?_
 ·obtain⟨i,hi,rfl⟩:=List.mem_iff_getElem.1 hp
  exact Qa55 (Qnt hg hi) hK
 have kn:=kn.call0 hu
 have hx2:=kn.l 0 rfl
 simp only[go_sem,Qjy,List.getD_cons_zero,List.getD_cons_succ,hx2]
 intro H3 h3
 have kn:=kn.stL 0 rfl h3
 have hx2:=kn.l 0 rfl
 simp only[go_sem,Qjx]
 refine Qk ?_
 simp only[go_sem,Q4,Q7,Qrl,List.forall_mem_cons,List.not_mem_nil,RS.op,hx2]
 exact⟨fun _=>trivial,_,Qj6 (Q19 _) (.c _ _ (Qd rfl)),hK _ kn.fin⟩
end Go.AE.Y

namespace Go.AE.Y
attribute [local go_sem] cond_true cond_false Bool.not_true Bool.not_false
open Go.Proofs.Tryz
variable {H H0:Heap}{K:V→Heap→Prop}
theorem Qahn {f g:Bool}{ns:List Int}(hK:K (.c (.bool true)) H):Qp prog Qho [.c (.sl f 1 (Qg ns)),.c (.sl g 1 (Qg ns))] H K:=by
 refine Qb Qai Qa6f ?_
 refine Qa ?_
 simp only[go_sem]
 refine Q5 ?_
 refine Qa ?_
 simp only[go_sem,Qc,decide_true]
 intro hl
 try intro _
 simp only[LIM]at hl
 refine Qi (Qe rfl ?_ ?_)
 ·intro h;simp at h
 intro _
 refine Qh ?_
 try simp only[go_sem]
 refine Q5 ?_
 refine Qa ?_
 simp only[go_sem,Qc]
 try intro _
 refine Qi (Qf (Qx (fun m e1 H1=>∃(i:Nat),m=ns.length-i∧i≤ns.length∧H1=H∧lk 0 e1=.c (.sl f 1 (Qg ns))∧lk 1 e1=.c (.sl g 1 (Qg ns))∧lk 12 e1=.c (.int .i64 ns.length)∧lk 13 e1=.c (.int .i64 i)) ns.length ?_ ?_))
 ·exact⟨0,by omega,by omega,rfl,rfl,rfl,rfl,rfl⟩
 ·rintro m e1 H1 ⟨i,hm,hi,rfl,l0,l1,l12,l13⟩
  refine Qa ?_
  simp only[go_sem,l0,l1,l12,l13]
  refine Qi (Qe rfl ?_ ?_)
  ·intro hc
   have hlt:i<ns.length:=by simpa using hc
   refine Qh ?_
   try simp only[go_sem]
   refine Qi (Qf ?_)
   refine Qa ?_
   simp only[go_sem,l0,l1,l12,l13]
   refine Qae ?_
   simp only[go_sem,l0,l1,l12,l13,hlt,Qc,Qs _ _ hlt,decide_true]
   refine Qe rfl ?_ ?_
   ·intro h;simp at h
   intro _
   refine Qh ?_
   try simp only[go_sem]
   refine Qv ?_
   simp only[go_sem,l0,l1,l12,l13]
   refine⟨Qr (by omega) (by omega),?_⟩
   show ∃m,_
   exact⟨ns.length-(i+1),by omega,i+1,rfl,by omega,rfl,rfl,rfl,rfl,rfl⟩
  ·intro hc
   refine Qw ?_
   simp only[go_sem,X.next]
   refine Qa ?_
   simp only[go_sem]
   refine Qk ?_
   simp only[go_sem,Q4,Q7,Qan8,List.mem_singleton,forall_eq,RS.op]
   exact hK
theorem Qao6 {f g:Bool}{ns:List Int}(hK:K (.c (.bool true)) H):Qp prog Qqy [.c (.sl f 1 (Qg ns)),.c (.sl g 1 (Qg ns))] H K:=by
 refine Qb Qai Qbfl ?_
 refine Qa ?_
 simp only[go_sem]
 refine Q5 ?_
 refine Qa ?_
 simp only[go_sem,Qc,decide_true]
 intro hl
 try intro _
 simp only[LIM]at hl
 refine Qi (Qe rfl ?_ ?_)
 ·intro h;simp at h
 intro _
 refine Qh ?_
 try simp only[go_sem]
 refine Q5 ?_
 refine Qa ?_
 simp only[go_sem,Qc]
 try intro _
 refine Qi (Qf (Qx (fun m e1 H1=>∃(i:Nat),m=ns.length-i∧i≤ns.length∧H1=H∧lk 0 e1=.c (.sl f 1 (Qg ns))∧lk 1 e1=.c (.sl g 1 (Qg ns))∧lk 5 e1=.c (.int .i64 i)) ns.length ?_ ?_))
 ·exact⟨0,by omega,by omega,rfl,rfl,rfl,rfl⟩
 ·rintro m e1 H1 ⟨i,hm,hi,rfl,l0,l1,l5⟩
  refine Q5 ?_
  refine Qa ?_
  simp only[go_sem,l0,l1,l5,Qc]
  try intro _
  refine Qi (Qe rfl ?_ ?_)
  ·intro hc
   have hlt:i<ns.length:=by simpa using hc
   refine Qh ?_
   try simp only[go_sem]
   refine Qi (Qf ?_)
   refine Qae ?_
   simp only[go_sem,l0,l1,l5,hlt,Qc,Qs _ _ hlt,decide_true]
   refine Qe rfl ?_ ?_
   ·intro h;simp at h
   intro _
   refine Qh ?_
   try simp only[go_sem]
   refine Qv ?_
   simp only[go_sem,l0,l1,l5]
   refine⟨Qr (by omega) (by omega),?_⟩
   show ∃m,_
   exact⟨ns.length-(i+1),by omega,i+1,rfl,by omega,rfl,rfl,rfl,rfl⟩
  ·intro hc
   refine Qw ?_
   simp only[go_sem,X.next]
   refine Qa ?_
   simp only[go_sem]
   refine Qk ?_
   simp only[go_sem,Q4,Q7,Qa4t,List.mem_singleton,forall_eq,RS.op]
   exact hK
set_option maxHeartbeats 1000000 in
theorem Qbdb {p:PhiD}(hK:∀H',Upd H H' []→K (.c (.bool true)) H'):Qp prog Qd1 [.ag p.cells,.ag p.cells] H K:=by
 refine Qu ?_
 refine Qb Qai Qati ?_
 have kn:=Kn.start0 H
 refine Qa ?_
 simp only[go_sem,PhiD.cells]
 refine Qa ?_
 simp only[go_sem,decide_true]
 refine Qahn ?_
 simp only[go_sem,Qss,decide_true]
 refine Qk ?_
 simp only[go_sem,Q4,Q7,Q43,List.mem_singleton,forall_eq,RS.op]
 exact⟨_,.c _ _ (Qd rfl),hK _ kn.fin⟩
set_option maxHeartbeats 2000000 in
theorem Qbeg {f g:Bool}{l:List PhiD}(hK:∀H',Upd H H' []→K (.c (.bool true)) H'):Qp prog Qdj [.c (.sl f 2 (Q0 l)),.c (.sl g 2 (Q0 l)),.c (.fn Qd1 [])] H K:=by
 refine Qu ?_
 refine Qb Qai Qz4 ?_
 refine Qa ?_
 simp only[go_sem]
 refine Q5 ?_
 refine Qa ?_
 simp only[go_sem,Qy,decide_true]
 intro hl
 try intro _
 simp only[LIM]at hl
 refine Qi (Qe rfl ?_ ?_)
 ·intro h;simp at h
 intro _
 refine Qh ?_
 try simp only[go_sem]
 refine Q5 ?_
 refine Qa ?_
 simp only[go_sem,Qy]
 try intro _
 refine Qi (Qf (Qx (fun m e1 H1=>∃(i:Nat),m=l.length-i∧i≤l.length∧Kn H H1 [] []∧lk 1 e1=.c (.sl g 2 (Q0 l))∧lk 2 e1=.c (.fn Qd1 [])∧lk 15 e1=.c (.sl f 2 (Q0 l))∧lk 16 e1=.c (.int .i64 l.length)∧lk 17 e1=.c (.int .i64 i)) l.length ?_ ?_))
 ·exact⟨0,by omega,by omega,.start0 H,rfl,rfl,rfl,rfl,rfl⟩
 ·rintro m e1 H1 ⟨i,hm,hi,kn,l1,l2,l15,l16,l17⟩
  refine Qa ?_
  simp only[go_sem,l1,l2,l15,l16,l17]
  refine Qi (Qe rfl ?_ ?_)
  ·intro hc
   have hlt:i<l.length:=by simpa using hc
   obtain⟨p,hp⟩:∃p,l[i]=p:=⟨_,rfl⟩
   refine Qh ?_
   try simp only[go_sem]
   refine Qi (Qf ?_)
   refine Qa ?_
   simp only[go_sem,l1,l2,l15,l16,l17,hlt,Qy,Qax _ _ hlt,hp,PhiD.cells]
   intro x8 hx8 H2 h2
   have kn:=kn.al hx8 h2
   have hx8:=kn.l 0 rfl
   simp only[go_sem,Qf9,hx8]
   intro H3 h3
   have kn:Kn H H3 [] [(x8,.st p.cells)]:=kn.stL 0 rfl h3
   refine Qa ?_
   simp only[go_sem,l1,l2,l15,l16,l17,hlt,Qy,Qax _ _ hlt,hp,PhiD.cells]
   intro x9 hx9 H4 h4
   have kn:=kn.al hx9 h4
   have hx9:=kn.l 1 rfl
   simp only[go_sem,Qga,hx9]
   intro H5 h5
   have kn:Kn H H5 [] [(x8,.st p.cells),(x9,.st p.cells)]:=kn.stL 1 rfl h5
   have hx8:H5 x8=.st p.cells:=kn.l 0 rfl
   have hx9:H5 x9=.st p.cells:=kn.l 1 rfl
   refine Qa ?_
   simp only[go_sem,hx8,hx9,PhiD.cells,List.append_nil,List.map_nil]
   refine Qbdb (p:=p) fun H6 hu=>?_
   have kn:=kn.call0 hu
   simp only[go_sem,Qgb]
   refine Qe rfl ?_ ?_
   ·intro h;simp at h
   intro _
   refine Qh ?_
   try simp only[go_sem]
   refine Qv ?_
   simp only[go_sem,l1,l2,l15,l16,l17]
   refine⟨Qr (by omega) (by omega),?_⟩
   show ∃m,_
   exact⟨l.length-(i+1),by omega,i+1,rfl,by omega,Kn.drop (A:=[]) (B:=[(x8,_),(x9,_)]) kn,rfl,rfl,rfl,rfl,rfl⟩
  ·intro hc
   refine Qw ?_
   simp only[go_sem,X.next]
   refine Qa ?_
   simp only[go_sem]
   refine Qk ?_
   simp only[go_sem,Q4,Q7,Qje,List.mem_singleton,forall_eq,RS.op]
   exact⟨_,.c _ _ (Qd rfl),hK _ kn.fin⟩
set_option maxHeartbeats 1000000 in
theorem Qbda {p:InsD}(hK:∀H',Upd H H' []→K (.c (.bool true)) H'):Qp prog Qd0 [.ag p.cells,.ag p.cells] H K:=by
 refine Qu ?_
 refine Qb Qai Qath ?_
 have kn:=Kn.start0 H
 refine Qa ?_
 simp only[go_sem,InsD.cells]
 refine Qa ?_
 simp only[go_sem,decide_true]
 refine Qahn ?_
 simp only[go_sem,Qsr,decide_true]
 refine Qk ?_
 simp only[go_sem,Q4,Q7,Q42,List.mem_singleton,forall_eq,RS.op]
 exact⟨_,.c _ _ (Qd rfl),hK _ kn.fin⟩
set_option maxHeartbeats 2000000 in
theorem Qbef {f g:Bool}{l:List InsD}(hK:∀H',Upd H H' []→K (.c (.bool true)) H'):Qp prog Qdi [.c (.sl f 4 (Qa1 l)),.c (.sl g 4 (Qa1 l)),.c (.fn Qd0 [])] H K:=by
 refine Qu ?_
 refine Qb Qai Qz3 ?_
 refine Qa ?_
 simp only[go_sem]
 refine Q5 ?_
 refine Qa ?_
 simp only[go_sem,Qar,decide_true]
 intro hl
 try intro _
 simp only[LIM]at hl
 refine Qi (Qe rfl ?_ ?_)
 ·intro h;simp at h
 intro _
 refine Qh ?_
 try simp only[go_sem]
 refine Q5 ?_
 refine Qa ?_
 simp only[go_sem,Qar]
 try intro _
 refine Qi (Qf (Qx (fun m e1 H1=>∃(i:Nat),m=l.length-i∧i≤l.length∧Kn H H1 [] []∧lk 1 e1=.c (.sl g 4 (Qa1 l))∧lk 2 e1=.c (.fn Qd0 [])∧lk 15 e1=.c (.sl f 4 (Qa1 l))∧lk 16 e1=.c (.int .i64 l.length)∧lk 17 e1=.c (.int .i64 i)) l.length ?_ ?_))
 ·exact⟨0,by omega,by omega,.start0 H,rfl,rfl,rfl,rfl,rfl⟩
 ·rintro m e1 H1 ⟨i,hm,hi,kn,l1,l2,l15,l16,l17⟩
  refine Qa ?_
  simp only[go_sem,l1,l2,l15,l16,l17]
  refine Qi (Qe rfl ?_ ?_)
  ·intro hc
   have hlt:i<l.length:=by simpa using hc
   obtain⟨p,hp⟩:∃p,l[i]=p:=⟨_,rfl⟩
   refine Qh ?_
   try simp only[go_sem]
   refine Qi (Qf ?_)
   refine Qa ?_
   simp only[go_sem,l1,l2,l15,l16,l17,hlt,Qar,Qdp _ _ hlt,hp,InsD.cells]
   intro x8 hx8 H2 h2
   have kn:=kn.al hx8 h2
   have hx8:=kn.l 0 rfl
   simp only[go_sem,Qf6,hx8]
   intro H3 h3
   have kn:Kn H H3 [] [(x8,.st p.cells)]:=kn.stL 0 rfl h3
   refine Qa ?_
   simp only[go_sem,l1,l2,l15,l16,l17,hlt,Qar,Qdp _ _ hlt,hp,InsD.cells]
   intro x9 hx9 H4 h4
   have kn:=kn.al hx9 h4
   have hx9:=kn.l 1 rfl
   simp only[go_sem,Qf7,hx9]
   intro H5 h5
   have kn:Kn H H5 [] [(x8,.st p.cells),(x9,.st p.cells)]:=kn.stL 1 rfl h5
   have hx8:H5 x8=.st p.cells:=kn.l 0 rfl
   have hx9:H5 x9=.st p.cells:=kn.l 1 rfl
   refine Qa ?_
   simp only[go_sem,hx8,hx9,InsD.cells,List.append_nil,List.map_nil]
   refine Qbda (p:=p) fun H6 hu=>?_
   have kn:=kn.call0 hu
   simp only[go_sem,Qf8]
   refine Qe rfl ?_ ?_
   ·intro h;simp at h
   intro _
   refine Qh ?_
   try simp only[go_sem]
   refine Qv ?_
   simp only[go_sem,l1,l2,l15,l16,l17]
   refine⟨Qr (by omega) (by omega),?_⟩
   show ∃m,_
   exact⟨l.length-(i+1),by omega,i+1,rfl,by omega,Kn.drop (A:=[]) (B:=[(x8,_),(x9,_)]) kn,rfl,rfl,rfl,rfl,rfl⟩
  ·intro hc
   refine Qw ?_
   simp only[go_sem,X.next]
   refine Qa ?_
   simp only[go_sem]
   refine Qk ?_
   simp only[go_sem,Q4,Q7,Qjd,List.mem_singleton,forall_eq,RS.op]
   exact⟨_,.c _ _ (Qd rfl),hK _ kn.fin⟩
set_option maxHeartbeats 1000000 in
theorem Qa3w {p:BlkD}(hK:∀H',Upd H H' []→K (.c (.bool true)) H'):Qp prog Qce [.ag p.cells,.ag p.cells] H K:=by
 refine Qu ?_
 refine Qb Qai Qaia ?_
 have kn:=Kn.start0 H
 refine Qa ?_
 simp only[go_sem,BlkD.cells]
 refine Qa ?_
 simp only[go_sem,decide_true]
 refine Qahn ?_
 simp only[go_sem,Qlv,decide_true]
 refine Qbeg fun H1 hu=>?_
 have kn:=kn.call0 hu
 simp only[go_sem,Qlu,decide_true]
 refine Qbef fun H1 hu=>?_
 have kn:=kn.call0 hu
 simp only[go_sem,Qlt,decide_true]
 refine Qk ?_
 simp only[go_sem,Q4,Q7,Qwu,List.mem_singleton,forall_eq,RS.op]
 exact⟨_,.c _ _ (Qd rfl),hK _ kn.fin⟩
set_option maxHeartbeats 2000000 in
theorem Qa5n {f g:Bool}{l:List BlkD}(hK:∀H',Upd H H' []→K (.c (.bool true)) H'):Qp prog Qcg [.c (.sl f 5 (Qn l)),.c (.sl g 5 (Qn l)),.c (.fn Qce [])] H K:=by
 refine Qu ?_
 refine Qb Qai Qvf ?_
 refine Qa ?_
 simp only[go_sem]
 refine Q5 ?_
 refine Qa ?_
 simp only[go_sem,Ql,decide_true]
 intro hl
 try intro _
 simp only[LIM]at hl
 refine Qi (Qe rfl ?_ ?_)
 ·intro h;simp at h
 intro _
 refine Qh ?_
 try simp only[go_sem]
 refine Q5 ?_
 refine Qa ?_
 simp only[go_sem,Ql]
 try intro _
 refine Qi (Qf (Qx (fun m e1 H1=>∃(i:Nat),m=l.length-i∧i≤l.length∧Kn H H1 [] []∧lk 1 e1=.c (.sl g 5 (Qn l))∧lk 2 e1=.c (.fn Qce [])∧lk 15 e1=.c (.sl f 5 (Qn l))∧lk 16 e1=.c (.int .i64 l.length)∧lk 17 e1=.c (.int .i64 i)) l.length ?_ ?_))
 ·exact⟨0,by omega,by omega,.start0 H,rfl,rfl,rfl,rfl,rfl⟩
 ·rintro m e1 H1 ⟨i,hm,hi,kn,l1,l2,l15,l16,l17⟩
  refine Qa ?_
  simp only[go_sem,l1,l2,l15,l16,l17]
  refine Qi (Qe rfl ?_ ?_)
  ·intro hc
   have hlt:i<l.length:=by simpa using hc
   obtain⟨p,hp⟩:∃p,l[i]=p:=⟨_,rfl⟩
   refine Qh ?_
   try simp only[go_sem]
   refine Qi (Qf ?_)
   refine Qa ?_
   simp only[go_sem,l1,l2,l15,l16,l17,hlt,Ql,Qak _ _ hlt,hp,BlkD.cells]
   intro x8 hx8 H2 h2
   have kn:=kn.al hx8 h2
   have hx8:=kn.l 0 rfl
   simp only[go_sem,Qec,hx8]
   intro H3 h3
   have kn:Kn H H3 [] [(x8,.st p.cells)]:=kn.stL 0 rfl h3
   refine Qa ?_
   simp only[go_sem,l1,l2,l15,l16,l17,hlt,Ql,Qak _ _ hlt,hp,BlkD.cells]
   intro x9 hx9 H4 h4
   have kn:=kn.al hx9 h4
   have hx9:=kn.l 1 rfl
   simp only[go_sem,Qed,hx9]
   intro H5 h5
   have kn:Kn H H5 [] [(x8,.st p.cells),(x9,.st p.cells)]:=kn.stL 1 rfl h5
   have hx8:H5 x8=.st p.cells:=kn.l 0 rfl
   have hx9:H5 x9=.st p.cells:=kn.l 1 rfl
   refine Qa ?_
   simp only[go_sem,hx8,hx9,BlkD.cells,List.append_nil,List.map_nil]
   refine Qa3w (p:=p) fun H6 hu=>?_
   have kn:=kn.call0 hu
   simp only[go_sem,Qee]
   refine Qe rfl ?_ ?_
   ·intro h;simp at h
   intro _
   refine Qh ?_
   try simp only[go_sem]
   refine Qv ?_
   simp only[go_sem,l1,l2,l15,l16,l17]
   refine⟨Qr (by omega) (by omega),?_⟩
   show ∃m,_
   exact⟨l.length-(i+1),by omega,i+1,rfl,by omega,Kn.drop (A:=[]) (B:=[(x8,_),(x9,_)]) kn,rfl,rfl,rfl,rfl,rfl⟩
  ·intro hc
   refine Qw ?_
   simp only[go_sem,X.next]
   refine Qa ?_
   simp only[go_sem]
   refine Qk ?_
   simp only[go_sem,Q4,Q7,Qge,List.mem_singleton,forall_eq,RS.op]
   exact⟨_,.c _ _ (Qd rfl),hK _ kn.fin⟩
set_option maxHeartbeats 1000000 in
theorem Qa81 {p:CodeD}(hK:∀H',Upd H H' []→K (.c (.bool true)) H'):Qp prog Qc7 [.ag p.cells,.ag p.cells] H K:=by
 refine Qu ?_
 refine Qb Qai Qapg ?_
 have kn:=Kn.start0 H
 refine Qa ?_
 simp only[go_sem,CodeD.cells]
 refine Qa ?_
 simp only[go_sem,decide_true]
 refine Qa5n fun H1 hu=>?_
 have kn:=kn.call0 hu
 simp only[go_sem,Qoa,decide_true]
 refine Qk ?_
 simp only[go_sem,Q4,Q7,Q0c,List.mem_singleton,forall_eq,RS.op]
 exact⟨_,.c _ _ (Qd rfl),hK _ kn.fin⟩
set_option maxHeartbeats 2000000 in
theorem Qa9t {f g:Bool}{l:List CodeD}(hK:∀H',Upd H H' []→K (.c (.bool true)) H'):Qp prog Qc1 [.c (.sl f 3 (Qj l)),.c (.sl g 3 (Qj l)),.c (.fn Qc7 [])] H K:=by
 refine Qu ?_
 refine Qb Qai Qyp ?_
 refine Qa ?_
 simp only[go_sem]
 refine Q5 ?_
 refine Qa ?_
 simp only[go_sem,Qq,decide_true]
 intro hl
 try intro _
 simp only[LIM]at hl
 refine Qi (Qe rfl ?_ ?_)
 ·intro h;simp at h
 intro _
 refine Qh ?_
 try simp only[go_sem]
 refine Q5 ?_
 refine Qa ?_
 simp only[go_sem,Qq]
 try intro _
 refine Qi (Qf (Qx (fun m e1 H1=>∃(i:Nat),m=l.length-i∧i≤l.length∧Kn H H1 [] []∧lk 1 e1=.c (.sl g 3 (Qj l))∧lk 2 e1=.c (.fn Qc7 [])∧lk 15 e1=.c (.sl f 3 (Qj l))∧lk 16 e1=.c (.int .i64 l.length)∧lk 17 e1=.c (.int .i64 i)) l.length ?_ ?_))
 ·exact⟨0,by omega,by omega,.start0 H,rfl,rfl,rfl,rfl,rfl⟩
 ·rintro m e1 H1 ⟨i,hm,hi,kn,l1,l2,l15,l16,l17⟩
  refine Qa ?_
  simp only[go_sem,l1,l2,l15,l16,l17]
  refine Qi (Qe rfl ?_ ?_)
  ·intro hc
   have hlt:i<l.length:=by simpa using hc
   obtain⟨p,hp⟩:∃p,l[i]=p:=⟨_,rfl⟩
   refine Qh ?_
   try simp only[go_sem]
   refine Qi (Qf ?_)
   refine Qa ?_
   simp only[go_sem,l1,l2,l15,l16,l17,hlt,Qq,Q3 _ _ hlt,hp,CodeD.cells]
   intro x8 hx8 H2 h2
   have kn:=kn.al hx8 h2
   have hx8:=kn.l 0 rfl
   simp only[go_sem,Qer,hx8]
   intro H3 h3
   have kn:Kn H H3 [] [(x8,.st p.cells)]:=kn.stL 0 rfl h3
   refine Qa ?_
   simp only[go_sem,l1,l2,l15,l16,l17,hlt,Qq,Q3 _ _ hlt,hp,CodeD.cells]
   intro x9 hx9 H4 h4
   have kn:=kn.al hx9 h4
   have hx9:=kn.l 1 rfl
   simp only[go_sem,Qes,hx9]
   intro H5 h5
   have kn:Kn H H5 [] [(x8,.st p.cells),(x9,.st p.cells)]:=kn.stL 1 rfl h5
   have hx8:H5 x8=.st p.cells:=kn.l 0 rfl
   have hx9:H5 x9=.st p.cells:=kn.l 1 rfl
   refine Qa ?_
   simp only[go_sem,hx8,hx9,CodeD.cells,List.append_nil,List.map_nil]
   refine Qa81 (p:=p) fun H6 hu=>?_
   have kn:=kn.call0 hu
   simp only[go_sem,Qet]
   refine Qe rfl ?_ ?_
   ·intro h;simp at h
   intro _
   refine Qh ?_
   try simp only[go_sem]
   refine Qv ?_
   simp only[go_sem,l1,l2,l15,l16,l17]
   refine⟨Qr (by omega) (by omega),?_⟩
   show ∃m,_
   exact⟨l.length-(i+1),by omega,i+1,rfl,by omega,Kn.drop (A:=[]) (B:=[(x8,_),(x9,_)]) kn,rfl,rfl,rfl,rfl,rfl⟩
  ·intro hc
   refine Qw ?_
   simp only[go_sem,X.next]
   refine Qa ?_
   simp only[go_sem]
   refine Qk ?_
   simp only[go_sem,Q4,Q7,Qh1,List.mem_singleton,forall_eq,RS.op]
   exact⟨_,.c _ _ (Qd rfl),hK _ kn.fin⟩
theorem Qao3 {f g:Bool}{cs:List CodeD}(hK:∀H',Upd H H' []→K (.c (.bool true)) H'):Qp prog Qhd [.ag [.sl f 3 (Qj cs)],.ag [.sl g 3 (Qj cs)]] H K:=by
 refine Qu ?_
 refine Qb Qai Qahz ?_
 refine Qa ?_
 simp only[go_sem]
 refine Qa ?_
 simp only[go_sem]
 refine Qa9t fun H1 hu=>?_
 have kn:=(Kn.start0 H).call0 hu
 simp only[go_sem,Qle]
 refine Qk ?_
 simp only[go_sem,Q4,Q7,Qwm,List.mem_singleton,forall_eq,RS.op]
 exact⟨_,.c _ _ (Qd rfl),hK _ kn.fin⟩
set_option maxHeartbeats 4000000 in
theorem Qao8 {p:BlkD}(hK:∀H',Upd H H' []→K (.c (.bool true)) H'):Qp prog Qj3 [.ag p.cells,.ag p.cells] H K:=by
 refine Qu ?_
 refine Qb Qai Qapk ?_
 refine Qa ?_
 simp only[go_sem,BlkD.cells]
 refine Q5 ?_
 refine Qa ?_
 simp only[go_sem,Qy,Qar,decide_true]
 intro hlp hli
 simp only[LIM]at hlp hli
 refine Qao6 ?_
 simp only[go_sem,Qow]
 refine Qi (Qe rfl ?_ ?_)
 ·intro h;simp at h
 intro _
 refine Qh ?_
 try simp only[go_sem]
 refine Q5 ?_
 refine Qa ?_
 simp only[go_sem]
 refine Qi (Qf (Qx (fun m e1 H1=>∃(i:Nat),m=p.phis.length-i∧i≤p.phis.length∧H1=H∧lk 2 e1=.c (.pp p.cells)∧lk 3 e1=.c (.pp p.cells)∧lk 5 e1=.c (.int .i64 i)) p.phis.length ?_ ?_))
 ·exact⟨0,by omega,by omega,rfl,rfl,rfl,rfl⟩
 ·rintro m e1 H1 ⟨i,hm,hi,rfl,l2,l3,l5⟩
  simp only[BlkD.cells]at l2 l3
  refine Q5 ?_
  refine Qa ?_
  simp only[go_sem,l2,l3,l5,Qy]
  try intro _
  refine Qi (Qe rfl ?_ ?_)
  ·intro hc
   have hlt:i<p.phis.length:=by simpa using hc
   obtain⟨x,hx⟩:∃x,p.phis[i]=x:=⟨_,rfl⟩
   refine Qh ?_
   try simp only[go_sem]
   refine Qi (Qf ?_)
   refine Qae ?_
   simp only[go_sem,l2,l3,l5,hlt,Qy,Qax _ _ hlt,hx,PhiD.cells,decide_true]
   refine Qao6 ?_
   simp only[go_sem,Qox]
   refine Qe rfl ?_ ?_
   ·intro h;simp at h
   intro _
   refine Qh ?_
   try simp only[go_sem]
   refine Qv ?_
   simp only[go_sem,l2,l3,l5]
   refine⟨Qr (by omega) (by omega),?_⟩
   show ∃m,_
   exact⟨p.phis.length-(i+1),by omega,i+1,rfl,by omega,rfl,rfl,rfl,rfl⟩
  ·intro hc
   refine Qw ?_
   simp only[go_sem,X.next]
   refine Q5 ?_
   refine Qa ?_
   simp only[go_sem,l2,l3]
   refine Qi (Qf (Qx (fun m e1 H2=>∃(i:Nat),m=p.ins.length-i∧i≤p.ins.length∧Kn H1 H2 [] []∧lk 2 e1=.c (.pp p.cells)∧lk 3 e1=.c (.pp p.cells)∧lk 6 e1=.c (.int .i64 i)) p.ins.length ?_ ?_))
   ·exact⟨0,by omega,by omega,.start0 H1,rfl,rfl,rfl⟩
   ·clear l2 l3 l5
    rintro m e1 H2 ⟨i,hm,hi,kn,l2,l3,l6⟩
    simp only[BlkD.cells]at l2 l3
    refine Q5 ?_
    refine Qa ?_
    simp only[go_sem,l2,l3,l6,Qar]
    try intro _
    refine Qi (Qe rfl ?_ ?_)
    ·intro hc
     have hlt:i<p.ins.length:=by simpa using hc
     obtain⟨x,hx⟩:∃x,p.ins[i]=x:=⟨_,rfl⟩
     refine Qh ?_
     try simp only[go_sem]
     refine Qi (Qf ?_)
     refine Qa ?_
     simp only[go_sem,l2,l3,l6,hlt,Qar,Qdp _ _ hlt,hx,InsD.cells]
     intro x7 hx7 H3 h3
     have kn:=kn.al hx7 h3
     have hx7:=kn.l 0 rfl
     simp only[go_sem,Qoy,hx7]
     intro H4 h4
     have kn:Kn H1 H4 [] [(x7,.st x.cells)]:=kn.stL 0 rfl h4
     refine Qa ?_
     simp only[go_sem,l2,l3,l6,hlt,Qar,Qdp _ _ hlt,hx,InsD.cells]
     intro x8 hx8 H5 h5
     have kn:=kn.al hx8 h5
     have hx8:=kn.l 1 rfl
     simp only[go_sem,Qoz,hx8]
     intro H6 h6
     have kn:Kn H1 H6 [] [(x7,.st x.cells),(x8,.st x.cells)]:=kn.stL 1 rfl h6
     have hx7:H6 x7=.st x.cells:=kn.l 0 rfl
     have hx8:H6 x8=.st x.cells:=kn.l 1 rfl
     refine Qa ?_
     simp only[go_sem,hx7,hx8,InsD.cells,decide_true]
     refine Qao6 ?_
     simp only[go_sem,Qo0]
     refine Qe rfl ?_ ?_
     ·intro h;simp at h
     intro _
     refine Qh ?_
     try simp only[go_sem]
     refine Qv ?_
     simp only[go_sem,l2,l3,l6]
     refine⟨Qr (by omega) (by omega),?_⟩
     show ∃m,_
     exact⟨p.ins.length-(i+1),by omega,i+1,rfl,by omega,Kn.drop (A:=[]) (B:=[(x7,_),(x8,_)]) kn,rfl,rfl,rfl⟩
    ·intro hc
     refine Qw ?_
     simp only[go_sem,X.next]
     refine Qa ?_
     simp only[go_sem]
     refine Qk ?_
     simp only[go_sem,Q4,Q7,Q0j,List.mem_singleton,forall_eq,RS.op]
     exact⟨_,.c _ _ (Qd rfl),hK _ kn.fin⟩
set_option maxHeartbeats 1000000 in
theorem Qata {p:CodeD}(hK:∀H',Upd H H' []→K (.c (.bool true)) H'):Qp prog Qmq [.ag p.cells,.ag p.cells] H K:=by
 refine Qu ?_
 refine Qb Qai Qatp ?_
 refine Qa ?_
 simp only[go_sem,CodeD.cells]
 refine Q5 ?_
 refine Qa ?_
 simp only[go_sem,Ql,decide_true]
 intro hl
 try intro _
 simp only[LIM]at hl
 refine Qi (Qe rfl ?_ ?_)
 ·intro h;simp at h
 intro _
 refine Qh ?_
 try simp only[go_sem]
 refine Q5 ?_
 refine Qa ?_
 simp only[go_sem]
 refine Qi (Qf (Qx (fun m e1 H1=>∃(i:Nat),m=p.blocks.length-i∧i≤p.blocks.length∧Kn H H1 [] []∧lk 2 e1=.c (.pp [.int .i64 p.params,.int .i64 p.regs,.sl false 5 (Qn p.blocks)])∧lk 3 e1=.c (.pp [.int .i64 p.params,.int .i64 p.regs,.sl false 5 (Qn p.blocks)])∧lk 5 e1=.c (.int .i64 i)) p.blocks.length ?_ ?_))
 ·exact⟨0,by omega,by omega,.start0 H,rfl,rfl,rfl⟩
 ·rintro m e1 H1 ⟨i,hm,hi,kn,l2,l3,l5⟩
  refine Q5 ?_
  refine Qa ?_
  simp only[go_sem,l2,l3,l5,Ql]
  try intro _
  refine Qi (Qe rfl ?_ ?_)
  ·intro hc
   have hlt:i<p.blocks.length:=by simpa using hc
   obtain⟨x,hx⟩:∃x,p.blocks[i]=x:=⟨_,rfl⟩
   refine Qh ?_
   try simp only[go_sem]
   refine Qi (Qf ?_)
   refine Qae ?_
   simp only[go_sem,l2,l3,l5,hlt,Ql,Qak _ _ hlt,hx,BlkD.cells]
   refine Qao8 (p:=x) fun H2 hu=>?_
   have kn:=kn.call0 hu
   simp only[go_sem,Qtr]
   refine Qe rfl ?_ ?_
   ·intro h;simp at h
   intro _
   refine Qh ?_
   try simp only[go_sem]
   refine Qv ?_
   simp only[go_sem,l2,l3,l5]
   refine⟨Qr (by omega) (by omega),?_⟩
   show ∃m,_
   exact⟨p.blocks.length-(i+1),by omega,i+1,rfl,by omega,kn,rfl,rfl,rfl⟩
  ·intro hc
   refine Qw ?_
   simp only[go_sem,X.next]
   refine Qa ?_
   simp only[go_sem]
   refine Qk ?_
   simp only[go_sem,Q4,Q7,Q47,List.mem_singleton,forall_eq,RS.op]
   exact⟨_,.c _ _ (Qd rfl),hK _ kn.fin⟩
set_option maxHeartbeats 1000000 in
theorem Qcr {f g:Bool}{cs:List CodeD}(hK:∀H',Upd H H' []→K (.c (.bool true)) H'):Qp prog Qbw [.ag [.sl f 3 (Qj cs)],.ag [.sl g 3 (Qj cs)]] H K:=by
 refine Qu ?_
 refine Qb Qai Qaig ?_
 refine Qa ?_
 simp only[go_sem]
 refine Q5 ?_
 refine Qa ?_
 simp only[go_sem,Qq,decide_true]
 intro hl
 try intro _
 simp only[LIM]at hl
 refine Qi (Qe rfl ?_ ?_)
 ·intro h;simp at h
 intro _
 refine Qh ?_
 try simp only[go_sem]
 refine Q5 ?_
 refine Qa ?_
 simp only[go_sem]
 refine Qi (Qf (Qx (fun m e1 H1=>∃(i:Nat),m=cs.length-i∧i≤cs.length∧Kn H H1 [] []∧lk 2 e1=.c (.pp [.sl f 3 (Qj cs)])∧lk 3 e1=.c (.pp [.sl g 3 (Qj cs)])∧lk 5 e1=.c (.int .i64 i)) cs.length ?_ ?_))
 ·exact⟨0,by omega,by omega,.start0 H,rfl,rfl,rfl⟩
 ·rintro m e1 H1 ⟨i,hm,hi,kn,l2,l3,l5⟩
  refine Q5 ?_
  refine Qa ?_
  simp only[go_sem,l2,l3,l5,Qq]
  try intro _
  refine Qi (Qe rfl ?_ ?_)
  ·intro hc
   have hlt:i<cs.length:=by simpa using hc
   obtain⟨x,hx⟩:∃x,cs[i]=x:=⟨_,rfl⟩
   refine Qh ?_
   try simp only[go_sem]
   refine Qi (Qf ?_)
   refine Qae ?_
   simp only[go_sem,l2,l3,l5,hlt,Qq,Q3 _ _ hlt,hx,CodeD.cells]
   refine Qata (p:=x) fun H2 hu=>?_
   have kn:=kn.call0 hu
   simp only[go_sem,Ql7]
   refine Qe rfl ?_ ?_
   ·intro h;simp at h
   intro _
   refine Qh ?_
   try simp only[go_sem]
   refine Qv ?_
   simp only[go_sem,l2,l3,l5]
   refine⟨Qr (by omega) (by omega),?_⟩
   show ∃m,_
   exact⟨cs.length-(i+1),by omega,i+1,rfl,by omega,kn,rfl,rfl,rfl⟩
  ·intro hc
   refine Qw ?_
   simp only[go_sem,X.next]
   refine Qa ?_
   simp only[go_sem]
   refine Qk ?_
   simp only[go_sem,Q4,Q7,Qwx,List.mem_singleton,forall_eq,RS.op]
   exact⟨_,.c _ _ (Qd rfl),hK _ kn.fin⟩
end Go.AE.Y

namespace Go.AE.Y
attribute [local go_sem] cond_true cond_false Bool.not_true Bool.not_false
attribute [local instance] Classical.propDecidable
open Go.Proofs.Tryz
variable {H H0:Heap}{K:V→Heap→Prop}{fl:Bool}{cs:List CodeD}
theorem Qnu {bs:List UInt8}(hK:∀(cs:List CodeD) H',Upd H H' []→UnitOk cs→K (.ag [.sl false 3 (Qj cs)]) H') :
  Qp prog Qbo [.c (.sl fl 1 (Qbi bs))] H K:=by
 refine Qu ?_
 refine Qb Qai Qyr ?_
 refine Qa ?_
 simp only[go_sem]
 intro x2 hx2 H1 h1
 have kn:=(Kn.start0 H).al hx2 h1
 refine Qa ?_
 simp only[go_sem]
 refine Qbaj fun R H2 hR h2=>?_
 have kn:=kn.al hR h2 (R.o_ne 0)
 simp only[go_sem,Qev]
 refine Qbae (kn.l 1 rfl) (by omega) fun cs H3 k2 hk3 hk4 hu hok=>?_
 have kn:=kn.callL 1 rfl hu (R.o_ne _)
 have hx2:=kn.l 0 rfl
 simp only[go_sem,Qeu,hx2]
 intro H4 h4
 have kn:=kn.stL 0 rfl h4
 have hx2:=kn.l 0 rfl
 refine Qk ?_
 simp only[go_sem,Q4,Q7,Qh3,List.mem_singleton,forall_eq,RS.op,hx2]
 exact⟨_,Q19 cs,hK cs _ kn.fin hok⟩
theorem Q9x (h:splB cs=true):Qb0 cs=true∧splL cs=cs.map spD∧Qb0 (cs.map spD)=true:=by
 rw[splB,Bool.and_eq_true]at h
 obtain⟨h1,h2⟩:=h
 have e:perL spD cs=cs.map spD:=by rw[perL,if_pos h1]
 rw[e]at h2
 exact⟨h1,by rw[splL,Qpk,e,h1,h2];rfl,h2⟩
theorem Qbdi (h:splB cs=true):splB (splL cs)=true∧splL (splL cs)=splL cs:=by
 obtain⟨h1,h2,h3⟩:=Q9x h
 have e:perL spD (cs.map spD)=cs.map spD:=by
  rw[perL,if_pos h3,List.map_map]
  refine List.map_congr_left fun q hq=>?_
  obtain⟨i,hi,rfl⟩:=List.mem_iff_getElem.1 hq
  exact Qbg7 (Qnt h1 hi).spF
 rw[h2]
 exact⟨by rw[splB,e,h3];rfl,by rw[splL,Qpk,e,h3];rfl⟩
theorem Qaxo (hfit:∀c∈cs,c.fits):∀c∈splL cs,c.fits:=fun c hc=>by
 rw[splL,Qpk]at hc
 split at hc
 ·exact Qaa4 (f:=spD) hfit (fun c h=>Qa3y h) c hc
 ·simp at hc
theorem Qbkq (q:CodeD):Qve (spD q)=Qve q:=by
 rw[Qve,Qve,Qg7,Qg7]
 refine Qbl7 (fun v=>rfl) q fun b hb=>?_
 simp only[Qzt,spB,List.length_map]
theorem Qbdj (h:splB cs=true):Q4v (splL cs)=Q4v cs:=by
 obtain⟨h1,h2,h3⟩:=Q9x h
 rw[h2,Q4v,if_pos h3,Q4v,if_pos h1,Qg7,Qg7,List.map_map]
 have:cs.map (Qve ∘ spD)=cs.map Qve:=List.map_congr_left fun q _=>Qbkq q
 rw[this]
set_option maxHeartbeats 8000000 in
theorem FnSplitAgain_c {bs:List UInt8}(hK:∀H',K (.c (.bool true)) H'):Qp prog Qi1 [.c (.sl false 1 (Qbi bs))] H K:=by
 refine Qb Qai Q2x ?_
 have retT':∀(e:Env) (H':Heap),lk 2 e=.c (.bool true)→Q4 Qe3 K .ret e H':=by
  intro e H' h2
  simp only[go_sem,Q4,Q7,Qe3,List.mem_singleton,forall_eq,RS.op,h2]
  exact hK H'
 refine Qa ?_
 simp only[go_sem]
 refine Q5 ?_
 refine Qa ?_
 simp only[go_sem,Qap]
 intro _
 refine Qi (Qe rfl (fun hc=>?_) (fun hc=>?_))
 ·refine Qa ?_
  simp only[go_sem]
  refine Qk ?_
  exact retT' _ _ rfl
 refine Qh ?_
 try simp only[go_sem]
 refine Qa ?_
 simp only[go_sem]
 refine Qnu fun cs H1 hu hok=>?_
 have hfit:=hok.fits
 have hfd:=Qaxo hfit
 obtain⟨ds,hds⟩:∃ds,splL cs=ds:=⟨_,rfl⟩
 rw[hds]at hfd
 have kn:=(Kn.start0 H).call0 hu
 simp only[go_sem,Qgg]
 intro x3 hx3 H2 h2
 have kn:=kn.al hx3 h2
 have hx3:=kn.l 0 rfl
 simp only[go_sem,Qgf,hx3]
 intro H3 h3
 have kn:Kn H H3 [] [(x3,.st [.sl false 3 (Qj cs)])]:=kn.stL 0 rfl h3
 have hx3:=kn.l 0 rfl
 refine Qa ?_
 simp only[go_sem,hx3]
 refine Qj7 hfit fun H4 hu=>?_
 rw[hds]
 have kn:=kn.call0 hu
 simp only[go_sem,Qgj,List.getD_cons_zero,List.getD_cons_succ]
 intro x4 hx4 H5 h5
 have kn:=kn.al hx4 h5
 have hx4:=kn.l 1 rfl
 simp only[go_sem,Qgi,hx4]
 intro H6 h6
 have kn:Kn H H6 [] [(x3,.st [.sl false 3 (Qj cs)]),(x4,.st [.sl false 3 (Qj ds)])]:=kn.stL 1 rfl h6
 have hx3:=kn.l 0 rfl
 simp only[go_sem,Qgh]
 refine Qa ?_
 simp only[go_sem,hx3]
 refine Qya hfit fun H7 hu=>?_
 rw[hds]
 have kn:=kn.call0 hu
 simp only[go_sem,Qgm,List.getD_cons_zero,List.getD_cons_succ]
 intro x6 hx6 H8 h8
 have kn:=kn.al hx6 h8
 have hx6:=kn.l 2 rfl
 simp only[go_sem,Qgl,hx6]
 intro H9 h9
 have kn:Kn H H9 [] [(x3,.st [.sl false 3 (Qj cs)]),(x4,.st [.sl false 3 (Qj ds)]),(x6,.st [.sl false 3 (Qj ds)])]:=kn.stL 2 rfl h9
 have hx4:=kn.l 1 rfl
 have hx6:=kn.l 2 rfl
 simp only[go_sem,Qgk]
 refine Q5 ?_
 cases hg:splB cs with
 |false=>
  refine Qa ?_
  simp only[go_sem,hg,hx4,hx6,decide_true]
  refine Qcr fun H10 hu=>?_
  have kn:=kn.call0 hu
  have hx4:=kn.l 1 rfl
  have hx6:=kn.l 2 rfl
  simp only[go_sem,Qc3]
  refine Qi (Qe rfl ?_ ?_)
  ·intro _
   refine Qa ?_
   simp only[go_sem,hx4,hx6,decide_true]
   refine Qcr fun H11 hu=>?_
   simp only[go_sem,Qfw]
   refine Qk ?_
   exact retT' _ _ rfl
  ·intro h;simp at h
 |true=>
  obtain⟨hge,hda⟩:=Qbdi hg
  obtain⟨hgc,hdm,hgd⟩:=Q9x hg
  have hcnt:=Qbdj hg
  rw[hds]at hge hda hdm hcnt
  rw[←hdm]at hgd
  have hdl:ds.length=cs.length:=by rw[hdm,List.length_map]
  have h14:=(of_decide_eq_true hgd).1
  refine Qa ?_
  simp only[go_sem,hg,hx4,hx6,decide_true]
  refine Qcr fun H10 hu=>?_
  have kn:=kn.call0 hu
  simp only[go_sem,Qc3]
  refine Qi (Qe rfl ?_ ?_)
  ·intro h;simp at h
  intro _
  refine Qh ?_
  try simp only[go_sem]
  have kn:Kn H H10 [] [(x3,.st [.sl false 3 (Qj cs)]),(x4,.st [.sl false 3 (Qj ds)])]:=Kn.drop (A:=[_,_]) (B:=[_]) kn
  have hx4:=kn.l 1 rfl
  refine Qa ?_
  simp only[go_sem,hx4]
  refine Qj7 hfd fun H11 hu=>?_
  have kn:=kn.call0 hu
  rw[hge,hda]
  simp only[go_sem,Qfz,List.getD_cons_zero,List.getD_cons_succ]
  intro x8 hx8 H12 h12
  have kn:=kn.al hx8 h12
  have hx8:=kn.l 2 rfl
  simp only[go_sem,Qfy,hx8]
  intro H13 h13
  have kn:Kn H H13 [] [(x3,.st [.sl false 3 (Qj cs)]),(x4,.st [.sl false 3 (Qj ds)]),(x8,.st [.sl false 3 (Qj ds)])]:=kn.stL 2 rfl h13
  have hx4:=kn.l 1 rfl
  simp only[go_sem,Qfx]
  refine Q5 ?_
  refine Qa ?_
  simp only[go_sem,hx4,Qq]
  try intro _
  refine Qi (Qf (Qx (fun mm e1 H1=>∃(i:Nat),mm=ds.length-i∧i≤ds.length∧Kn H H1 [] [(x3,.st [.sl false 3 (Qj cs)]),(x4,.st [.sl false 3 (Qj ds)]),(x8,.st [.sl false 3 (Qj ds)])]∧
   lk 3 e1=.c (.ptr x3 0)∧lk 4 e1=.c (.ptr x4 0)∧lk 8 e1=.c (.ptr x8 0)∧lk 9 e1=.c (.bool true)∧lk 54 e1=.c (.sl false 3 (Qj ds))∧lk 55 e1=.c (.int .i64 ds.length)∧lk 56 e1=.c (.int .i64 i)) ds.length ?_ ?_))
  ·exact⟨0,by omega,by omega,kn,rfl,rfl,rfl,rfl,rfl,rfl,rfl⟩
  ·clear kn hx3 hx4 hx6 hx8
   rintro mm e1 H14 ⟨i,hmm,hi,kn,l3,l4,l8,l9,l54,l55,l56⟩
   have hx3:=kn.l 0 rfl
   have hx4:=kn.l 1 rfl
   have hx8:=kn.l 2 rfl
   refine Qa ?_
   simp only[go_sem,l3,l4,l8,l9,l54,l55,l56]
   refine Qi (Qe rfl ?_ ?_)
   ·intro hc1
    have hlt:i<ds.length:=by simpa using hc1
    have hltc:i<cs.length:=by omega
    obtain⟨q,hq⟩:∃q,cs[i]=q:=⟨_,rfl⟩
    have hqo:q.ok:=by rw[←hq];exact Qnt hgc hltc
    have hdi:ds[i]=spD q:=by subst hdm;rw[List.getElem_map,hq]
    have hdo:(spD q).ok:=by rw[←hdi];exact Qnt hgd hlt
    have hs0:=Qbir hqo.spF
    have hs1:=Qbem q
    have hdl2:(spD q).blocks.length=q.blocks.length+(nwL q).length:=by rw[Qdl];rfl
    obtain⟨d,hd⟩:∃d,spD q=d:=⟨_,rfl⟩
    rw[hd]at hdi hdo hs0 hs1 hdl2
    have hm1:decide (((d.blocks.length:Nat):Int)<(q.blocks.length:Nat))=false:=decide_eq_false (by omega)
    have hm2:decide (((q.blocks.length:Nat):Int)<(d.blocks.length:Nat))=hasS q:=by rw[hs1];exact decide_eq_decide.2 (by omega)
    obtain⟨s,hs⟩:∃s,hasS q=s:=⟨_,rfl⟩
    rw[hs]at hm2
    refine Qh ?_
    try simp only[go_sem]
    refine Qi (Qf ?_)
    refine Qa ?_
    simp only[go_sem,l3,l4,l8,l9,l54,l55,l56,hlt,Qq,Q3 _ _ hlt,CodeD.cells,hdi]
    intro x11 hx11 H15 h15
    have kn:=kn.al hx11 h15
    have hx11:=kn.l 3 rfl
    simp only[go_sem,Qf0,hx11]
    intro H16 h16
    have kn:Kn H H16 [] [(x3,.st [.sl false 3 (Qj cs)]),(x4,.st [.sl false 3 (Qj ds)]),(x8,.st [.sl false 3 (Qj ds)]),(x11,.st [.int .i64 d.params,.int .i64 d.regs,.sl false 5 (Qn d.blocks)])]:=kn.stL 3 rfl h16
    have hx11:=kn.l 3 rfl
    refine Qae ?_
    simp only[go_sem,hx11]
    refine Qang hdo fun H17 hu=>?_
    have kn:=kn.call0 hu
    have hx11:=kn.l 3 rfl
    have hx3:=kn.l 0 rfl
    rw[hs0]
    simp only[go_sem,Qf2,hx11,hx3,hltc,Qq,Q3 _ _ hltc,CodeD.cells,hq,Ql,hm1,hm2]
    try intro _
    refine Qang hqo fun H18 hu=>?_
    have kn:=kn.call0 hu
    have hx11:=kn.l 3 rfl
    have hx3:=kn.l 0 rfl
    rw[hs]
    simp only[go_sem,Qf1,hx11,hx3,hltc,Qq,Q3 _ _ hltc,CodeD.cells,hq,Ql,hm1,hm2,decide_true]
    try intro _
    refine Qe rfl ?_ ?_
    ·intro h;simp at h
    intro _
    refine Qh ?_
    try simp only[go_sem]
    have kn:Kn H H18 [] [(x3,.st [.sl false 3 (Qj cs)]),(x4,.st [.sl false 3 (Qj ds)]),(x8,.st [.sl false 3 (Qj ds)])]:=Kn.drop (A:=[_,_,_]) (B:=[_]) kn
    refine Qv ?_
    simp only[go_sem]
    refine⟨Qr (by omega) (by omega),?_⟩
    show ∃m,_
    exact⟨ds.length-(i+1),by omega,i+1,rfl,by omega,kn,rfl,rfl,rfl,rfl,rfl,rfl,rfl⟩
   ·intro hc1
    refine Qw ?_
    simp only[go_sem,X.next]
    refine Qae ?_
    simp only[go_sem,l3,l4,l8,l9,hx4,hx8]
    refine Qao3 fun H15 hu=>?_
    have kn:=kn.call0 hu
    have hx4:=kn.l 1 rfl
    have hx3:=kn.l 0 rfl
    simp only[go_sem,Qf5,hx4,hx3]
    refine Qanh hfd fun H16 hu=>?_
    have kn:=kn.call0 hu
    have hx3:=kn.l 0 rfl
    simp only[go_sem,Qf4,hx3]
    refine Qanh hfit fun H17 hu=>?_
    have kn:=kn.call0 hu
    rw[hcnt]
    simp only[go_sem,Qf3,decide_true]
    try intro _
    refine Qk ?_
    exact retT' _ _ rfl
end Go.AE.Y

namespace Go.AE.Y
attribute [local instance] Classical.propDecidable
variable {g g':Nat→List Nat}{n N:Nat}
theorem Rch.last {x y z:Nat}(hxy:x≠y)(h:Rch g (fun _=>False) 0 z):Rch g (fun w=>w=x∨w=y) 0 z∨Rch g (fun w=>w=x) y z∨Rch g (fun w=>w=y) x z:=by
 have key:∀w,¬(w=x∨w=y)∨w=x∨w=y:=fun w=>(Classical.em _).symm
 induction h with
 |refl _=>
  rcases key 0 with h|rfl|rfl
  ·exact .inl (.refl h)
  ·exact .inr (.inr (.refl hxy))
  ·exact .inr (.inl (.refl fun (e:_=_)=>hxy e.symm))
 |@step b c _ h2 _ ih=>
  rcases key c with h|rfl|rfl
  ·rcases ih with i|i|i
   ·exact .inl (.step i h2 h)
   ·exact .inr (.inl (.step i h2 fun e=>h (.inl e)))
   ·exact .inr (.inr (.step i h2 fun e=>h (.inr e)))
  ·exact .inr (.inr (.refl hxy))
  ·exact .inr (.inl (.refl fun (e:_=_)=>hxy e.symm))
theorem Qa9n {x y z:Nat}(h1:Qef g x z=true)(h2:Qef g y z=true):Qef g x y=true∨Qef g y x=true:=by
 obtain⟨rx,rz,nx⟩:=domB_iff.1 h1
 obtain⟨ry,_,ny⟩:=domB_iff.1 h2
 by_cases hxy:x=y
 ·subst hxy;rw[Q97];exact .inl rx
 by_cases h3:Qef g x y=true
 ·exact .inl h3
 by_cases h4:Qef g y x=true
 ·exact .inr h4
 have a3:Rch g (fun z=>(z:Int)=x) 0 y:=Classical.byContradiction fun h=>h3 (domB_iff.2 ⟨rx,ry,h⟩)
 have a4:Rch g (fun z=>(z:Int)=y) 0 x:=Classical.byContradiction fun h=>h4 (domB_iff.2 ⟨ry,rx,h⟩)
 have hz:Rch g (fun _=>False) 0 z:=(rchB_iff.1 rz).mono fun w hw=>by simp at hw
 rcases hz.last hxy with h|h|h
 ·exact absurd (h.mono fun w hw=>.inl (by omega)) nx
 ·exact absurd (a3.trans (h.mono fun w hw=>by omega)) nx
 ·exact absurd (a4.trans (h.mono fun w hw=>by omega)) ny
def Qyb (n:Nat)(g:Nat→List Nat)(b:Nat)(r:Int):Prop:=
 (r=-1∧∀a,a<n→a≠b→Qef g a b=false)∨∃d:Nat,r=d∧d<n∧d≠b∧Qef g d b=true∧∀a,a<n→a≠b→Qef g a b=true→Qef g a d=true
structure OnE (g g':Nat→List Nat)(n:Nat):Prop where
 z:0<n
 lt:∀x,x<n→∀y∈g x,y<n
 go:∀x,x<n→∀y∈g' x,y<n→y∈g x
 gn:∀x,x<n→∀j∈g' x,n≤j→∀y∈g' j,y∈g x
 up:∀x,x<n→∀y∈g x,y∈g' x∨∃j,n≤j∧j∈g' x∧y∈g' j
theorem OnE.down (h:OnE g g' n){A:Nat→Prop}{w:Nat}(hr:Rch g' A 0 w):(w<n→Rch g A 0 w)∧(n≤w→∃x,x<n∧Rch g A 0 x∧w∈g' x):=by
 induction hr with
 |refl ha=>exact⟨fun _=>.refl ha,fun hn=>by have:=h.z;omega⟩
 |@step a b h1 h2 ha ih=>
  obtain⟨i1,i2⟩:=ih
  by_cases hal:a<n
  ·exact⟨fun hb=>.step (i1 hal) (h.go a hal b h2 hb) ha,fun hb=>⟨a,hal,i1 hal,h2⟩⟩
  ·obtain⟨x,hx,hr,hm⟩:=i2 (by omega)
   have hb:=h.gn x hx a hm (by omega) b h2
   have:=h.lt x hx b hb
   exact⟨fun _=>.step hr hb ha,fun hn=>by omega⟩
theorem OnE.back (h:OnE g g' n){A:Nat→Prop}(hA:∀z,A z→z<n){w:Nat}(hr:Rch g A 0 w):w<n∧Rch g' A 0 w:=by
 induction hr with
 |refl ha=>exact⟨h.z,.refl ha⟩
 |@step a b h1 h2 ha ih=>
  obtain⟨i1,i2⟩:=ih
  refine⟨h.lt a i1 b h2,?_⟩
  rcases h.up a i1 b h2 with hb|⟨j,hj,h3,h4⟩
  ·exact .step i2 hb ha
  ·exact .step (.step i2 h3 fun hh=>by have:=hA j hh;omega) h4 ha
theorem OnE.rch (h:OnE g g' n){a:Int}(ha:a<n){y:Nat}(hy:y<n):Qva g' a y=Qva g a y:=by
 rw[Bool.eq_iff_iff,rchB_iff,rchB_iff]
 exact⟨fun hr=>(h.down hr).1 hy,fun hr=>(h.back (fun z hz=>by omega) hr).2⟩
theorem OnE.dom (h:OnE g g' n){a b:Nat}(ha:a<n)(hb:b<n):Qef g' a b=Qef g a b:=by
 rw[Qef,Qef,h.rch (by omega) ha,h.rch (by omega) hb,h.rch (by omega) hb]
theorem Qbd7 {d:Nat}(h:Qef g d 0=true):d=0:=by
 obtain⟨_,_,h3⟩:=domB_iff.1 h
 refine Classical.byContradiction fun hd=>h3 (.refl ?_)
 omega
theorem Qbhk {b:Nat}(hb:Qva g (-1) b=true):Qef g 0 b=true:=by
 refine domB_iff.2 ⟨rchB_iff.2 (.refl (by omega)),hb,fun h=>h.fst rfl⟩
def AtOk (n N:Nat)(g g':Nat→List Nat)(i:Nat)(r:Int):Prop:=
 (r=-1∧Qyb n g i (-1))∨∃d:Nat,r=d∧d<N∧d≠i∧Qef g' d i=true∧∀x,x<n→x≠i→Qef g' x i=true→Qef g' x d=true
theorem AtOk.init (h:OnE g g' n)(hN:n≤N){i:Nat}(hi:i<n){r:Int}(hr:Qyb N g' i r):AtOk n N g g' i r:=by
 rcases hr with ⟨h1,h2⟩|⟨d,h1,h2,h3,h4,h5⟩
 ·refine .inl ⟨h1,.inl ⟨rfl,fun a ha hne=>?_⟩⟩
  rw[←h.dom ha hi];exact h2 a (by omega) hne
 ·exact .inr ⟨d,h1,h2,h3,h4,fun x hx hne hd=>h5 x (by omega) hne hd⟩
theorem AtOk.next (h:OnE g g' n)(hN:n≤N){i d:Nat}(hi:i<n)(hr:AtOk n N g g' i (d:Int))(hd:n≤d):d<N∧∀r,Qyb N g' d r→AtOk n N g g' i r∧∃e:Nat,r=e∧depL N g' e<depL N g' d:=by
 rcases hr with ⟨h1,_⟩|⟨d',h1,h2,h3,h4,h5⟩
 ·omega
 ·have hdd:d'=d:=by omega
  subst hdd
  have hri:=(domB_iff.1 h4).2.1
  have hi0:i≠0:=fun e=>by subst e;exact h3 (Qbd7 h4)
  have h0d:=h5 0 h.z (fun e=>hi0 e.symm) (Qbhk hri)
  refine⟨h2,fun r hr=>?_⟩
  rcases hr with ⟨g1,g2⟩|⟨e,g1,g2,g3,g4,g5⟩
  ·have:=g2 0 (by have:=h.z;omega) (by have:=h.z;omega)
   rw[h0d]at this;simp at this
  ·refine⟨.inr ⟨e,g1,g2,fun he=>?_,Q2f g4 h4,fun x hx hne hxi=>g5 x (by omega) (by omega) (h5 x hx hne hxi)⟩,e,g1,Qbic h2 g4 g3⟩
   subst he
   exact h3 (Q96 h4 g4)
theorem AtOk.fin (h:OnE g g' n){i:Nat}(hi:i<n){r s:Int}(hr:AtOk n N g g' i r)(hl:r<n)(hs:Qyb n g i s):r=s:=by
 rcases hr with ⟨h1,h2⟩|⟨d,h1,h2,h3,h4,h5⟩
 ·rcases h2 with ⟨_,h2⟩|⟨d,hd,_⟩
  ·rcases hs with ⟨g1,_⟩|⟨e,g1,g2,g3,g4,_⟩
   ·omega
   ·have:=h2 e g2 g3
    rw[g4]at this;simp at this
  ·omega
 ·have hdn:d<n:=by omega
  rw[h.dom hdn hi]at h4
  rcases hs with ⟨g1,g2⟩|⟨e,g1,g2,g3,g4,g5⟩
  ·have:=g2 d hdn h3
   rw[h4]at this;simp at this
  ·have a1:=g5 d hdn h3 h4
   have a2:=h5 e g2 g3 (by rw[h.dom g2 hi];exact g4)
   rw[h.dom g2 hdn]at a2
   rw[h1,g1,Q96 a1 a2]
def NrOk (k:Nat)(g:Nat→List Nat)(b:Nat)(r:Int):Prop:=Qyb k g b r
theorem NrOk.step {k b:Nat}{r:Int}(h:Qyb k g b r):(¬(k≠b∧Qef g k b=true)→Qyb (k+1) g b r)∧(k≠b→Qef g k b=true→(r=-1∨∃d:Nat,r=d∧Qef g d k=true)→Qyb (k+1) g b (k:Int))∧
  (k≠b→Qef g k b=true→(∃d:Nat,r=d∧Qef g d k=false)→Qyb (k+1) g b r):=by
 have cases':∀a,a<k+1→a<k∨a=k:=fun a h=>by omega
 refine⟨fun hn=>?_,fun h1 h2 h3=>?_,fun h1 h2 h3=>?_⟩
 ·rcases h with ⟨g1,g2⟩|⟨d,g1,g2,g3,g4,g5⟩
  ·refine .inl ⟨g1,fun a ha hne=>?_⟩
   rcases cases' a ha with h|rfl
   ·exact g2 a h hne
   ·exact Bool.eq_false_iff.2 fun hd=>hn ⟨hne,hd⟩
  ·refine .inr ⟨d,g1,by omega,g3,g4,fun a ha hne hd=>?_⟩
   rcases cases' a ha with h|rfl
   ·exact g5 a h hne hd
   ·exact absurd ⟨hne,hd⟩ hn
 ·refine .inr ⟨k,rfl,by omega,h1,h2,fun a ha hne hd=>?_⟩
  rcases cases' a ha with ha|rfl
  ·rcases h with ⟨g1,g2⟩|⟨d,g1,g2,g3,g4,g5⟩
   ·rw[g2 a ha hne]at hd;simp at hd
   ·rcases h3 with h3|⟨d',h3,h4⟩
    ·omega
    ·have:d'=d:=by omega
     subst this
     exact Q2f (g5 a ha hne hd) h4
  ·rw[Q97];exact (domB_iff.1 h2).1
 ·rcases h with ⟨g1,g2⟩|⟨d,g1,g2,g3,g4,g5⟩
  ·obtain⟨d,h3,_⟩:=h3;omega
  ·refine .inr ⟨d,g1,by omega,g3,g4,fun a ha hne hd=>?_⟩
   rcases cases' a ha with h|rfl
   ·exact g5 a h hne hd
   ·obtain⟨d',h3,h4⟩:=h3
    have:d'=d:=by omega
    subst this
    exact (Qa9n hd g4).resolve_right (by rw[h4];simp)
end Go.AE.Y

namespace Go.AE.Y
attribute [local instance] Classical.propDecidable
variable {q:CodeD}
theorem Qkc {nx:Nat→List Int}{x y:Nat}(h:∀v∈nx x,0≤v):y∈nxN nx x↔(y:Int)∈nx x:=by
 rw[nxN,List.mem_map]
 constructor
 ·rintro⟨v,hv,rfl⟩
  have e:((v.toNat:Nat):Int)=v:=by have:=h v hv;omega
  rw[e];exact hv
 ·exact fun hh=>⟨y,hh,by simp⟩
theorem Qbl6 (ho:q.ok):OnE (nxN (gnx q)) (nxN (gnx (spD q))) q.blocks.length:=by
 have F:=ho.spF
 have F2:=Qbl4 F
 rw[Qans]
 have h1:∀x,x<q.blocks.length→∀v∈gnx q x,0≤v:=fun x hx v hv=>by have:=(F.rng x hx v hv).1;omega
 have h2:∀x,∀v∈spX (gnx q) q.blocks.length x,0≤v:=fun x v hv=>by
  by_cases hx:x<Qz6 (gnx q) q.blocks.length q.blocks.length
  ·have:=(F2.rng x hx v hv).1;omega
  ·rw[Qin (by rw[Qz6]at hx;omega),List.getElem?_eq_none (by rw[Qz6]at hx;omega)]at hv
   simp at hv
 refine⟨ho.b0,fun x hx y hy=>?_,fun x hx y hy hl=>?_,fun x hx j hj hn y hy=>?_,fun x hx y hy=>?_⟩
 ·rw[Qkc (h1 x hx)]at hy
  have:=F.rng x hx _ hy
  omega
 ·rw[Qkc (h2 x)]at hy
  rw[Qkc (h1 x hx)]
  rcases (Qahp F hl).1 hy with ⟨_,h,_⟩|⟨h,_⟩
  ·exact h
  ·omega
 ·rw[Qkc (h2 x)]at hj
  rw[Qkc (h2 j)]at hy
  have hjl:j<Qz6 (gnx q) q.blocks.length q.blocks.length:=by
   have:=(F2.rng x (by rw[Qz6];omega) _ hj).2
   omega
  rw[Qz6]at hjl
  obtain⟨e,he⟩:∃e,(Qbm (gnx q) q.blocks.length q.blocks.length)[j-q.blocks.length]? = some e:=⟨_,List.getElem?_eq_getElem (by omega)⟩
  have hje:q.blocks.length+(j-q.blocks.length)=j:=by omega
  have hx2:=Qbhv F (p:=x) he
  rw[hje]at hx2
  have hxe:=hx2.1 hj
  rw[Qin hn,he]at hy
  simp only[List.mem_singleton]at hy
  obtain⟨_,hm,_⟩:=mem_newL.1 (List.mem_of_getElem? (a:=(e.1,e.2)) he)
  rw[Qkc (h1 x hx),hy,hxe]
  exact hm
 ·rw[Qkc (h1 x hx)]at hy
  cases hs:shV (gnx q) q.blocks.length x (y:Int)with
  |true=>
   obtain⟨i,g1,g2,_⟩:=Qaho hx hy hs
   refine .inr ⟨q.blocks.length+i,by omega,(Qkc (h2 x)).2 ?_,(Qkc (h2 _)).2 ?_⟩
   ·rw[←g2,spX,if_pos hx]
    exact List.mem_map.2 ⟨_,hy,rfl⟩
   ·have e:q.blocks.length+i-q.blocks.length=i:=by omega
    rw[Qin (by omega),e,g1];simp
  |false=>
   refine .inl ((Qkc (h2 x)).2 ?_)
   rw[spX,if_pos hx]
   exact List.mem_map.2 ⟨_,hy,by rw[spV,if_neg (by simp[hs])]⟩
end Go.AE.Y

namespace Go.AE.Y
open Go.Proofs.Tryz
def Qrn:List Item:=
  .f (some 3) none (.mv (.t 7))::
  []
def Qaii:SC:=(.cond (.t 9) (.seq (.reg (
  .f (some 2) none (.mv (.k (.c (.sl true 1 []))))::
  []) [2]) .ret) .skip)
def Qro:List Item:=
  .f (some 4) none (.mv (.t 13))::
  []
def Qrp:List Item:=
  .f (some 34) none (.iad 1 (.t 29) (.t 30))::
  .e none none (.sto 1 (.t 34) (.t 33))::
  []
def Qaij:SC:=(.cond (.t 28) (.reg (
  .f (some 29) none (.mv (.t 4))::
  .f (some 30) none (.mv (.t 5))::
  .f (some 31) none (.mv (.t 3))::
  .f (some 32) none (.mv (.t 5))::
  .e (some 33) none (.call Qhi [.t 31,.t 32])::
  Qrp) [3,4,15,16]) .skip)
def Qaik:SC:=(.seq (.reg (
  .f (some 22) none (.mv (.t 3))::
  .f (some 23) none (.nck (.t 22))::
  .f (some 24) none (.fad 4 (.t 23))::
  .f (some 25) none (.ld 1 false (.t 24))::
  .f (some 26) none (.mv (.t 5))::
  .f (some 27) none (.iad 1 (.t 25) (.t 26))::
  .f (some 28) none (.ld 1 false (.t 27))::
  []) [3,4,5,15,16,28]) Qaij)
def Qail:SC:=(.seq (.reg (
  .f (some 19) none (.mv (.t 4))::
  .f (some 20) none (.mv (.t 5))::
  .f (some 21) none (.iad 1 (.t 19) (.t 20))::
  .e none none (.sto 1 (.t 21) (.k (.c (.int .i64 (-1)))))::
  []) [3,4,5,15,16]) Qaik)
def Qaim:SC:=(.reg (
  .f (some 35) none (.bin 0 .add (.t 16) (.k (.c (.int .i64 1))))::
  .f (some 16) none (.mv (.t 35))::
  []) [3,4,15,16])
def Qain:SC:=(.seq (.block 1 (.seq (.reg (
  .f (some 18) none (.mv (.t 16))::
  .f (some 5) none (.mv (.t 18))::
  []) [3,4,5,15,16]) Qail)) Qaim)
def Qab4:SC:=(.seq (.reg (
  .f (some 17) none (.bin 0 .lss (.t 16) (.t 15))::
  []) [3,4,15,16,17]) (.seq (.cond (.t 17) .skip (.exit 0)) Qain))
def Qabz:SC:=(.seq (.reg (
  .f (some 36) none (.mv (.t 4))::
  .f (some 2) none (.mv (.t 36))::
  []) [2]) .ret)
def Qab0:SC:=(.seq (.seq (.reg (
  .f (some 14) none (.mv (.t 4))::
  .f (some 15) none (.len (.t 14))::
  .f (some 16) none (.mv (.k (.c (.int .i64 0))))::
  []) [3,4,15,16]) (.block 0 (.loop Qab4))) Qabz)
def Qab1:SC:=(.seq (.reg (
  .f (some 10) none (.fad 2 (.t 1))::
  .f (some 11) none (.ld 1 false (.t 10))::
  .f (some 12) none (.len (.t 11))::
  .e (some 13) none (.mks 1 [.int .i64 0] (.t 12))::
  Qro) [3,4]) Qab0)
def Qab2:SC:=(.seq (.seq (.reg (
  .f (some 8) none (.mv (.t 3))::
  .f (some 9) none (.bin 2 .eql (.t 8) (.k (.c .pnil)))::
  []) [1,3,9]) Qaii) Qab1)
def Qab3:SC:=(.seq (.reg (
  .f (some 6) none (.ld 3 true (.t 1))::
  .e (some 7) none (.call Qqw [.t 6])::
  Qrn) [1,3]) Qab2)
def Qaub:SC:=(.seq (.reg (
  .f (some 1) none (.box (.t 0))::
  .f (some 2) none (.mv (.k (.c (.sl true 1 []))))::
  []) [1]) Qab3)
def Q41:List RS:=[.tmp 2]
theorem Qatc:mFn prog Qgu 1 37 Qaub Q41=true:=by kernel_rfl
def Qlp:List Item:=
  .f (some 4) none (.mv (.t 7))::
  []
def Q7v:SC:=(.seq (.reg (
  .f (some 5) none (.ld 1 false (.t 2))::
  .f (some 6) none (.mkf Qa7 [.t 3,.t 2])::
  .e (some 7) none (.call Qdz [.t 5,.t 6])::
  Qlp) [4]) .ret)
def Qajn:SC:=(.seq (.reg (
  .f (some 2) none (.box (.t 0))::
  .f (some 3) none (.box (.t 1))::
  .f (some 4) none (.mv (.k (.c (.int .i64 0))))::
  []) [2,3]) Q7v)
def Qwt:List RS:=[.tmp 4]
theorem Qah7:mFn prog Qhi 2 8 Qajn Qwt=true:=by kernel_rfl
def Qa0:List Item:=
  .f (some 26) none (.pick (.t 22) (.t 25) (.k (.c (.bool false))))::
  .f (some 27) none (.mv (.t 26))::
  .f (some 28) (some (27,true)) (.mv (.t 5))::
  .f (some 29) (some (27,true)) (.bin 0 .lss (.t 28) (.k (.c (.int .i64 0))))::
  .f (some 30) (some (27,true)) (.mv (.t 29))::
  .f (some 31) (some (30,false)) (.mv (.t 0))::
  .f (some 32) (some (30,false)) (.nck (.t 31))::
  .f (some 33) (some (30,false)) (.fad 3 (.t 32))::
  .f (some 34) (some (30,false)) (.ld 1 false (.t 33))::
  .f (some 35) (some (30,false)) (.mv (.t 5))::
  .f (some 36) (some (30,false)) (.iad 1 (.t 34) (.t 35))::
  .f (some 37) (some (30,false)) (.ld 1 false (.t 36))::
  .f (some 38) (some (30,false)) (.mv (.t 6))::
  .f (some 39) (some (30,false)) (.iad 1 (.t 37) (.t 38))::
  .f (some 40) (some (30,false)) (.ld 1 false (.t 39))::
  .f (some 41) (some (27,true)) (.pick (.t 30) (.k (.c (.bool true))) (.t 40))::
  .f (some 42) none (.pick (.t 27) (.t 41) (.k (.c (.bool false))))::
  []
def Qyy:SC:=(.cond (.t 42) (.reg (
  .f (some 43) none (.mv (.t 6))::
  .f (some 5) none (.mv (.t 43))::
  []) [0,1,5,11,12]) .skip)
def Qyz:SC:=(.seq (.reg (
  .f (some 15) none (.mv (.t 0))::
  .f (some 16) none (.nck (.t 15))::
  .f (some 17) none (.fad 4 (.t 16))::
  .f (some 18) none (.ld 1 false (.t 17))::
  .f (some 19) none (.mv (.t 6))::
  .f (some 20) none (.iad 1 (.t 18) (.t 19))::
  .f (some 21) none (.ld 1 false (.t 20))::
  .f (some 22) none (.mv (.t 21))::
  .f (some 23) (some (22,true)) (.mv (.t 1))::
  .f (some 24) (some (22,true)) (.mv (.t 6))::
  .e (some 25) (some (22,true)) (.callv (.t 23) [.t 24])::
  Qa0) [0,1,5,6,11,12,42]) Qyy)
def Qy0:SC:=(.reg (
  .f (some 44) none (.bin 0 .add (.t 12) (.k (.c (.int .i64 1))))::
  .f (some 12) none (.mv (.t 44))::
  []) [0,1,5,11,12])
def Qy1:SC:=(.seq (.block 1 (.seq (.reg (
  .f (some 14) none (.mv (.t 12))::
  .f (some 6) none (.mv (.t 14))::
  []) [0,1,5,6,11,12]) Qyz)) Qy0)
def Qvi:SC:=(.seq (.reg (
  .f (some 13) none (.bin 0 .lss (.t 12) (.t 11))::
  []) [0,1,5,11,12,13]) (.seq (.cond (.t 13) .skip (.exit 0)) Qy1))
def Qy2:SC:=(.seq (.reg (
  .f (some 45) none (.mv (.t 5))::
  .f (some 4) none (.mv (.t 45))::
  []) [4]) .ret)
def Qy3:SC:=(.seq (.seq (.reg (
  .f (some 7) none (.mv (.t 0))::
  .f (some 8) none (.nck (.t 7))::
  .f (some 9) none (.fad 3 (.t 8))::
  .f (some 10) none (.ld 1 false (.t 9))::
  .f (some 11) none (.len (.t 10))::
  .f (some 12) none (.mv (.k (.c (.int .i64 0))))::
  []) [0,1,5,11,12]) (.block 0 (.loop Qvi))) Qy2)
def Qy4:SC:=(.seq (.reg (
  .f (some 5) none (.mv (.k (.c (.int .i64 (-1)))))::
  []) [0,1,5]) Qy3)
def Q3g:SC:=(.seq (.reg (
  .f (some 4) none (.mv (.k (.c (.int .i64 0))))::
  []) [0,1]) Qy4)
def Qk8:List RS:=[.tmp 4]
theorem Q2w:mFn prog Qdz 2 46 Q3g Qk8=true:=by kernel_rfl
def Qyx:SC:=(.seq (.dreg 16 [0,1,2,3,4,5,6,7,8,9,10,11,12,13,14,15] (
  .f (some 5) none (.mv (.t 0))::
  .f (some 6) none (.ld 1 false (.t 1))::
  .f (some 7) none (.bin 0 .neq (.t 5) (.t 6))::
  .f (some 8) none (.mv (.t 7))::
  .f (some 9) (some (8,true)) (.ld 1 false (.t 2))::
  .f (some 10) (some (8,true)) (.nck (.t 9))::
  .f (some 11) (some (8,true)) (.fad 3 (.t 10))::
  .f (some 12) (some (8,true)) (.ld 1 false (.t 11))::
  .f (some 13) (some (8,true)) (.mv (.t 0))::
  .f (some 14) (some (8,true)) (.iad 1 (.t 12) (.t 13))::
  .f (some 15) (some (8,true)) (.ld 1 false (.t 14))::
  .f (some 16) (some (8,true)) (.ld 1 false (.t 1))::
  .f (some 17) (some (8,true)) (.iad 1 (.t 15) (.t 16))::
  .f (some 18) (some (8,true)) (.ld 1 false (.t 17))::
  .f (some 19) none (.pick (.t 8) (.t 18) (.k (.c (.bool false))))::
  .f (some 4) none (.mv (.t 19))::
  []) [4]) .ret)
def Q3f:SC:=(.seq (.reg (
  .f (some 4) none (.mv (.k (.c (.bool false))))::
  []) [0,1,2]) Qyx)
def Qe2:List RS:=[.tmp 4]
theorem Q2v:mFn prog Qa7 3 20 Q3f Qe2=true:=by kernel_rfl
def Q4a:SC:=(.cond (.t 17) (.seq (.reg (
  .f (some 2) none (.mv (.k (.c (.bool true))))::
  []) [2]) .ret) .skip)
def Qjo:List Item:=
  .e none none (.sto 1 (.t 3) (.t 19))::
  []
def Qjp:List Item:=
  .e (some 3) none (.alloc [.sl true 3 []])::
  Qjo
def Qjq:List Item:=
  .f (some 5) none (.mv (.t 24))::
  []
def Qjr:List Item:=
  .e none none (.sto 1 (.t 4) (.t 23))::
  Qjq
def Qjs:List Item:=
  .f (some 20) none (.mv (.t 22))::
  .f (some 23) none (.ext (.t 20) 0)::
  .f (some 24) none (.ext (.t 20) 1)::
  .e (some 4) none (.alloc [.sl true 3 []])::
  Qjr
def Qjt:List Item:=
  .f (some 7) none (.mv (.t 29))::
  []
def Qju:List Item:=
  .e none none (.sto 1 (.t 6) (.t 28))::
  Qjt
def Qjv:List Item:=
  .f (some 25) none (.mv (.t 27))::
  .f (some 28) none (.ext (.t 25) 0)::
  .f (some 29) none (.ext (.t 25) 1)::
  .e (some 6) none (.alloc [.sl true 3 []])::
  Qju
def Qeb:List Item:=
  .f (some 37) (some (33,false)) (.not (.t 36))::
  .f (some 38) none (.pick (.t 33) (.k (.c (.bool true))) (.t 37))::
  .f (some 39) none (.mv (.t 38))::
  .f (some 40) (some (39,false)) (.mv (.t 5))::
  .f (some 41) (some (39,false)) (.not (.t 40))::
  .f (some 42) none (.pick (.t 39) (.k (.c (.bool true))) (.t 41))::
  []
def Qid:List Item:=
  .f (some 50) none (.pick (.t 46) (.t 49) (.k (.c (.bool false))))::
  .f (some 2) none (.mv (.t 50))::
  []
def Q1k:SC:=(.cond (.t 42) (.seq (.reg (
  .f (some 43) none (.mv (.t 5))::
  .f (some 44) none (.mv (.t 7))::
  .f (some 45) none (.bin 1 .eql (.t 43) (.t 44))::
  .f (some 46) none (.mv (.t 45))::
  .f (some 47) (some (46,true)) (.ld 1 true (.t 4))::
  .f (some 48) (some (46,true)) (.ld 1 true (.t 6))::
  .e (some 49) (some (46,true)) (.call Qbw [.t 47,.t 48])::
  Qid) [2]) .ret) .skip)
def Qie:List Item:=
  .chk 61 none (.ld 1 false (.t 60))::
  .chk 63 none (.iad 3 (.t 61) (.t 62))::
  .chk 64 none (.ld 3 true (.t 63))::
  .e none none (.sto 3 (.t 10) (.t 64))::
  []
def Qif:List Item:=
  .chk 56 none (.ld 1 false (.t 55))::
  .chk 58 none (.iad 3 (.t 56) (.t 57))::
  .chk 59 none (.ld 3 true (.t 58))::
  .chk 61 none (.ld 1 false (.t 60))::
  .chk 63 none (.iad 3 (.t 61) (.t 62))::
  .chk 64 none (.ld 3 true (.t 63))::
  .e none none (.sto 3 (.t 9) (.t 59))::
  Qie
def Qig:List Item:=
  .chk 56 none (.ld 1 false (.t 55))::
  .chk 58 none (.iad 3 (.t 56) (.t 57))::
  .chk 59 none (.ld 3 true (.t 58))::
  .chk 61 none (.ld 1 false (.t 60))::
  .chk 63 none (.iad 3 (.t 61) (.t 62))::
  .chk 64 none (.ld 3 true (.t 63))::
  .e (some 10) none (.alloc [.int .i64 0,.int .i64 0,.sl true 5 []])::
  Qif
def Qih:List Item:=
  .f (some 11) none (.mv (.t 66))::
  .f (some 12) none (.mv (.t 68))::
  []
def Qii:List Item:=
  .chk 67 none (.ld 3 true (.t 10))::
  .e (some 68) none (.call Qgu [.t 67])::
  Qih
def Q1l:SC:=(.block 3 (.reg (
  .f (some 84) none (.mv (.t 12))::
  .f (some 85) none (.mv (.t 14))::
  .f (some 86) none (.iad 1 (.t 84) (.t 85))::
  .f (some 87) none (.ld 1 false (.t 86))::
  .f (some 14) none (.mv (.t 87))::
  []) [9,11,12,13,14,71,72]))
def Qzg:SC:=(.seq (.seq (.reg (
  .f (some 79) none (.mv (.t 14))::
  .f (some 80) none (.fad 2 (.t 9))::
  .f (some 81) none (.ld 1 false (.t 80))::
  .f (some 82) none (.len (.t 81))::
  .f (some 83) none (.bin 0 .geq (.t 79) (.t 82))::
  []) [9,11,12,13,14,71,72,83]) (.cond (.t 83) .skip (.exit 2))) Q1l)
def Q1m:SC:=(.cond (.t 93) (.seq (.reg (
  .f (some 2) none (.mv (.k (.c (.bool false))))::
  []) [2]) .ret) .skip)
def Q1n:SC:=(.seq (.reg (
  .f (some 88) none (.mv (.t 14))::
  .f (some 89) none (.mv (.t 11))::
  .f (some 90) none (.mv (.t 13))::
  .f (some 91) none (.iad 1 (.t 89) (.t 90))::
  .f (some 92) none (.ld 1 false (.t 91))::
  .f (some 93) none (.bin 0 .neq (.t 88) (.t 92))::
  []) [9,11,12,71,72,93]) Q1m)
def Q1o:SC:=(.seq (.reg (
  .f (some 75) none (.mv (.t 12))::
  .f (some 76) none (.mv (.t 13))::
  .f (some 77) none (.iad 1 (.t 75) (.t 76))::
  .f (some 78) none (.ld 1 false (.t 77))::
  .f (some 14) none (.mv (.t 78))::
  []) [9,11,12,13,14,71,72]) (.seq (.block 2 (.loop Qzg)) Q1n))
def Q1p:SC:=(.reg (
  .f (some 94) none (.bin 0 .add (.t 72) (.k (.c (.int .i64 1))))::
  .f (some 72) none (.mv (.t 94))::
  []) [9,11,12,71,72])
def Q1q:SC:=(.seq (.block 1 (.seq (.reg (
  .f (some 74) none (.mv (.t 72))::
  .f (some 13) none (.mv (.t 74))::
  []) [9,11,12,13,71,72]) Q1o)) Q1p)
def Qzh:SC:=(.seq (.reg (
  .f (some 73) none (.bin 0 .lss (.t 72) (.t 71))::
  []) [9,11,12,71,72,73]) (.seq (.cond (.t 73) .skip (.exit 0)) Q1q))
def Q1r:SC:=(.seq (.reg (
  .f (some 2) none (.mv (.k (.c (.bool true))))::
  []) [2]) .ret)
def Q1s:SC:=(.seq (.seq (.reg (
  .f (some 69) none (.fad 2 (.t 9))::
  .f (some 70) none (.ld 1 false (.t 69))::
  .f (some 71) none (.len (.t 70))::
  .f (some 72) none (.mv (.k (.c (.int .i64 0))))::
  []) [9,11,12,71,72]) (.block 0 (.loop Qzh))) Q1r)
def Q1t:SC:=(.seq (.dreg 6 [0,2,1,2,3,4,5] (
  .f (some 65) none (.ld 3 true (.t 9))::
  .f (some 67) none (.ld 3 true (.t 10))::
  .e (some 66) none (.call Qgu [.t 65])::
  Qii) [9,11,12]) Q1s)
def Q1u:SC:=(.seq (.dreg 11 [0,1,2,3,4,5,6,7,8,9,10,1,3,4,6,8,9,11,1,3,4,6,8,9,12,6,8,9,13] (
  .f (some 55) none (.fad 0 (.t 3))::
  .f (some 56) none (.ld 1 false (.t 55))::
  .f (some 57) none (.mv (.t 8))::
  .f (some 58) none (.iad 3 (.t 56) (.t 57))::
  .f (some 59) none (.ld 3 true (.t 58))::
  .f (some 60) none (.fad 0 (.t 4))::
  .f (some 61) none (.ld 1 false (.t 60))::
  .f (some 62) none (.mv (.t 8))::
  .f (some 63) none (.iad 3 (.t 61) (.t 62))::
  .f (some 64) none (.ld 3 true (.t 63))::
  .e (some 9) none (.alloc [.int .i64 0,.int .i64 0,.sl true 5 []])::
  Qig) [9,10]) Q1t)
def Q1v:SC:=(.seq (.reg (
  .f (some 51) none (.fad 0 (.t 3))::
  .f (some 52) none (.ld 1 false (.t 51))::
  .f (some 53) none (.len (.t 52))::
  .f (some 54) none (.bin 0 .sub (.t 53) (.k (.c (.int .i64 1))))::
  .f (some 8) none (.mv (.t 54))::
  []) [3,4,8]) Q1u)
def Q1w:SC:=(.seq (.seq (.reg (
  .f (some 30) none (.mv (.t 5))::
  .f (some 31) none (.mv (.t 7))::
  .f (some 32) none (.bin 1 .neq (.t 30) (.t 31))::
  .f (some 33) none (.mv (.t 32))::
  .f (some 34) (some (33,false)) (.ld 1 true (.t 4))::
  .f (some 35) (some (33,false)) (.ld 1 true (.t 6))::
  .e (some 36) (some (33,false)) (.call Qbw [.t 34,.t 35])::
  Qeb) [3,4,5,6,7,42]) Q1k) Q1v)
def Q1x:SC:=(.seq (.reg (
  .f (some 26) none (.ld 1 true (.t 3))::
  .e (some 27) none (.call Qde [.t 26])::
  Qjv) [3,4,5,6,7]) Q1w)
def Q1y:SC:=(.seq (.reg (
  .f (some 21) none (.ld 1 true (.t 3))::
  .e (some 22) none (.call Qb7 [.t 21])::
  Qjs) [3,4,5]) Q1x)
def Q1z:SC:=(.seq (.reg (
  .f (some 18) none (.mv (.t 0))::
  .e (some 19) none (.call Qbo [.t 18])::
  Qjp) [3]) Q1y)
def Q10:SC:=(.seq (.seq (.reg (
  .f (some 15) none (.mv (.t 0))::
  .f (some 16) none (.len (.t 15))::
  .f (some 17) none (.bin 0 .gtr (.t 16) (.k (.c (.int .i64 1048576))))::
  []) [0,17]) Q4a) Q1z)
def Qahc:SC:=(.seq (.reg (
  .f (some 2) none (.mv (.k (.c (.bool false))))::
  []) [0]) Q10)
def Qh0:List RS:=[.tmp 2]
theorem Qaay:mFn prog Qnx 1 95 Qahc Qh0=true:=by kernel_rfl
def Qak3:List Item:=
  .f (some 5) none (.mv (.t 23))::
  []
def Qaqk:SC:=(.reg (
  .f (some 31) none (.mv (.t 5))::
  .f (some 32) none (.mv (.t 7))::
  .f (some 33) none (.mv (.t 6))::
  .e none none (.upd 0 (.t 31) (.t 32) (.t 33))::
  []) [1,2,4,5,24,25,26])
def Qaql:SC:=(.reg (
  .f (some 34) none (.bin 0 .add (.t 26) (.k (.c (.int .i64 1))))::
  .f (some 26) none (.mv (.t 34))::
  []) [1,2,4,5,24,25,26])
def Qaqm:SC:=(.seq (.block 1 (.seq (.reg (
  .f (some 28) none (.mv (.t 26))::
  .f (some 29) none (.iad 1 (.t 24) (.t 26))::
  .f (some 30) none (.ld 1 false (.t 29))::
  .f (some 6) none (.mv (.t 28))::
  .f (some 7) none (.mv (.t 30))::
  []) [1,2,4,5,6,7,24,25,26]) Qaqk)) Qaql)
def Qak9:SC:=(.seq (.reg (
  .f (some 27) none (.bin 0 .lss (.t 26) (.t 25))::
  []) [1,2,4,5,24,25,26,27]) (.seq (.cond (.t 27) .skip (.exit 0)) Qaqm))
def Qak4:List Item:=
  .f (some 8) none (.mv (.t 36))::
  []
def Qak5:List Item:=
  .e none none (.sto 3 (.t 9) (.t 41))::
  []
def Qak6:List Item:=
  .f (some 10) none (.mv (.t 44))::
  []
def Qak7:List Item:=
  .e none none (.sto 5 (.t 13) (.t 57))::
  []
def Qak8:List Item:=
  .e (some 13) none (.alloc [.sl true 2 [],.sl true 4 [],.int .i64 0,.int .i64 0,.sl true 1 []])::
  Qak7
def Qakd:SC:=(.reg (
  .f (some 66) none (.fad 4 (.t 13))::
  .f (some 67) none (.ld 1 false (.t 66))::
  .f (some 68) none (.mv (.t 14))::
  .f (some 69) none (.mv (.t 5))::
  .f (some 70) none (.mv (.t 15))::
  .f (some 71) none (.lup 0 (.c (.int .i64 0)) (.t 69) (.t 70))::
  .f (some 72) none (.iad 1 (.t 67) (.t 68))::
  .e none none (.sto 1 (.t 72) (.t 71))::
  []) [2,4,5,8,9,10,11,12,13,45,46,47,59,60,61])
def Qake:SC:=(.reg (
  .f (some 73) none (.bin 0 .add (.t 61) (.k (.c (.int .i64 1))))::
  .f (some 61) none (.mv (.t 73))::
  []) [2,4,5,8,9,10,11,12,13,45,46,47,59,60,61])
def Qakf:SC:=(.seq (.block 5 (.seq (.reg (
  .f (some 63) none (.mv (.t 61))::
  .f (some 64) none (.iad 1 (.t 59) (.t 61))::
  .f (some 65) none (.ld 1 false (.t 64))::
  .f (some 14) none (.mv (.t 63))::
  .f (some 15) none (.mv (.t 65))::
  []) [2,4,5,8,9,10,11,12,13,14,15,45,46,47,59,60,61]) Qakd)) Qake)
def Qacv:SC:=(.seq (.reg (
  .f (some 62) none (.bin 0 .lss (.t 61) (.t 60))::
  []) [2,4,5,8,9,10,11,12,13,45,46,47,59,60,61,62]) (.seq (.cond (.t 62) .skip (.exit 4)) Qakf))
def Qacq:List Item:=
  .f (some 18) none (.mv (.t 83))::
  []
def Qacr:List Item:=
  .f (some 87) none (.ext (.t 86) 0)::
  []
def Qacs:List Item:=
  .f (some 89) none (.ext (.t 88) 0)::
  .f (some 90) none (.ext (.t 88) 1)::
  .f (some 19) none (.mv (.t 89))::
  .f (some 20) none (.mv (.t 90))::
  []
def Qakg:SC:=(.cond (.t 97) (.reg (
  .f (some 98) none (.mv (.t 18))::
  .f (some 99) none (.mv (.t 21))::
  .f (some 100) none (.mv (.t 20))::
  .e none none (.upd 0 (.t 98) (.t 99) (.t 100))::
  []) [2,4,5,8,9,10,11,13,18,45,46,47,77,78,79,85]) .skip)
def Qakh:SC:=(.seq (.reg (
  .f (some 97) none (.mv (.t 22))::
  []) [2,4,5,8,9,10,11,13,18,20,21,45,46,47,77,78,79,85,97]) Qakg)
def Qaki:SC:=(.seq (.reg (
  .f (some 92) none (.mv (.t 5))::
  .f (some 93) none (.mv (.t 19))::
  .f (some 94) none (.lup2 0 (.c (.int .i64 0)) (.t 92) (.t 93))::
  .f (some 91) none (.mv (.t 94))::
  .f (some 95) none (.ext (.t 91) 0)::
  .f (some 96) none (.ext (.t 91) 1)::
  .f (some 21) none (.mv (.t 95))::
  .f (some 22) none (.mv (.t 96))::
  []) [2,4,5,8,9,10,11,13,18,20,21,22,45,46,47,77,78,79,85]) Qakh)
def Qakj:SC:=(.block 9 (.seq (.reg (
  .e (some 88) none (.ent (.t 85))::
  Qacs) [2,4,5,8,9,10,11,13,18,19,20,45,46,47,77,78,79,85]) Qaki))
def Qacw:SC:=(.seq (.reg (
  .e (some 86) none (.nxt (.t 85))::
  Qacr) [2,4,5,8,9,10,11,13,18,45,46,47,77,78,79,85,87]) (.seq (.cond (.t 87) .skip (.exit 8)) Qakj))
def Qact:List Item:=
  .f (some 110) none (.iad 1 (.t 101) (.t 102))::
  .e none none (.sto 1 (.t 110) (.t 109))::
  []
def Qakk:SC:=(.reg (
  .f (some 101) none (.mv (.t 10))::
  .f (some 102) none (.mv (.t 11))::
  .f (some 103) none (.mv (.t 10))::
  .f (some 104) none (.mv (.t 11))::
  .f (some 105) none (.iad 1 (.t 103) (.t 104))::
  .f (some 106) none (.ld 1 false (.t 105))::
  .f (some 107) none (.mv (.t 18))::
  .f (some 108) none (.bsl 1 [.t 107])::
  .e (some 109) none (.app 1 (.t 106) (.t 108))::
  Qact) [2,4,5,8,9,10,11,13,45,46,47,77,78,79])
def Qakl:SC:=(.seq (.seq (.reg (
  .f (some 84) none (.mv (.t 17))::
  .e (some 85) none (.rng (.t 84))::
  []) [2,4,5,8,9,10,11,13,18,45,46,47,77,78,79,85]) (.block 8 (.loop Qacw))) Qakk)
def Qakm:SC:=(.seq (.reg (
  .e (some 83) none (.mkm)::
  Qacq) [2,4,5,8,9,10,11,13,17,18,45,46,47,77,78,79]) Qakl)
def Qakn:SC:=(.reg (
  .f (some 111) none (.bin 0 .add (.t 79) (.k (.c (.int .i64 1))))::
  .f (some 79) none (.mv (.t 111))::
  []) [2,4,5,8,9,10,11,13,45,46,47,77,78,79])
def Qako:SC:=(.seq (.block 7 (.seq (.reg (
  .f (some 81) none (.iad 1 (.t 77) (.t 79))::
  .f (some 82) none (.ld 1 false (.t 81))::
  .f (some 17) none (.mv (.t 82))::
  []) [2,4,5,8,9,10,11,13,17,45,46,47,77,78,79]) Qakm)) Qakn)
def Qacx:SC:=(.seq (.reg (
  .f (some 80) none (.bin 0 .lss (.t 79) (.t 78))::
  []) [2,4,5,8,9,10,11,13,45,46,47,77,78,79,80]) (.seq (.cond (.t 80) .skip (.exit 6)) Qako))
def Qacu:List Item:=
  .f (some 117) none (.fad 2 (.t 9))::
  .e none none (.sto 1 (.t 117) (.t 116))::
  []
def Qakp:SC:=(.reg (
  .f (some 112) none (.fad 2 (.t 9))::
  .f (some 113) none (.ld 1 false (.t 112))::
  .f (some 114) none (.ld 5 true (.t 13))::
  .f (some 115) none (.bsl 5 [.t 114])::
  .e (some 116) none (.app 5 (.t 113) (.t 115))::
  Qacu) [2,4,5,8,9,10,45,46,47])
def Qakq:SC:=(.seq (.seq (.reg (
  .f (some 74) none (.mv (.t 8))::
  .f (some 75) none (.mv (.t 12))::
  .f (some 76) none (.iad 1 (.t 74) (.t 75))::
  .f (some 77) none (.ld 1 false (.t 76))::
  .f (some 78) none (.len (.t 77))::
  .f (some 79) none (.mv (.k (.c (.int .i64 0))))::
  []) [2,4,5,8,9,10,11,13,45,46,47,77,78,79]) (.block 6 (.loop Qacx))) Qakp)
def Qakr:SC:=(.seq (.seq (.reg (
  .f (some 58) none (.fad 4 (.t 13))::
  .f (some 59) none (.ld 1 false (.t 58))::
  .f (some 60) none (.len (.t 59))::
  .f (some 61) none (.mv (.k (.c (.int .i64 0))))::
  []) [2,4,5,8,9,10,11,12,13,45,46,47,59,60,61]) (.block 4 (.loop Qacv))) Qakq)
def Qaks:SC:=(.seq (.reg (
  .f (some 52) none (.fad 2 (.t 2))::
  .f (some 53) none (.ld 1 false (.t 52))::
  .f (some 54) none (.mv (.t 12))::
  .f (some 55) none (.iad 5 (.t 53) (.t 54))::
  .f (some 56) none (.ld 5 true (.t 55))::
  .e (some 57) none (.call Qbh [.t 56])::
  Qak8) [2,4,5,8,9,10,11,12,13,45,46,47]) Qakr)
def Qakt:SC:=(.reg (
  .f (some 118) none (.bin 0 .add (.t 47) (.k (.c (.int .i64 1))))::
  .f (some 47) none (.mv (.t 118))::
  []) [2,4,5,8,9,10,45,46,47])
def Qaku:SC:=(.seq (.block 3 (.seq (.reg (
  .f (some 49) none (.mv (.t 47))::
  .f (some 50) none (.iad 1 (.t 45) (.t 47))::
  .f (some 51) none (.ld 1 false (.t 50))::
  .f (some 11) none (.mv (.t 49))::
  .f (some 12) none (.mv (.t 51))::
  []) [2,4,5,8,9,10,11,12,45,46,47]) Qaks)) Qakt)
def Qacy:SC:=(.seq (.reg (
  .f (some 48) none (.bin 0 .lss (.t 47) (.t 46))::
  []) [2,4,5,8,9,10,45,46,47,48]) (.seq (.cond (.t 48) .skip (.exit 2)) Qaku))
def Qakv:SC:=(.seq (.reg (
  .f (some 121) none (.ld 3 true (.t 9))::
  .e none none (.sto 3 (.t 4) (.t 121))::
  []) [4]) .ret)
def Qakw:SC:=(.seq (.seq .gh (.reg (
  .f (some 119) none (.mv (.t 10))::
  .e (some 120) none (.call Qix [.t 9,.t 119])::
  []) [4,9])) Qakv)
def Qakx:SC:=(.seq (.seq (.reg (
  .f (some 45) none (.mv (.t 1))::
  .f (some 46) none (.len (.t 45))::
  .f (some 47) none (.mv (.k (.c (.int .i64 0))))::
  []) [2,4,5,8,9,10,45,46,47]) (.block 2 (.loop Qacy))) Qakw)
def Qaky:SC:=(.seq (.reg (
  .f (some 42) none (.mv (.t 1))::
  .f (some 43) none (.len (.t 42))::
  .e (some 44) none (.mks 1 [.sl true 1 []] (.t 43))::
  Qak6) [1,2,4,5,8,9,10]) Qakx)
def Qakz:SC:=(.seq (.reg (
  .f (some 37) none (.fad 0 (.t 2))::
  .f (some 38) none (.ld 1 false (.t 37))::
  .f (some 39) none (.fad 1 (.t 2))::
  .f (some 40) none (.ld 1 false (.t 39))::
  .f (some 41) none (.bld [.int .i64 0,.int .i64 0,.sl true 5 []] [(0,1,.t 38),(1,1,.t 40)])::
  .e (some 9) none (.alloc [.int .i64 0,.int .i64 0,.sl true 5 []])::
  Qak5) [1,2,4,5,8,9]) Qaky)
def Qak0:SC:=(.seq (.reg (
  .f (some 35) none (.ld 3 true (.t 2))::
  .e (some 36) none (.call Qiw [.t 35])::
  Qak4) [1,2,4,5,8]) Qakz)
def Qak1:SC:=(.seq (.seq (.reg (
  .f (some 24) none (.mv (.t 1))::
  .f (some 25) none (.len (.t 24))::
  .f (some 26) none (.mv (.k (.c (.int .i64 0))))::
  []) [1,2,4,5,24,25,26]) (.block 0 (.loop Qak9))) Qak0)
def Qak2:SC:=(.seq (.reg (
  .e (some 23) none (.mkm)::
  Qak3) [1,2,4,5]) Qak1)
def s_im_picked:SC:=(.seq (.reg (
  .f (some 2) none (.box (.t 0))::
  .e (some 4) none (.alloc [.int .i64 0,.int .i64 0,.sl true 5 []])::
  []) [1,2,4]) Qak2)
def r_im_picked:List RS:=[.cell 4 3 true]
end Go.AE.Y

