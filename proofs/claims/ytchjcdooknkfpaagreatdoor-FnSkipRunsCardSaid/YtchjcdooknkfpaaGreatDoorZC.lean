/- Part 3 of the proof: the engine, codes, walks and plain laws, each named where it stands. -/
import Derived.Test.YtchjcdooknkfpaaGreatDoorZB
open Nat (reduceEqDiff reduceAdd reduceLeDiff reduceLT)
set_option linter.unusedVariables false
set_option linter.unusedSimpArgs false
set_option maxRecDepth 4000
set_option maxHeartbeats 4000000
open Int renaming eq_ofNat_of_zero_le->Jo,tmod_lt_of_pos->J0,tmod_nonneg->J4
open List renaming mem_singleton->Ja,getElem_mem->Jb,getD_eq_getElem?_getD->Jc,take_of_length_le->Jd,length_map->Jf,mem_append_right->Jh,perm_append_comm->Ji,take_succ_eq_append_getElem->Jj,length_cons->Jk,mem_append->Jl,append_assoc->Jm,length_nil->Jn,drop_zero->Jp,nil_append->Jq,cons_append->Jr,flatMap_append->Js,map_set->Jt,set_cons_zero->Ju,map_append->Jv,take_append_drop->Jw,getD_cons_zero->Jx,mem_or_eq_of_mem_set->J1,getElem?_eq_getElem->J2,length_take->J3,contains_iff_mem->J5,getD_cons_succ->J6,nodup_append->J8,all_eq_true->Jaa,filter_cons->Jab,mem_flatMap->Jac,all_append->Jad,filter_nil->Jae,length_set->Jaf,map_cons->Jah,take_nil->Jai,map_nil->Jaj,set_set->Jak
open Nat renaming le_refl->Je,zero_add->Jg,lt_pow_self->Jy,mul_le_mul_left->Jz,one_le_two_pow->J7,le_trans->J9,le_succ->Jag,mul_succ->Jal
namespace Go.AE.Y
open Go.Proofs.Tryz
def IT:=dY 32929
def Qabu:=dZ 0x872102f002110a3
def Qk2:=dY 0x29583e090042
def Qk4:=dY 0xa90039f02041a2
def Qabw:=dZ 0x811510123d58363801730 .skip Qk4
def Qabx:=dZ 0x190970061117101222d480181613312 Q05 S9 Qabw
def Qaby:=dZ 0x81150b900e9f1fe8041b20
def Qabz:=dZ 0x19090060011715700332f059f03624331010410142 Qabx Qk2 Qaby
def Q2u:=dZ 0x9000fb0008116010440f11 Qabz
def Q5z:=dZ 0x7210d90029f03209f0543801c31
def Q50:=dZ 0x1909500400811500f0050118020b412 Q2u [] Q5z
def Q51:=dZ 0x911200f00311 Q50
def Q52:=dZ 0x19098121046f1f0321d050140206412 Qabu IT Q51
def Qan9:=dZ 0x91102f0090121 Q52
theorem Qane:mFn prog Vw 1 30 Qan9 BH=true:=ZF
def Qns:=dY 0x62e01131021702d1f40414f083
def Qahk:=dZ 0x72110137d013120110203506050104030201000807a2 .skip Qns
def Qaww:=dZ 0x90120170232f090121 Qahk
abbrev Tk:List RS:=[.cell 2 2 true]
theorem Qavt:mFn prog Ka 1 9 Qaww Tk=true:=ZF
def Qk6:=dY 0xc8585e001
def Qab3:=dZ 0x3340590039f0704030405015812050158023800da0
def Qab4:=dZ 0x3340690099f1f98041620
def Qab5:=dZ 0x1909001135117004727532f059f05613530b310142 Qab3 Qk6 Qab4
def Q56:=dZ 0x9000ab000335010440a11 Qab5
def Qab6:=dZ 0x7210790029f3801721
def Qab7:=dZ 0x190950040033400f0050142206412 Q56 [] Qab6
def Qab8:=dZ 0x911200f00311 Qab7
def Qaoc:=dZ 0x91100f0090121 Qab8
theorem Qang:mFn prog Qqf 1 24 Qaoc BH=true:=ZF
def Qxy:=dY 0x9583e001
def SJ:=dY 0x3f5a03c80f232
def SI:=dY 0x1a06f1f03213c03f03c50f03c10f5823c20f0003f7a02a80f1c7 SJ
def Va:=dY 0x100f33212a03f08f02a10f5812a20f02a10f5802a20f0008148 SI [gF 26 21 (.mn (kI 3) (.t 25))]
def s_im_codeOk_4:=dZ 0x874102f00411243
def Qxz:=dY 0x5a681e001
def Qx0:=dY 0xda885eba0072
def Kg:=dY 0x3f1ca2f0382a0f0f038d40f08d10f8838d20f08200f08280f457
def Kf:=dY 0x1013b8203f08210f8828220f0003f5ba2f056aa0f07380f3e7 Kg
def SH:=dY 0x10217343f07310f8837320f687310f06a00f395 Kf
def Vn:=dY 0x1013b6a03f06a10f8826a20f00033443054f52f14f347 SH
def s_im_codeOk_11:=dZ 0x874102f004114b3
def Vm:=dY 66364753
def Vl:=dY 0x10123ea003f382823fa0e0f0a010f881a020f00505 Vm
def s_im_codeOk_14:=dZ 0x874102f00411553
def Qrm:=dY 0x9d0099f05592
def Qrn:=dY 0xeb82e001
def Ke:=dY 66365281
def Kd:=dY 0x10123ce203f68141e2e0f0e210fb81e220f0003f5a013d440f98d400f0d450f0d410fb81d420f0003f5a0c680f68e Ke
def Qxu:=dZ 0x874102f00411763
def Qaod:=dZ 0x976f005bf0027f100102d1021c643f0c610fb80c620f68c610f000f0247806171 Qxu Kd
def Qxv:=dZ 0x5bf0027f100102c0775f05d9f1fdd047720
def Qaoe:=dZ 0x1909005bf0027f1100102d1170232f0b9f02613235f310342 Qaod Qrn Qxv
def Qahl:=dZ 0x9025eb0005bf0027f100102d010445e11 Qaoe
def Qaof:=dZ 0x95024005bf0027f100102c00f0050188025a41 Qahl
def Vb:=dZ 0x90027f0000102a101232d78058365631 Qaof Qrm
def Qxw:=dZ 0x190955f0027f000102a10123cd5813de1f0188424c412 s_im_codeOk_14 Vl Vb
def Qaog:=dZ 0x19094bf0027f000102a1013ad018822050188422e61d1c1b1a191817161514131211100f0e0d0c0b0a090807060201050403020100201ea22 s_im_codeOk_11 Vn Qxw
def Qaoh:=dZ 0x27f010270785f0299f1f9a047820
def Qaoi:=dZ 0x19090027f0001029117004727532f089f0562453102b410142 Qaog Qx0 Qaoh
def Qahm:=dZ 0x9002ab00027f01028010442a11 Qaoi
def Qaok:=dZ 0x190950040027f0102700f00501582226412 Qahm [] CU
def Qxx:=dZ 0x90102415132f069f58139e1f2521 Qaok Qxz
def Qaol:=dZ 0x190924f10241012c9f0f0321d01581211312 s_im_codeOk_4 Va Qxx
def Qaom:=dZ 0x9102315700332f059f03601333810128020c61 Qaol Qxy
def Qbcg:=dZ 0x902202f019190231 Qaom
theorem Qbbl:mFn prog Q7l 2 121 Qbcg BG=true:=ZF
def TY:=dY 8912945
def Qab9:=dZ 0x731100f3321d1f01401312300451 .skip TY
def N6:=dZ 0x900202f00311 Qab9
theorem Qanh:mFn prog Ew 2 9 N6 Dx=true:=ZF
def Qaca:=dZ 0x731101f4321d1f0140501322300461 .skip SB
def Qaoo:=dZ 0x900202f00311 Qaca
theorem Qani:mFn prog Qqg 2 11 Qaoo Dx=true:=ZF
def Qk9:=dY 0x980049f08092
def Qacb:=dZ 0x7411012340d346313160541 .skip Qk9
def Qaop:=dZ 0x9001302f0290321 Qacb
theorem Qanj:mFn prog Qqh 3 10 Qaop BG=true:=ZF
def TU:=dY 0x780039f08072
def Qacc:=dZ 0x731101142f40210431 .skip TU
def N5:=dZ 0x900202f00311 Qacc
theorem Qank:mFn prog Qqi 2 8 N5 Dx=true:=ZF
def Qaos:=dZ 0x610a80069f0d6f6240a208063
def Qaot:=dZ 0x92320980069f0b6f52409218063 Qaos
def Qaou:=dZ 0x92320880069f0a6f42408218063 Qaot
def Qx1:=dZ 0x872101f00211063
def Qaov:=dZ 0x19092320780069f026f3240721272100f00211043 Qaou [] Qx1
def Qaow:=dZ 0x90320580049f1f1240521004 Qaov
def Qx2:=dZ 0x7210026f00211
def Qaox:=dZ 0x19093102003112 Qaow [] Qx2
def Qa3j:=dZ 0x90100f00211 Qaox
theorem Qa1y:mFn prog Q1l 1 11 Qa3j BH=true:=ZF
def Tn:=dY 0xd8783e001
def Q27:=dY 0xe8881e001
def TO:=dY 66363777
def Q28:=dY 0x10123c2603f8816926e0f02610f5822620f0008126 TO
def s_im_insOk_4:=dZ 0x876102f00611183
def S7:=dY 0x3f3aa2f0346a0f7f035140f05110f5815120f04600f04680f277
def S6:=dY 0x1016a4603f04610f5804620f002f05a03980f216 S7
def TN:=dY 0x10213943f03910f5813920f883910f001c5 S6
def s_im_insOk_8:=dZ 0x876102f006112d3
def TM:=dY 0xab0069f2f03a3a2
def SG:=dY 0xec0069f2f02ca0728540f08510f008520f0238530f08510f5838520f08510f3808520f08550f08510f5828520f0042e
def Qawx:=dZ 0x8761100f2321d1f0141800158323d513f13f23b3 .skip SG
def Qawy:=dZ 0x93bf11140cb03b9f0e6ffa243c217611016b6d03f06d10f5836d20f000f024050158223281303 Qawx TM
def Qawz:=dZ 0x902ff111501b0309f1f1243121004 Qawy
def TZ:=dY 0xad0069f2f07a032a540f4a55555f5a55415f595
def Qaw0:=dZ 0x7611016ca503f0a510f580a520f0a550f0a510f582a520f000f0240158324fa0c0b0a0605090807060504030201000f0da2 .skip TZ
def Q24:=dZ 0x19092ff111400158022e212 Qawz [] Qaw0
def Q25:=dZ 0x19092df11141016ad01580219312 s_im_insOk_8 TN Q24
def Qaw1:=dZ 0x190918f2111510168d0158020f312 s_im_insOk_4 Q28 Q25
def Qaw2:=dZ 0x92111415132f089f6167e1f0e21 Qaw1 Q27
def Qaw3:=dZ 0x91111415700332f079f0360133180015020961 Qaw2 Tn
def Qbmu:=dZ 0x9111302f029059f290331 Qaw3
theorem Qbl0:mFn prog Pl 3 91 Qbmu BN=true:=ZF
theorem Qavu:mFn prog SL 2 9 N6 Dx=true:=ZF
theorem Qavv:mFn prog Qw4 2 8 N5 Dx=true:=ZF
def Se:=dY 4718625
def Qaw6:=dZ 0x7211ff6f0f0321d200321 .skip Se
def Qbch:=dZ 0x90102f00211 Qaw6
theorem Qbbm:mFn prog Q7m 1 5 Qbch BH=true:=ZF
def Qa3l:=dZ 0x72110e6f1f0321d200321 .skip Se
def Qbmv:=dZ 0x90102f00211 Qa3l
theorem Qbl1:mFn prog Pd 1 5 Qbmv BH=true:=ZF
def Qcm:=dY 0xd8785e001
def Qco:=dY 0x104522f015c122 DM
def Qjy:=dZ 0x2315101142f78561805800e40 .skip Qco
def Is:=dZ 0x231504900a9f1fa8041420
def Qj0:=dZ 0x19090001316117004727532f079f05613530c310142 Qjy Qcm Is
def Qii:=dZ 0x9000bb0002316010440b11 Qj0
def Iv:=dZ 0x7410590049f5801521
def Qj2:=dZ 0x1909500400231500f0057008312 Qii [] Iv
def Qj3:=dZ 0x93003054f00511 Qj2
def Qmm:=dZ 0x9002054f00411 Qj3
theorem Qma:mFn prog Y7 2 22 Qmm BG=true:=ZF
def Qdj:=dY 0x104322f013c122 DM
def Qmn:=dZ 0x2315101142f78361805800e40 .skip Qdj
def Qmp:=dZ 0x1909000131615700332f079f03613330c310142 Qmn Tn Is
def Qlb:=dZ 0x9000bb0002316010440b11 Qmp
def Qmr:=dZ 0x1909500400231500f0057008312 Qlb [] Iv
def Qms:=dZ 0x93003034f00511 Qmr
def Qrp:=dZ 0x9002034f00411 Qms
theorem Qqt:mFn prog Qd0 2 22 Qrp BG=true:=ZF
def Qd2:=dY 0xd8784e001
def Qd4:=dY 0x104422f014c122 DM
def Qrq:=dZ 0x2315101142f78461805800e40 .skip Qd4
def Qrs:=dZ 0x19090001316101700432f079f04613430c310142 Qrq Qd2 Is
def Qpb:=dZ 0x9000bb0002316010440b11 Qrs
def Qru:=dZ 0x1909500400231500f0057008312 Qpb [] Iv
def Qrv:=dZ 0x93003044f00511 Qru
def Qz3:=dZ 0x9002044f00411 Qrv
theorem Qzr:mFn prog VC 2 22 Qz3 BG=true:=ZF
def SQ:=dY 0xd8782e001
def Qd7:=dY 0x104222f012c122 DM
def Qrw:=dZ 0x2315101142f78261805800e40 .skip Qd7
def Qry:=dZ 0x190900013161170232f079f02613230c310142 Qrw SQ Is
def Qpc:=dZ 0x9000bb0002316010440b11 Qry
def Qr0:=dZ 0x1909500400231500f0057008312 Qpc [] Iv
def Qr1:=dZ 0x93003024f00511 Qr0
def Qz4:=dZ 0x9002024f00411 Qr1
theorem Qzs:mFn prog VB 2 22 Qz4 BG=true:=ZF
def Qacd:=dZ 0x872100f00211083
def Qace:=dZ 0x9810980089f036f52409217210026f00211063 Qacd
def Qacf:=dZ 0x92320780069f026f324072172101f00211043 Qace
def Qacg:=dZ 0x90320580049f1f1240521004 Qacf
def Qaci:=dZ 0x19093102003112 Qacg [] GU
def Qao0:=dZ 0x90100f00211 Qaci
theorem Qanl:mFn prog Qqj 1 10 Qao0 BH=true:=ZF
def DN:=dY 3080273
def Qao1:=dZ 0x870421051e0371d1f0921083 .skip DN
def IF:=dY 4128849
def Qsi:=dY 0x10481e0101371d1f0e2 IF
def Qao2:=dZ 0x704210122fd180017020a41 .skip Qsi
def Qao3:=dZ 0x1909310141010dd31606212 Qao1 SA Qao2
def Qa3m:=dZ 0x91013137132f049f190221 Qao3 DN
abbrev EZ:List RS:=[.cell 4 1 true,.tmp 5]
theorem Qa10:mFn prog TW 2 15 Qa3m EZ=true:=ZF
def Qbcn:=dZ 0x72110168d200321 .skip Gb
def Qbs1:=dZ 0x90102f00211 Qbcn
theorem Qbrg:mFn prog Ny 1 13 Qbs1 BH=true:=ZF
def Qaxk:=dZ 0x7210880029f03f2a036f020a40f50a00f00026f024200371
def Qbcp:=dZ 0x90102f00211 Qaxk
theorem Qbbq:mFn prog Q7q 1 9 Qbcp BH=true:=ZF
def Qyr:=dY 0x99a85e001
def Qayf:=dZ 0x8053303f01e021301a8329801d501c3
def Qys:=dY 0xfa00c1
def Qayg:=dZ 0x80053402f01e0113c809803240313
def Qayh:=dZ 0x1005350fb00d9f1f004d803e30
def Qayi:=dZ 0x910053503f01e00c13010113d80010220143b8001a81298040c00342 Qayh
def Qaqr:=dZ 0x902683d33df1005360074405010220143b8001a812d8035912 Qayi
def Qayj:=dZ 0x9502410053500f00d11 Qaqr
def Qayk:=dZ 0x190931f00053600f074c8030212 Qayg [] Qayj
def Qaqk:=dZ 0x53409a00b9f1f014b802830
def Qaql:=dZ 0x1909000535101ddd0460143b8001a8122a610142 Qayk Qys Qaqk
def Qah8:=dZ 0x9006827327f0053500164380b8025312 Qaql
def Qaqm:=dZ 0x7810bc0089f9804b21
def Qaqn:=dZ 0x190950040053404a00b9f1f0140501a81221512 Qah8 [] Qaqm
def Qaqo:=dZ 0x19091cf053401f03401a8221a312 Qayf [] Qaqn
def Qaqp:=dZ 0x90533117004727532f0a9f05601532800148221561 Qaqo Qyr
def Qaqq:=dZ 0x940024105122f01011328001581201c0e71 Qaqp Dp
def Qbdq:=dZ 0x900024014f0089f39390431 Qaqq
theorem Qbbu:mFn prog Q7t 4 76 Qbdq C4=true:=ZF
def Q9a:=dY 0x9900a1
def Q9b:=dY 0x10128ed280182 Q9a
def Qbdr:=dZ 0x30002704a00b9f1f004b802330
def Qbds:=dZ 0x90030002703f01e05a13010113a80010120123b800100201533800148229802510f00142 Qbdr
def Qa6b:=dZ 0x9006822322f003000280074405010020153380014822b801a912 Qbds
def OL:=dZ 0x23012603f01e0113d800101132800158124a80
def Qbdt:=dZ 0x809023012609c00c9f03ffba07e80f07e10f0117e30fd87e00f07e10f0117e30f287e00f07e10f5817e20f00c803ed13d3 OL
def Qbdu:=dZ 0x23012609b00d9f1f004d803830
def Qbdv:=dZ 0x19093df02301270010113d809803a410342 Qbdt [] Qbdu
def Qayl:=dZ 0x9026837337f023012700244014812d8034412 Qbdv
def Qa55:=dZ 0x78101d0089fc805121
def Qa56:=dZ 0x19095024023012600f00d112 Qayl [] Qa55
def Qa57:=dZ 0x923012502f00c11 Qa56
def Qa58:=dZ 0x190950040030002700f00b112 Qa6b [] Qa57
def Qa59:=dZ 0x90300026101289d38048361531 Qa58 Q9b
def Qa6a:=dZ 0x9300025105122f01011338001580201c0e71 Qa59 Dp
def Qbtg:=dZ 0x90002402f0089f39390431 Qa6a
theorem Qbro:mFn prog Nj 4 82 Qbtg C4=true:=ZF
def Q9c:=dY 0xc8382e001
def Q9d:=dY 0x101e38021c2
def Q9e:=dY 0x104122f011c41614f1a3 Q9d
def Q9f:=dY 0x101e3812242
def Q9g:=dY 0x104122f011c41e14f223 Q9f
def Qbdw:=dW 0x15108f0118120138121d5080706050104030201000a09a [] [Q9g] [eI 33 (.mks 1 [.bool false] (.t 32))]
def Qbdx:=dZ 0x150490059f1f0045801330
def Qbdy:=dW 0x1909000015108f011812013802155080706050104030201000a09a20142 [Qbdw,Qbdx] [Q9e] [eI 25 (.mks 1 [.bool false] (.t 24))]
def Qa6v:=dZ 0x90068123c0000160014448058010312 Qbdy
def T7:=dY 0x6c0069f03f1a688800f00444
def Qa6c:=dZ 0x10001706b0089f1f0048803530
def Qa6d:=dZ 0x900100017109b8b7b4dbd0101138800104201537800118227803826183637d11f11f0742 Qa6c T7
def Qaym:=dZ 0x9066834334f0010001800744050104201537800118228802c912 Qa6d
def Q3t:=dY 0xac0091
def Qa6e:=dZ 0x1010001805d00a9f1f004a805430
def Qa6f:=dZ 0x901010001802f01e06d13010020123a8001002015378001182298056d00942 Qa6e
def Qayn:=dZ 0x9086853353f0101000190074405010020153780011822a804b912 Qa6f
def Qa6g:=dZ 0x11010001807e00b9f1f004b806630
def Qa6h:=dZ 0x91101000180775f0069f03f9ea0de31d2f0f0d210f011d230fb8d200f0d210f011d230f78d200f0d210f380d220f0d210f011d230fb8d200f98d200f006806811f11f11f0b42 Qa6g
def Qayo:=dZ 0x90a6865365f11010001900244011812b8062412 Qa6h
def Qa6i:=dZ 0x1000160101e12139807800138027860
def Qa6j:=dZ 0x190950a411010001800f00b112 Qayo [] Qa6i
def Qa6k:=dZ 0x1909508401010001800f00a112 Qayn [] Qa6j
def Qa6l:=dZ 0x91010001717f0124b7d780382618364741 Qa6k Q3t
def Qa6m:=dZ 0x1000160ba0079f1f0147802a30
def Qa6n:=dW 0x29190950640010001700f0081120542 [Qaym,Qa6l,Qa6m] []
def Qayp:=dZ 0x9046829329f010001700f07478028212 Qa6n
def Qa6o:=dZ 0x95044010001607a0079f1f0144802631 Qayp
def Qa6p:=dZ 0x910001502f00611034 Qa6o
def Qayq:=dZ 0x9026825325f00015068025112 Qa6p
def Qa6q:=dZ 0x72100282e38267d21
def Qa6r:=dZ 0x1909502410001503f006112 Qayq [] Qa6q
def Qa6s:=dZ 0x1909500400001500f005112 Qa6v [] Qa6r
def Qa6t:=dZ 0x9000140f80049f050118220d41 Qa6s
def Qa6u:=dZ 0x9001311717232f039f017172d1f0c21 Qa6t Q9c
def Qbth:=dZ 0x901201717232f090121 Qa6u
theorem Qbrp:mFn prog Ni 1 126 Qbth Tk=true:=ZF
def Qm3:=dZ 0x741101266d40400531 .skip Gl
def Qu4:=dZ 0x900202f00411 Qm3
theorem Qqv:mFn prog Qd1 2 9 Qu4 BG=true:=ZF
def Qwv:=dZ 0x97013006004142f0460143700801800b61 EF
def Qwx:=dZ 0x19090130050a80059f100a210142 Qwv [] Gd
def Qu5:=dZ 0x90009b005005010440911 Qwx
def Qwz:=dZ 0x190950040500400f0055006312 Qu5 [] Dn
def Q4r:=dZ 0x900200f00411 Qwz
theorem Q19:mFn prog Qhc 2 19 Q4r BG=true:=ZF
def Qaz5:=dZ 0x87210780029f014120631053
def Qaz7:=dZ 0x19093120019bd0110203312 Qaz5 [] GU
def Qbik:=dZ 0x91100f0090121 Qaz7
theorem Qbb2:mFn prog Q70 1 8 Qbik BH=true:=ZF
end Go.AE.Y
attribute [go_sem_proc] reduceIte reduceEqDiff reduceAdd reduceLeDiff reduceLT reduceCtorEq
namespace Go.AE.Y
open Go.Proofs.Tryz
theorem BF:prog.follows .mixedOrders=true:=ZF
theorem Qb22 (l : Nat) (fl : Bool) (bs : List UInt8) (k : Nat) (n : Int) (H : Heap) (K : V -> Heap -> Prop)
   (hH : H l = .st [.sl fl 1 (C7 bs), Ui k]) (cB : k <= 2^40)
   (hK : ∀ v : Int, (if n < 1 then v = 0 else 0 <= v /\ v < n) -> K (Uv v) (H.set l (.st [.sl fl 1 (C7 bs), Ui ((k + 1 : Nat) : Int)]))) :
   Qr prog TV [Up l, Uv n] H K := by
  refine Qd BF Qa15 ?_;refine Qa ?_;simp only [go_sem, Nat.reduceEqDiff, Nat.reduceAdd];refine Qa ?_;simp only [go_sem, Nat.reduceEqDiff, Nat.reduceAdd, Nat.reduceLT, hH];refine ⟨Qs, λH2 vf => ?_⟩;have rO : H2 l = .st [C.sl fl 1 (C7 bs), C.int IntKind.i64 (k + 1)] := by rw [vf]; exact Heap.aF _ _ _
  have Ae : ∀ v : Int, (if n < 1 then v = 0 else 0 <= v /\ v < n) -> K (Uv v) H2 := by
    intro v hv; rw [vf]; exact hK v hv
  clear hK;refine Q1 (Qa ?_);simp only [go_sem, EE, Nat.reduceEqDiff, Nat.reduceAdd, Nat.reduceLeDiff, rO];intro _;refine Wu ?_ ?_
  · intro hc;refine Qa ?_;simp only [go_sem, Nat.reduceEqDiff];refine Ql ?_;simp only [go_sem, Q4, BE, BG, Ja, forall_eq, RS.op];refine Ae 0 ?_;split <;> omega
  · intro hc;refine Qi ?_;simp only [go_sem];have hn : 1 <= n /\ bs.length ≠ 0 := by
      simp only [cond_eq_ite] at hc;split at hc
      · simp at hc
      · simp at hc; simp_all
    refine Qa ?_;simp only [go_sem, Nat.reduceEqDiff, Nat.reduceAdd, rO];refine ⟨Qs, ?_⟩;refine Q1 (Qa ?_);simp only [go_sem, EE, Nat.reduceEqDiff, Nat.reduceAdd, Nat.reduceLeDiff, rO];intro hl;refine Wu ?_ ?_
    · intro aD;have hk : k < bs.length := ZH;refine Qa ?_;simp only [go_sem, EE, LJ, Nat.reduceEqDiff, Nat.reduceAdd, Nat.reduceLeDiff, rO, hk, Q7h];refine ⟨ZB, ?_⟩;refine Ql ?_;simp only [go_sem, Q4, BE, BG, Ja, forall_eq, RS.op];refine Ae _ ?_;rw [if_neg ZB];exact ⟨J4 _ ZB, J0 _ ZB⟩
    · intro aD;refine Qi ?_;simp only [go_sem];refine BM ?_;have e1 : ((k : Int).tmod (bs.length : Int)) = ((k % bs.length : Nat) : Int) := rfl;have e2 : (((k : Int) * 7 + 3).tmod (bs.length : Int)) = (((k * 7 + 3) % bs.length : Nat) : Int) := rfl;have h1 : k % bs.length < bs.length := Nat.mod_lt _ ZB;have h2 : (k * 7 + 3) % bs.length < bs.length := Nat.mod_lt _ ZB;simp only [go_sem, EE, LJ, Nat.reduceEqDiff, Nat.reduceAdd, Nat.reduceLeDiff, rO, e1, e2, h1, h2, Q7h];have e3 : (k : Int).tdiv (bs.length : Int) = ((k / bs.length : Nat) : Int) := rfl;have h3 : k / bs.length <= k := Nat.div_le_self _ _;rw [e3];have h4 := (bs.getD (k % bs.length) 0).toNat_lt;have h5 := (bs.getD ((k * 7 + 3) % bs.length) 0).toNat_lt;generalize (bs.getD (k % bs.length) 0).toNat = b1 at *;generalize (bs.getD ((k * 7 + 3) % bs.length) 0).toNat = b2 at *;generalize k / bs.length = d at *;clear e1 e2 h1 h2 e3;refine ⟨ZB, Qs, Qs, Qs, by omega, Qs, Qs,
        Qs, Qs, ⟨ZB, Qs⟩, Qs, Qs, ?_⟩
      have hx : 0 <= (b1 : Int) * 131 + b2 * 1117 + k * 29 + d * 53 := ZB;have gB : (b1 : Int) * 131 + b2 * 1117 + k * 29 + d * 53 < 2 ^ 62 := ZB;generalize (b1 : Int) * 131 + b2 * 1117 + k * 29 + d * 53 = x at *;refine Qa ?_;simp only [go_sem, Nat.reduceEqDiff];have hq : 0 <= x.tdiv 64 := Int.tdiv_nonneg hx ZB;have A8 : x.tdiv 64 <= x := (by have := Int.tdiv_le_self (a := x) 64 hx; exact this);refine ⟨⟨ZB, Qs⟩, ?_⟩;have hy := Qb36 hx hq gB ZB;generalize DY .xor .i64 x (x.tdiv 64) = y at *;refine Qa ?_;simp only [go_sem, Nat.reduceEqDiff];refine ⟨ZB, ?_⟩;refine Ql ?_;simp only [go_sem, Q4, BE, BG, Ja, forall_eq, RS.op];refine Ae _ ?_;rw [if_neg ZB];exact ⟨J4 _ ZB, J0 _ ZB⟩
theorem Cg {R:Rdr}{k:Nat}{n:Int}{H:Heap}{K:Uk}(hH:H R.l=R.o k)(hk:k<=2^40)
  (hK:∀(v:Int) (H':Heap),(if n<1 then v=0 else 0<=v/\v<n)->Upd H H' [(R.l,R.o (k+1))]->K (Uv v) H') :
  Qr prog TV [.c (.ptr R.l 0),Uv n] H K:=
 Qb22 R.l R.fl R.bs k n H K hH hk λv hv=>hK v _ hv ⟨by simp[Heap.aF,Rdr.o],λm _ hm=>Heap.aj _ _ (by simpa using hm)⟩
theorem CO {R:Rdr}{k:Nat}{fl:Bool}{ns:List Int}{H:Heap}{K:Uk}(hH:H R.l=R.o k)(hk:k<=2^40)(dA:0<ns.length)
  (hK:∀(v:Int) (H':Heap),v∈ns->Upd H H' [(R.l,R.o (k+1))]->K (Uv v) H') :
  Qr prog Q7v [.c (.ptr R.l 0),.c (.sl fl 1 (Qb ns))] H K:=by
 refine Qd BF Qbbw ?_;refine Wf ?_;simp only[go_sem,Qc];intro hl;refine Cg hH hk λv H' hv hu=>?_;rw[if_neg ZB]at hv;obtain⟨i,rfl⟩:=Jo hv.1;have hi:i<ns.length:=ZB
 simp only[go_sem,T4,Qc,Qk,hi];refine Ze ?_;refine hK _ H' ?_ hu;rw[Jc,J2 hi];exact Jb hi
theorem of_c {R:Rdr}{k:Nat}{fl:Bool}{ss:List (List UInt8)}{H:Heap}{K:Uk}(hH:H R.l=R.o k)(hk:k<=2^40)(dA:0<ss.length)
  (hK:∀(v:List UInt8) (H':Heap),v∈ss->Upd H H' [(R.l,R.o (k+1))]->K (.c (.str v)) H') :
  Qr prog OX [.c (.ptr R.l 0),.c (.sl fl 1 (Cn ss))] H K:=by
 refine Qd BF Qbl8 ?_;refine Wf ?_;simp only[go_sem,CR];intro hl;refine Cg hH hk λv H' hv hu=>?_;rw[if_neg ZB]at hv;obtain⟨i,rfl⟩:=Jo hv.1;have hi:i<ss.length:=ZB
 simp only[go_sem,T4,CR,IW,hi];refine Ze ?_;refine hK _ H' ?_ hu;rw[Jc,J2 hi];exact Jb hi
theorem YB {R:Rdr}{k:Nat}{fl:Bool}{ss:List (List UInt8)}{H:Heap}{K:Uk}(hH:H R.l=R.o k)(hk:k+2<=2^40)
  (hK:∀(x:Ex) (H':Heap) (k':Nat),k<k'->k'<=k+2->Upd H H' [(R.l,R.o k')]->x.ok->x.size=1->K (.ag x.cells) H') :
  Qr prog RQ [.c (.ptr R.l 0),.c (.sl fl 1 (Cn ss))] H K:=by
 refine Qy ?_;refine Qd BF Ys ?_;refine Za ?_;intro x hx H1 h1;have kn:=(Kn.start1 hH (R.ao k)).al hx h1;refine Q1 (Qa ?_);simp only[go_sem,CR];intro hl;have rest:∀(b:Bool) (H2:Heap) (k2:Nat),k<=k2->k2<=k+1->Kn H H2 [(R.l,R.o k2)] [(x,.st [Ui 0,Ui 0,.str [],.sl true 4 []])]->(b=false->0<ss.length)->
   BI prog (s_l2Leaf_2.seq MG) (Q4 Gm (unK H K)) [(0,V.c (C.ptr R.l 0)),(1,V.c (C.sl fl 1 (Cn ss))),(4,V.c (C.ptr x 0)),(12,V.c (.bool b))] H2:=by
  intro b H2 k2 iM fy kn hb;refine Wu ?_ ?_
  ·intro aW;refine Za ?_;refine CO (ns:=[0,1,2,3,5,7,15,16,100,255]) (kn.e 0 rfl) ZB ZD λv H3 hv hu=>?_;have kn:=kn.au 0 rfl hu (R.ao _);have aL:=kn.l 0 rfl;simp only[go_sem,O7,aL];intro H4 h4;have kn:=kn.aB 0 rfl h4;have aY:=kn.l 0 rfl;refine Zo aY ?_;refine⟨_,(Ex.mk 1 v [] []).frz,hK _ _ (k2+1) ZB ZB kn.fin ?_ ?_⟩
   ·simp[Ex.ok,Cu]
   ·simp[Ex.size,BZ]
  ·intro aW;refine Zd ?_;refine Za ?_;refine of_c (kn.e 0 rfl) ZB (hb aW) λv H3 hv hu=>?_;have kn:=kn.au 0 rfl hu (R.ao _);have aL:=kn.l 0 rfl;simp only[go_sem,O6,aL];intro H4 h4;have kn:=kn.aB 0 rfl h4;have aY:=kn.l 0 rfl;refine Zo aY ?_;refine⟨_,(Ex.mk 2 0 v []).frz,hK _ _ (k2+1) ZB ZB kn.fin ?_ ?_⟩
   ·simp[Ex.ok,Cu]
   ·simp[Ex.size,BZ]
 refine⟨λhb=>?_,λhb=>?_⟩
 ·refine Cg (kn.e 0 rfl) ZB λv H2 hv hu=>?_;have kn:=kn.au 0 rfl hu (R.ao _);simp only[go_sem,Q0z];refine rest _ H2 (k+1) ZB ZB kn ?_;intro h;have:¬ss.length=0:=Zaa
  omega
 ·have cp:decide ((ss.length:Int)=0)=true:=Zaa
  simp only[go_sem,Q0z,cp];exact rest true H1 k ZB ZB kn (λh=>ZI)
variable {H:Heap}{K:Uk}
theorem CG {n lo hi:Int}(hK:K (.c (.bool (decide (lo<=n/\n<=hi)))) H):Qr prog K9 [Uv n,Uv lo,Uv hi] H K:=by
 refine Qd BF Qb45 ?_;refine Wd ?_;refine Ze ?_;have:(bif decide (lo<=n)then decide (n<=hi)else false)=decide (lo<=n/\n<=hi):=by
  by_cases h:lo<=n <;> simp[h]
 rw[this];exact hK
theorem Qbra {b:Bool}(hK:K (Uv (if b then 1 else 0)) H):Qr prog MX [.c (.bool b)] H K:=by
 refine Qd BF Qbr2 ?_;refine Wj ?_;refine Wu ?_ ?_
 ·intro hc;subst hc;refine Wr ?_;exact hK
 ·intro hc;subst hc;refine Zd ?_;refine Wr ?_;exact hK
theorem Qbq7 {s:List UInt8}{b:UInt8}(hK:∀n:Int,K (Uv n) H):Qr prog Q5a [.c (.str s),.c (.int .u8 b.toNat)] H K:=by
 refine Qd BF Qbry ?_;refine Wj ?_;refine Qh (Qe (Qw (λn e1 H1=>∃i:Nat,n=s.length-i/\i<=s.length/\H1=H/\e1=[(0,.c (.str s)),(1,.c (.int .u8 b.toNat)),(5,Uv i)]) s.length ?_ ?_))
 ·exact⟨0,ZB,ZB,rfl,rfl⟩
 ·rintro n e1 H1 ⟨i,hn,hi,rfl,rfl⟩;refine Wa ?_;intro hl;simp only[LIM]at hl;refine Wu ?_ ?_
  ·intro hc;have af:i<s.length:=ZE
   refine Wc ?_;refine Zj af ?_;refine Wv ?_ ?_
   ·intro aD;refine Za ?_;refine Zy ?_;exact hK _
   ·intro aD;refine Wk ?_;exact⟨Qs,s.length-(i+1),ZB,i+1,rfl,ZB,rfl⟩
  ·intro hc;refine Wb ?_;refine Ze ?_;exact hK _
theorem Qbq5 {b:UInt8}(hK:∀n:Int,K (Uv n) H):Qr prog Q49 [.c (.int .u8 b.toNat)] H K:=by
 refine Qd BF Qbrw ?_;refine Za ?_;refine Wg ?_;refine Wv ?_ ?_
 ·intro hc;refine Wr ?_;exact hK _
 intro hc;refine Za ?_;refine Wv ?_ ?_
 ·intro hc;refine Wr ?_;exact hK _
 intro hc;refine Za ?_;refine Qbq7 λn=>?_;simp only[go_sem,Q96];refine Wv ?_ ?_
 ·intro hc;refine Wr ?_;exact hK _
 intro hc;refine Za ?_;refine Wv ?_ ?_
 ·intro hc;refine Wr ?_;exact hK _
 intro hc;refine Zd ?_;refine Wr ?_;exact hK _
theorem Qb2c {s:List UInt8}{k:Int}(hK:∀b:Bool,K (.c (.bool b)) H):Qr prog L3 [.c (.str s),Uv k] H K:=by
 refine Qd BF Qb2n ?_;refine Wj ?_;refine Qh (Qe (Qw (λn e1 H1=>∃i:Nat,n=s.length-i/\i<=s.length/\H1=H/\e1=[(0,.c (.str s)),(1,Uv k),(5,Uv i)]) s.length ?_ ?_))
 ·exact⟨0,ZB,ZB,rfl,rfl⟩
 ·rintro n e1 H1 ⟨i,hn,hi,rfl,rfl⟩;refine Wa ?_;intro hl;simp only[LIM]at hl;refine Wu ?_ ?_
  ·intro hc;have af:i<s.length:=ZE
   refine Wc ?_;refine Zj af ?_;refine Qbq5 λcl=>?_;simp only[go_sem,MJ];refine Wv ?_ ?_
   ·intro aD;refine Za ?_;refine Zy ?_;exact hK _
   ·intro aD;refine Wk ?_;exact⟨Qs,s.length-(i+1),ZB,i+1,rfl,ZB,rfl⟩
  ·intro hc;refine Wb ?_;intro _;refine Ze ?_;exact hK _
theorem Qbk3 (hK:∀ss:List (List UInt8),K (.c (.sl true 1 (Cn ss))) H):Qr prog Vc [] H K:=by
 refine Qd BF Qav6 ?_;refine Wd ?_;refine Ze ?_;exact hK [[102,110],[108,101,116],[115,97,121],[112,117,116],[105,102],[101,108,115,101],[108,111,111,112],[98,97,99,107],[100,111]]
theorem Qb2d {s:List UInt8}(hK:∀b:Bool,K (.c (.bool b)) H):Qr prog Lz [.c (.str s)] H K:=by
 refine Qd BF Qb2o ?_;refine Wd ?_;refine Qbk3 λss=>?_;simp only[go_sem,Ea];refine Wa ?_;refine Qh (Qe (Qw (λn e1 H1=>∃i:Nat,n=ss.length-i/\i<=ss.length/\H1=H/\e1=[(0,.c (.str s)),(3,.c (.sl true 1 (Cn ss))),(4,Uv i)]) ss.length ?_ ?_))
 ·exact⟨0,ZB,ZB,rfl,rfl⟩
 ·rintro n e1 H1 ⟨i,hn,hi,rfl,rfl⟩;refine Q1 (Qa ?_);simp only[go_sem,CR];intro hl;simp only[LIM]at hl;refine Wu ?_ ?_
  ·intro hc;have af:i<ss.length:=ZE
   refine Wm ?_;simp only[go_sem,af,CR,IW _ _ af];refine Wv ?_ ?_
   ·intro aD;refine Za ?_;refine Zy ?_;exact hK _
   ·intro aD;refine Wk ?_;exact⟨Qs,ss.length-(i+1),ZB,i+1,rfl,ZB,rfl⟩
  ·intro hc;refine Wb ?_;refine Ze ?_;exact hK _
theorem Ga {s:List UInt8}(hK:∀b:Bool,K (.c (.bool b)) H):Qr prog Q7z [.c (.str s)] H K:=by
 refine Qd BF Qbb1 ?_;refine Wd ?_;refine Qb2c λb=>?_;simp only[go_sem,Qze];intro hl;refine⟨λhb=>?_,λhb=>?_⟩
 ·refine Qb2d λb2=>?_;simp only[go_sem,Vh];refine Ze ?_;exact hK _
 ·simp only[go_sem,Vh,hb];refine Ze ?_;exact hK _
theorem YC {op:Int}(hK:∀a b:Int,K (.tup [Uv a,Uv b]) H):Qr prog HU [Uv op] H K:=by
 refine Qd BF Yt ?_;refine Wj ?_;have ret:∀(a b:Int) (e:Env),lk 2 e=Uv a->lk 3 e=Uv b->Q4 RX K .ret e H:=by
  intro a b e h1 h2;simp only[go_sem,Q4,BE,List.forall_mem_cons,RS.op,h1,h2];exact hK _ _
 refine Qh (Qe ?_);refine Wa ?_;have r5:∀(b:Bool),BI prog MH (X.inBlock 0 (X.sq prog Q6w (Q4 RX K))) [(4,Uv op),(5,.c (.bool b))] H:=by
  intro b;refine Wv ?_ ?_
  ·intro hc;refine We ?_;exact ret 0 0 _ ZC ZC
  intro hc;refine Wa ?_;have r8:∀(b:Bool),BI prog MI (X.inBlock 0 (X.sq prog Q6w (Q4 RX K))) [(4,Uv op),(8,.c (.bool b))] H:=by
   intro b;refine Wv ?_ ?_
   ·intro hc;refine We ?_;exact ret 1 1 _ ZC ZC
   intro hc;refine Za ?_;refine Wv ?_ ?_
   ·intro hc;refine We ?_;exact ret 0 3 _ ZC ZC
   ·intro hc;refine Zd ?_;refine Za ?_;refine Ql ?_;exact ret 2 2 _ ZC ZC
  refine Wu ?_ ?_
  ·intro hc;refine Zd ?_;exact r8 _
  ·intro hc;refine Zh ?_;exact r8 _
 refine Wu ?_ ?_
 ·intro hc;refine Zd ?_;exact r5 _
 ·intro hc;refine Zh ?_;exact r5 _
theorem YA {op:Int}(hK:K (Uv (if op=4 then 2 else 1)) H):Qr prog HT [Uv op] H K:=by
 refine Qd BF Yr ?_;refine Wj ?_;refine Wu ?_ ?_
 ·intro hc;refine Wr ?_;rw[if_pos ZE]at hK;exact hK
 ·intro hc;refine Zd ?_;refine Wr ?_;rw[if_neg ZE]at hK;exact hK
end Go.AE.Y
namespace Go.AE
open Go.AE.Y
open Go.Proofs.Tryz
variable {H:Heap}{K:Uk}
theorem Slc.keep {H':Heap}{sz:Nat}{rows:List (List C)}{b:C}{E L:Ul}(h:Slc H sz rows b)(kn:Kn H H' E L)(hE:∀l a c d,b=.ah l a c d->l∉E.map Prod.fst):Slc H' sz rows b:=by
 obtain⟨h1,h2,h3,h4⟩:=h
 cases b with
 |sl fl z rs=>exact⟨trivial,h2,h3,h4⟩
 |ah l z st n=>
  simp only[Go.AE.aZ]at h1
  cases ho:H l with
  |vec y rs=>
   have:=kn.chg l (by rw[ho];simp) (hE l z st n rfl);refine⟨?_,h2,?_,h4⟩
   ·simp only[Go.AE.aZ,this];exact h1
   ·simp only[Go.AE.rowsOf,this];exact h3
  |_=>rw[ho]at h1;exact h1.elim
 |_=>exact h1.elim
theorem Slc.keep0 {H':Heap}{sz:Nat}{rows:List (List C)}{b:C}{L:Ul}(h:Slc H sz rows b)(kn:Kn H H' [] L):Slc H' sz rows b:=h.keep kn ZD
end Go.AE
namespace Go.AE.Y
open Go.Proofs.Tryz
variable {H:Heap}{K:Uk}
def Qz (nx:Nat->List Int)(b:Int)(n:Nat):List Int:=((List.range n).filter λi=>(nx i).contains b).map Int.ofNat
theorem S0 (nx:Nat->List Int)(b:Int)(n:Nat):Qz nx b (n+1)=Qz nx b n++if (nx n).contains b then [(n:Int)]else []:=by
 simp only[Qz,List.range_succ,List.filter_append,Jv];congr 1;cases h:(nx n).contains b
 ·simp only[Jab,h,Jae];rfl
 ·simp only[Jab,h,Jae,if_true];rfl
theorem Es (nx:Nat->List Int)(b:Int)(n:Nat):(Qz nx b n).length<=n:=by
 simp only[Qz,Jf];exact J9 (List.length_filter_le _ _) ZD
theorem MO {p rg:Int}{bc:C}{rows:List (List C)}{nx:Nat->List Int}{b:Int}(hs:Slc H 5 rows bc)(bt:bc.ai=false)
  (hx:∀i,i<rows.length->∃a1 a2 a3 a4 a5,rows.getD i []=[a1,a2,a3,a4,a5]/\a5.ai=false/\Slc H 1 (Qb (nx i)) a5)
  (hK:∀H',Upd H H' []->K (.c (.sl false 1 (Qb (Qz nx b rows.length)))) H'):Qr prog Q5b [.ag [Ui p,Ui rg,bc],Uv b] H K:=by
 refine Qy ?_;refine Qd BF Qbr5 ?_;refine Wd ?_;refine Wa ?_;have am:=hs.len;have jg:=hs.sz;refine Qh (Qe (Qw (λn e1 H1=>∃(i:Nat) (c:C) (Lg:Ul),n=rows.length-i/\i<=rows.length/\Gr Lg 1 (Qb (Qz nx b i)) c/\Kn H H1 [] ([]++Lg)/\
  e1=[(1,Uv b),(2,.c (.pp [Ui p,Ui rg,bc])),(5,.c c),(6,Uv i)]) rows.length ?_ ?_))
 ·exact⟨0,_,[],ZB,ZB,.nil 1,Kn.an H,rfl⟩
 ·rintro n e1 H1 ⟨i,c,Lg,cO,hi,aq,kn,rfl⟩;have dD:=hs.keep0 kn;have fV:=eq_true dD.ok;have kq:=dD.rows;refine Q1 (Qa ?_);simp only[go_sem,bt,fV,am];intro hl;simp only[LIM]at hl;refine Wu ?_ ?_
  ·intro hc;have af:i<rows.length:=ZE
   obtain⟨a1,a2,a3,a4,a5,aC,o5,d9⟩:=hx i af;have d9:=d9.keep0 kn;have dg:=eq_true d9.ok;have cU:=d9.len;have gD:=d9.sz;have gG:=d9.rows;refine Zd ?_;have turn:∀(e:Env) (H2:Heap) (c':C) (Lg':Ul),lk 1 e=Uv b->lk 2 e=.c (.pp [Ui p,Ui rg,bc])->lk 5 e=.c c'->lk 6 e=Uv i->
     Gr Lg' 1 (Qb (Qz nx b (i+1))) c'->Kn H H2 [] ([]++Lg')->
     BI prog NR (X.next (λe2 H2=>∃m,m<n/\∃(i:Nat) (c:C) (Lg:Ul),m=rows.length-i/\i<=rows.length/\Gr Lg 1 (Qb (Qz nx b i)) c/\Kn H H2 [] ([]++Lg)/\
      e2=[(1,Uv b),(2,.c (.pp [Ui p,Ui rg,bc])),(5,.c c),(6,Uv i)]) (X.inBlock 0 (X.sq prog NQ (Q4 BG (unK H K))))) e H2:=by
    intro e H2 c' Lg' l1 l2 l5 l6 mA kn';refine Qp ?_;simp only[go_sem,l1,l2,l5,l6,X.next];exact⟨Qs,rows.length-(i+1),ZB,i+1,c',Lg',rfl,ZB,mA,by simpa using kn',rfl⟩
   refine Wg ?_;refine Qe (Qw (λn e1 H2=>∃(k:Nat),n=(nx i).length-k/\k<=(nx i).length/\b∉(nx i).take k/\H2=H1/\e1=[(1,Uv b),(2,.c (.pp [Ui p,Ui rg,bc])),(5,.c c),(6,Uv i),(7,Uv k)]) (nx i).length ?_ ?_)
   ·exact⟨0,ZB,ZB,ZD,rfl,rfl⟩
   ·rintro n e1 H2 ⟨k,jw,hk,bD,rfl,rfl⟩;refine Q1 (Qa ?_);simp only[go_sem,bt,fV,am,jg,kq,af,aC,o5,dg,cU,Qc];intro kB;simp only[LIM]at kB;refine Wu ?_ ?_
    ·intro hc;have aT:k<(nx i).length:=ZE;have bm:(nx i).getD k 0=(nx i)[k]:=(by simp[Jc,aT]);refine Wm ?_;simp only[go_sem,bt,fV,am,jg,kq,af,aC,o5,dg,cU,gD,gG,aT,Qc,Qk _ _ aT,bm];refine Wv ?_ ?_
     ·intro aD;have hb:(nx i)[k]=b:=ZH;have gP:(nx i).contains b=true:=(by rw[J5,<-hb];exact Jb aT);refine Za ?_;have da:=Es nx b i;refine kn.grow (B:=[]) (new:=Qb [(i:Int)]) aq (.mk' _ _ _ _) (Qq _) ZaA λy' H3 kn=>?_;simp only[go_sem,PT];refine Qu ?_;have vM:((2:Nat) == 3)=false:=rfl;rw[HE vM];simp only[go_sem,X.next];refine turn _ _ _ _ ZC ZC ZJ ZC ?_ kn;rw[S0,gP,if_pos rfl,D8];exact .mk _ _ _ ZD
     ·intro aD;have hb:¬(nx i)[k]=b:=ZH;refine Wk ?_;refine⟨Qs,(nx i).length-(k+1),ZB,k+1,rfl,ZB,?_,rfl⟩;rw[Jj aT];simp only[Jl,Ja,not_or];exact⟨bD,λh=>hb h.symm⟩
    ·intro hc;have bh:(nx i).length<=k:=ZE;rw[Jd bh]at bD;have gP:(nx i).contains b=false:=by
      cases fH:(nx i).contains b with
      |false=>rfl
      |true=>exact absurd (J5.1 fH) bD
     refine Zb ?_;refine turn _ _ _ _ ZC ZC ZJ ZC ?_ kn;rw[S0,gP];simpa using aq
  ·intro hc;have bh:i=rows.length:=by have:rows.length<=i:=ZE;omega
   subst bh;refine Wb ?_;refine Ze ?_;exact⟨_,.c _ _ (aq.frz kn (Qq _)),hK _ kn.fin⟩
theorem Gu {p rg:Int}{bc:C}{rows:List (List C)}{nx:Nat->List Int}{b:Int}(hs:Slc H 5 rows bc)(bt:bc.ai=false)
  (hx:∀i,i<rows.length->∃a1 a2 a3 a4 fl,rows.getD i []=[a1,a2,a3,a4,.sl fl 1 (Qb (nx i))])
  (hK:∀H',Upd H H' []->K (.c (.sl false 1 (Qb (Qz nx b rows.length)))) H'):Qr prog Q5b [.ag [Ui p,Ui rg,bc],Uv b] H K:=
 MO hs bt (λi hi=>by
  obtain⟨a1,a2,a3,a4,fl,h⟩:=hx i hi;exact⟨a1,a2,a3,a4,_,h,rfl,.mk' _ _ _ _⟩) hK
def C3 (op:Int):Int:=if op=1 then 0 else if op=2\/op=10\/op=11\/op=13 then 1 else if (3<=op/\op<=9)\/op=12 then 2 else -1
theorem Lq {op:Int}(hK:K (Uv (C3 op)) H):Qr prog HR [Uv op] H K:=by
 refine Qd BF Yn ?_;have retf:∀(n:Int) (e:Env),C3 op=n->lk 2 e=Uv n->Q4 BH K .ret e H:=by
  intro b e h1 h3;simp only[go_sem,Q4,BE,Ja,forall_eq,RS.op,h3];rw[<-h1];exact hK
 refine Za ?_;refine Wg ?_;refine Wv ?_ ?_
 ·intro hc;refine We ?_;exact retf 0 _ (by simp only[decide_eq_true_eq]at hc;simp[C3,hc]) ZC
 intro bH;refine Za ?_;refine Wv ?_ ?_
 ·intro hc;refine We ?_;exact retf 1 _ (by simp at bH hc;rw[C3,if_neg bH,if_pos (by omega)]) ZC
 intro aD;refine Za ?_;refine CG ?_;simp only[go_sem,Oj];refine Wv ?_ ?_
 ·intro hc;refine We ?_;exact retf 2 _ (by simp at bH aD hc;rw[C3,if_neg bH,if_neg (by omega),if_pos (by omega)]) ZC
 ·intro hc;refine Zd ?_;refine Za ?_;refine Ql ?_;exact retf (-1) _ (by simp at bH aD hc;rw[C3,if_neg bH,if_neg (by omega),if_neg (by omega)]) ZC
theorem argsN_in {op:Int}:-1<=C3 op/\C3 op<=2:=by
 rw[C3];split
 ·omega
 ·split
  ·omega
  ·split <;> omega
theorem Qbrb {op:Int}(hK:∀n:Int,-1<=n->n<=2->K (Uv n) H):Qr prog HR [Uv op] H K:=Lq (hK _ argsN_in.1 argsN_in.2)
def CQ (op:Int):Bool:=decide (1<=op/\op<=14)&&!decide (op=12)&&!decide (op=13)
theorem IH {op:Int}(hK:K (.c (.bool (CQ op))) H):Qr prog MV [Uv op] H K:=by
 refine Qd BF Qbr4 ?_;refine Wd ?_;refine CG ?_;simp only[go_sem,Gb];refine Ze ?_;have:∀a b c:Bool,(bif bif a then b else false then c else false)=(a&&b&&c):=ZO
 rw[this];exact hK
def Dc (rg:Int)(l:List Int):Bool:=l.all λx=>decide (0<=x/\x<=rg-1)
theorem Qbmo {rg:Int}{l:List Int}{i:Nat}(hi:i<l.length):Dc rg (l.take (i+1))=(Dc rg (l.take i)&&decide (0<=l.getD i 0/\l.getD i 0<=rg-1)):=by
 have e:l.getD i 0=l[i]:=by simp[Jc,hi]
 rw[Dc,Jj hi,Jad,e];simp[Dc]
theorem Qbsv {rg:Int}{l:List Int}{i:Nat}(hi:i<l.length)(h:decide (0<=l.getD i 0/\l.getD i 0<=rg-1)=false):Dc rg l=false:=by
 have e:l.getD i 0=l[i]:=by simp[Jc,hi]
 cases hc:Dc rg l with
 |false=>rfl
 |true=>
  rw[Dc,Jaa]at hc;have:=hc _ (Jb hi);rw[e]at h;rw[h]at this;exact absurd this ZD
theorem Lp {p rg:Int}{bc:C}{fl:Bool}{l:List Int}(hr:-(2^62)<=rg)(ey:rg<=2^62)(hK:K (.c (.bool (Dc rg l))) H) :
  Qr prog RL [.ag [Ui p,Ui rg,bc],.c (.sl fl 1 (Qb l))] H K:=by
 refine Qd BF Yj ?_;have retf:∀(b:Bool) (e:Env),Dc rg l=b->lk 4 e=.c (.bool b)->Q4 BG K .ret e H:=by
  intro b e h1 h3;simp only[go_sem,Q4,BE,Ja,forall_eq,RS.op,h3];rw[<-h1];exact hK
 refine Wj ?_;refine Qh (Qe (Qw (λn e1 H1=>∃(i:Nat),n=l.length-i/\i<=l.length/\H1=H/\Dc rg (l.take i)=true/\e1=[(1,.c (.sl fl 1 (Qb l))),(2,.c (.pp [Ui p,Ui rg,bc])),(5,Uv i)]) l.length ?_ ?_))
 ·exact⟨0,ZB,ZB,rfl,rfl,rfl⟩
 ·rintro n e1 H1 ⟨i,cO,hi,rfl,bT,rfl⟩;refine Q1 (Qa ?_);simp only[go_sem,Qc];intro hl;simp only[LIM]at hl;refine Wu ?_ ?_
  ·intro hc;have af:i<l.length:=ZE
   refine Wc ?_;refine BM ?_;simp only[go_sem,af,Qc,Qk _ _ af];refine⟨Qs,?_⟩;refine CG ?_;simp only[go_sem,FM];refine Wv ?_ ?_
   ·intro aD;refine Wn ?_;exact retf false _ (Qbsv af (Dd aD)) ZC
   ·intro aD;refine Wk ?_;exact⟨Qs,l.length-(i+1),ZB,i+1,rfl,ZB,by rw[Qbmo af,bT,Ct aD];rfl,rfl⟩
  ·intro hc;have bh:l.length<=i:=ZE
   rw[Jd bh]at bT;refine Wb ?_;refine Ql ?_;exact retf true _ bT ZC
def rgOf (cs:List CodeD)(k:Nat):Int:=(cs[k]?.map CodeD.ae).getD 0
def pmOf (cs:List CodeD)(k:Nat):Int:=(cs[k]?.map CodeD.params).getD 0
theorem I8 {cs:List CodeD}{k:Nat}(h:k<cs.length):rgOf cs k=cs[k].ae:=by simp[rgOf,h]
theorem G2 {cs:List CodeD}{k:Nat}(h:k<cs.length):pmOf cs k=cs[k].params:=by simp[pmOf,h]
def insH (rg:Int)(x:InsD):Bool:=decide (1<=x.op/\x.op<=14)&&Dc rg x.args
def insT (rg:Int)(x:InsD):Bool:=if CQ x.op then decide (0<=x.to/\x.to<=rg-1)else decide (x.to=-1)
def insL (cs:List CodeD)(k:Nat)(x:InsD):Bool:=
 if x.op=14 then decide (0<=x.n/\x.n<=(k:Int)-1)&&decide ((x.args.length:Int)=pmOf cs x.n.toNat)
 else decide ((x.args.length:Int)=C3 x.op)&&decide (0<=x.n/\x.n<=255)&&(decide (x.n=0) || decide (x.op=1))
def Cr (cs:List CodeD)(k:Nat)(x:InsD):Bool:=insH (rgOf cs k) x&&insT (rgOf cs k) x&&insL cs k x
theorem Qb2f {cs:List CodeD}{fl:Bool}{k:Nat}{x:InsD}(hk:k<cs.length)(hr:0<=cs[k].ae)(ey:cs[k].ae<=300)(cG:cs.length<=100)(hK:∀(H':Heap),Upd H H' []->K (.c (.bool (Cr cs k x))) H') :
  Qr prog Lx [.ag [.sl fl 3 (Qm cs)],Uv k,.ag x.cells] H K:=by
 refine Qy ?_;refine Qd BF Qb2q ?_;refine Zz ?_;refine Qa ?_;simp only[go_sem,hk,Q8,Do _ _ hk,CodeD.cells];intro x7 cd H1 h1;have kn:=(Kn.an H).al cd h1;have lB:=kn.l 0 rfl;simp only[go_sem,MC,lB];intro H2 h2;have kn:=kn.aB 0 rfl h2;have gz:=kn.l 0 rfl;have iU:=I8 hk;have retf:∀(b:Bool) (e:Env),Cr cs k x=b->lk 6 e=.c (.bool b)->Q4 BN (unK H K) .ret e H2:=by
  intro b e h1 h3;simp only[go_sem,Q4,BE,Ja,forall_eq,RS.op,h3];rw[<-h1];exact⟨_,.c _ _ (Qg rfl),hK _ kn.fin⟩
 refine Wa ?_;refine CG ?_;simp only[go_sem,MB,gz];have rest:∀(E1:Env) (b:Bool),insH cs[k].ae x=(!b)->lk 1 E1=Uv k->lk 3 E1=.c (.pp [.sl fl 3 (Qm cs)])->lk 5 E1=.c (.pp [Ui x.op,Ui x.to,.sl false 1 (Qb x.args),Ui x.n])->lk 7 E1=Up x7->lk 23 E1=.c (.bool b)->
   BI prog (s_l7Ins_3.seq MD) (Q4 BN (unK H K)) E1 H2:=by
  intro E1 b hb l1 l3 l5 l7 l23;refine Qh (Qf l23 ?_ ?_)
  ·intro hc;refine We ?_;exact retf false _ (by rw[Cr,iU,hb,hc];rfl) ZC
  intro hc;rw[hc]at hb;refine Zd ?_;refine Q1 (BM ?_);simp only[go_sem,l5,l7,gz];refine⟨Qs,?_⟩;refine IH ?_;simp only[go_sem,M9,gz];refine CG ?_;simp only[go_sem,MA,l5];have rest2:∀(E1:Env) (b:Bool),insT cs[k].ae x=(!b)->lk 1 E1=Uv k->lk 3 E1=.c (.pp [.sl fl 3 (Qm cs)])->lk 5 E1=.c (.pp [Ui x.op,Ui x.to,.sl false 1 (Qb x.args),Ui x.n])->lk 44 E1=.c (.bool b)->
    BI prog (s_l7Ins_7.seq ME) (Q4 BN (unK H K)) E1 H2:=by
   intro E1 b cp l1 l3 l5 l44;refine Qh (Qf l44 ?_ ?_)
   ·intro hc;refine We ?_;exact retf false _ (by rw[Cr,iU,cp,hc];simp) ZC
   intro hc;rw[hc]at cp;have hG:Cr cs k x=insL cs k x:=by rw[Cr,iU,hb,cp];rfl
   refine Zd ?_;refine Q1 (Qa ?_);simp only[go_sem,l1,l3,l5];refine Wu ?_ ?_
   ·intro hc;have b9:x.op=14:=of_decide_eq_true hc;rw[insL,if_pos b9]at hG;refine Zw ?_;refine⟨Qs,?_⟩;refine CG ?_;by_cases dH:0<=x.n/\x.n<=(k:Int)-1
    ·obtain⟨m,hm⟩:=Jo dH.1;have di:m<cs.length:=ZB;have i7:(0<=(m:Int)/\(m:Int)<=(k:Int)-1)=True:=eq_true (by rw[<-hm];exact dH);simp only[go_sem,Sg,hm,di,Q8,Do _ _ di,CodeD.cells,Qc];refine Ql ?_;refine retf _ _ ?_ ZJ;rw[hG,hm,Int.toNat_natCast,G2 di];simp only[i7,decide_true,Bool.true_and];simp[show ((m:Int)<=(k:Int)-1) from by omega]
    ·have i7:decide (0<=x.n/\x.n<=(k:Int)-1)=false:=(by simpa using dH);by_cases hm:x.n.toNat<cs.length
     ·simp only[go_sem,Sg,i7,Do _ _ hm,CodeD.cells];refine Ql ?_;exact retf false _ (by rw[hG,i7];rfl) ZC
     ·have bm:(Qm cs).getD x.n.toNat []=[]:=by
       rw[Jc,List.getElem?_eq_none (by rw[Q8];omega)];rfl
      simp only[go_sem,Sg,i7,bm,Jai,List.headD_nil];refine Ql ?_;exact retf false _ (by rw[hG,i7];rfl) ZC
   ·intro hc;have b9:¬x.op=14:=of_decide_eq_false hc;rw[insL,if_neg b9]at hG;refine Zd ?_;refine Zw ?_;refine Lq ?_;simp only[go_sem,NS];refine⟨λhb=>?_,λhb=>?_⟩
    ·refine CG ?_;simp only[go_sem,Q01];refine Ql ?_;refine retf _ _ ?_ ZJ;have aW:(x.args.length:Int)=C3 x.op:=(by simpa[Qc]using hb);rw[hG];simp[aW,Qc]
    ·simp only[go_sem,Q01,hb];refine Ql ?_;refine retf _ _ ?_ ZJ;have aW:¬(x.args.length:Int)=C3 x.op:=(by simpa[Qc]using hb);rw[hG];simp[aW]
  refine⟨λhb=>?_,λhb=>?_⟩
  ·refine IH ?_;simp only[go_sem,Q6z,l1,l3,l5];refine rest2 _ _ ?_ ZC ZC ZC ZJ
   cases di:CQ x.op with
   |true=>simp[insT,di]
   |false=>by_cases h:x.to=-1 <;> simp[insT,di,h]
  ·replace hb:=Ct hb;simp only[go_sem,Q6z,l1,l3,l5,hb];refine rest2 _ true ?_ ZC ZC ZC ZC
   cases di:CQ x.op with
   |true=>simp[di]at hb;simp[insT,di];omega
   |false=>simp[di]at hb;simp[insT,di];omega
 refine⟨λhb=>?_,λhb=>?_⟩
 ·refine Lp ZB ZB ?_;simp only[go_sem,Q6y];refine rest _ _ ?_ ZC ZC ZC ZC ZJ;simp[insH]
 ·replace hb:=Ct hb;simp only[go_sem,Q6y,hb];refine rest _ true ?_ ZC ZC ZC ZC ZC;rw[insH,Dd hb];rfl
theorem InsD.cD (x:InsD):x.cells.take 4=x.cells:=rfl
theorem InsD.bv (x:InsD):(x.cells.all λc=>!c.ai)=true:=rfl
theorem InsD.len4 (x:InsD):x.cells.length=4:=rfl
theorem Qb07 (l:List BlkD)(i:Nat)(h:i<(Qo l).length):∃a1 a2 a3 a4 fl,(Qo l).getD i []=[a1,a2,a3,a4,.sl fl 1 (Qb ((l.map BlkD.next).getD i []))]:=by
 rw[Qn]at h;rw[Cy _ _ h];have:(l.map BlkD.next).getD i []=l[i].next:=by simp[Jc,h]
 exact⟨.sl false 2 (Q6 l[i].ab),.sl false 4 (BJ l[i].ins),Ui l[i].jump,Ui l[i].on,false,by rw[this];rfl⟩
theorem FZ {α:Type}{p:α->Bool}{l:List α}{i:Nat}(hi:i<l.length):(l.take (i+1)).all p=((l.take i).all p&&p l[i]):=by
 rw[Jj hi,Jad];simp
theorem FL {α:Type}{p:α->Bool}{l:List α}{i:Nat}(hi:i<l.length)(h:p l[i]=false):l.all p=false:=by
 cases hc:l.all p with
 |false=>rfl
 |true=>rw[Jaa.1 hc _ (Jb hi)]at h;exact absurd h ZD
def Cq (j:Int):Int:=if j=1 then 1 else if j=2 then 2 else if j=3 then 0 else -1
def CT (rg:Int)(y:BlkD):Bool:=decide ((y.next.length:Int)=Cq y.jump)&&if y.jump=1 then decide (y.on=0)else decide (0<=y.on/\y.on<=rg-1)
def DC (n:Nat)(x:Int):Bool:=decide (1<=x/\x<=(n:Int)-1)
def phiG (rg:Int)(np b:Nat)(x:PhiD):Bool:=!decide (b=0)&&decide ((x.args.length:Int)=np)&&Dc rg x.args&&decide (0<=x.to/\x.to<=rg-1)
def Cs (cs:List CodeD)(k b:Nat)(q:CodeD)(y:BlkD):Bool:=
 CT q.ae y&&y.next.all (DC (Qo q.blocks).length)&&y.ins.all (Cr cs k)&&y.ab.all (phiG q.ae (Qz (λi=>(q.blocks.map BlkD.next).getD i []) (b:Int) (Qo q.blocks).length).length b)
theorem RH {cs:List CodeD}{k b:Nat}{q:CodeD}{y:BlkD}(h:Cs cs k b q y=true):y.next.length<=2:=by
 simp only[Cs,CT,Bool.and_eq_true,decide_eq_true_eq]at h;have:=h.1.1.1.1;rw[Cq]at this;split at this
 ·omega
 ·split at this
  ·omega
  ·split at this <;> omega
theorem Qbrc {cs:List CodeD}{fl:Bool}{k b:Nat}(hk:k<cs.length)(vQ:b<cs[k].blocks.length)(hr:0<=cs[k].ae)(ey:cs[k].ae<=300)(cG:cs.length<=100)(bu:cs[k].blocks.length<=200)(hK:∀(H':Heap),Upd H H' []->K (.c (.bool (Cs cs k b cs[k] cs[k].blocks[b]))) H') :
  Qr prog MW [.ag [.sl fl 3 (Qm cs)],Uv k,Uv b] H K:=by
 refine Qy ?_;refine Qd BF Qbr3 ?_;have retf:∀(v:Bool) (e:Env) (H':Heap) (L:Ul),Cs cs k b cs[k] cs[k].blocks[b]=v->Kn H H' [] L->lk 6 e=.c (.bool v)->Q4 BN (unK H K) .ret e H':=by
  intro v e H' L hb kn h3;simp only[go_sem,Q4,BE,Ja,forall_eq,RS.op,h3];rw[<-hb];exact⟨_,.c _ _ (Qg rfl),hK _ kn.fin⟩
 refine Wf ?_;simp only[go_sem,hk,Q8,Do _ _ hk,CodeD.cells];intro x7 cd H1 h1;have kn:=(Kn.an H).al cd h1;have lB:=kn.l 0 rfl;simp only[go_sem,P4,lB];intro H2 h2;have kn:=kn.aB 0 rfl h2;have gz:=kn.l 0 rfl;refine Qa ?_;simp only[go_sem,gz,vQ,Qn,Cy _ _ vQ,BlkD.cells];obtain⟨y,hy⟩:∃y,cs[k].blocks[b]=y:=⟨_,rfl⟩;rw[hy];intro x8 aV H3 h3;have kn:=kn.al aV h3;have wv:=kn.l 1 rfl;simp only[go_sem,P3,wv];intro H4 h4;have kn:Kn H H4 [] [(x7,.st [Ui cs[k].params,Ui cs[k].ae,.sl false 5 (Qo cs[k].blocks)]),(x8,.st [.sl false 2 (Q6 y.ab),.sl false 4 (BJ y.ins),Ui y.jump,Ui y.on,.sl false 1 (Qb y.next)])]:=kn.aB 1 rfl h4;obtain⟨q,hq⟩:∃q,cs[k]=q:=⟨_,rfl⟩;have hGe:Cs cs k b cs[k] cs[k].blocks[b]=Cs cs k b q y:=by rw[hy,hq]
 rw[hGe]at retf;rw[hq]at kn hr ey vQ bu;generalize jG:(Qz (λi=>(q.blocks.map BlkD.next).getD i []) (b:Int) (Qo q.blocks).length).length=np;have ke:Cs cs k b q y=(CT q.ae y&&y.next.all (DC (Qo q.blocks).length)&&y.ins.all (Cr cs k)&&y.ab.all (phiG q.ae np b)):=by rw[Cs,jG]
 refine Za ?_;have nC:=kn.l 0 rfl;have j5:=kn.l 1 rfl;refine Q1 (Qa ?_);simp only[go_sem,j5];have rest31:∀(want:Int) (E1:Env),Cq y.jump=want->(y.jump=1->y.on=0)->lk 1 E1=Uv k->lk 2 E1=Uv b->lk 3 E1=.c (.pp [.sl fl 3 (Qm cs)])->lk 7 E1=Up x7->lk 8 E1=Up x8->lk 9 E1=Uv want->
   BI prog P5 (Q4 BN (unK H K)) E1 H4:=by
  intro want E1 hw pt l1 l2 l3 l7 l8 l9;refine Q1 (Qa ?_);simp only[go_sem,l7,l8,l9,nC,j5,Qc];intro ck;simp only[LIM]at ck;refine⟨λ_=>Qs,?_⟩;have rest8:∀(b1:Bool) (E1:Env),CT q.ae y=(!b1)->lk 1 E1=Uv k->lk 2 E1=Uv b->lk 3 E1=.c (.pp [.sl fl 3 (Qm cs)])->lk 7 E1=Up x7->lk 8 E1=Up x8->lk 53 E1=.c (.bool b1)->
    BI prog (s_l7Block_8.seq P6) (Q4 BN (unK H K)) E1 H4:=by
   intro b1 E1 jw l1 l2 l3 l7 l8 l53;refine Qh (Qf l53 ?_ ?_)
   ·intro hc;refine We ?_;exact retf false _ _ _ (by rw[ke,jw,hc];simp) kn ZC
   intro pE;rw[pE]at jw;refine Zd ?_;refine Q1 (Qa ?_);simp only[go_sem,l1,l2,l3,l7,l8];refine Qh (Qe (Qw (λn e1 H1=>∃(i:Nat),n=y.next.length-i/\i<=y.next.length/\H1=H4/\(y.next.take i).all (DC (Qo q.blocks).length)=true/\e1=[(1,Uv k),(2,Uv b),(3,.c (.pp [.sl fl 3 (Qm cs)])),(7,Up x7),(8,Up x8),(10,Uv i)]) y.next.length ?_ ?_))
   ·exact⟨0,ZB,ZB,rfl,rfl,rfl⟩
   ·rintro n e1 H1 ⟨i,cO,hi,rfl,mU,rfl⟩;refine Q1 (Qa ?_);simp only[go_sem,j5,Qc];refine λ_=>?_;refine Wu ?_ ?_
    ·intro hc;have af:i<y.next.length:=ZE;have bm:y.next.getD i 0=y.next[i]:=(by simp[Jc,af]);have sn:DC (Qo q.blocks).length y.next[i]=decide (1<=y.next.getD i 0/\y.next.getD i 0<=(q.blocks.length:Int)-1):=(by rw[bm,DC,Qn]);refine Wc ?_;refine BM ?_;simp only[go_sem,j5,nC,af,Qc,Qk _ _ af,Qn];refine⟨Qs,?_⟩;refine CG ?_;simp only[go_sem,P2];refine Wv ?_ ?_
     ·intro aD;refine Wn ?_;exact retf false _ _ _ (by rw[ke,FL af (by rw[sn];exact Dd aD)];simp) kn ZC
     ·intro aD;refine Wk ?_;exact⟨Qs,y.next.length-(i+1),ZB,i+1,rfl,ZB,by rw[FZ af,<-Qn q.blocks,mU,sn,Ct aD];rfl,rfl⟩
    ·intro hc;have bh:y.next.length<=i:=ZE;rw[Jd bh]at mU;refine Zb ?_;refine Wa ?_;refine Qh (Qe (Qw (λn e1 H1=>∃(i:Nat),n=y.ins.length-i/\i<=y.ins.length/\Kn H H1 [] [(x7,.st [Ui q.params,Ui q.ae,.sl false 5 (Qo q.blocks)]),(x8,.st [.sl false 2 (Q6 y.ab),.sl false 4 (BJ y.ins),Ui y.jump,Ui y.on,.sl false 1 (Qb y.next)])]/\(y.ins.take i).all (Cr cs k)=true/\
      e1=[(1,Uv k),(2,Uv b),(3,.c (.pp [.sl fl 3 (Qm cs)])),(7,Up x7),(8,Up x8),(11,Uv i)]) y.ins.length ?_ ?_))
     ·exact⟨0,ZB,ZB,kn,rfl,rfl⟩
     ·rintro n e1 H5 ⟨i,cO,hi,kn,ge,rfl⟩;have pV:=kn.l 0 rfl;have sV:=kn.l 1 rfl;refine Q1 (Qa ?_);simp only[go_sem,sV,Cv];intro cM;simp only[LIM]at cM;refine Wu ?_ ?_
      ·intro hc;have af:i<y.ins.length:=ZE;refine Wc ?_;refine BM ?_;simp only[go_sem,sV,af,Cv,E6 _ _ af,InsD.cD,InsD.bv,InsD.len4];refine Qb2f hk (by rw[hq];omega) (by rw[hq];omega) cG λH6 hu=>?_;have kn:=kn.aw hu;simp only[go_sem,Q4l];refine Wv ?_ ?_
       ·intro aD;refine Wn ?_;exact retf false _ _ _ (by rw[ke,FL af (Dd aD)];simp) kn ZC
       ·intro aD;refine Wk ?_;exact⟨Qs,y.ins.length-(i+1),ZB,i+1,rfl,ZB,kn,by rw[FZ af,ge,Ct aD];rfl,rfl⟩
      ·intro hc;have bh:y.ins.length<=i:=ZE;rw[Jd bh]at ge;refine Zb ?_;refine Zj pV ?_;refine Gu (rows:=Qo q.blocks) (nx:=λi=>(q.blocks.map BlkD.next).getD i []) (.mk' _ _ _ _) rfl (Qb07 q.blocks) λH6 hu=>?_;have kn:=kn.aw hu;simp only[go_sem,Q4m];refine Wa ?_;obtain⟨ps,ft⟩:∃ps,Qz (λi=>(q.blocks.map BlkD.next).getD i []) (b:Int) (Qo q.blocks).length=ps:=⟨_,rfl⟩;rw[ft];rw[ft]at jG;have pU:=kn.l 0 rfl;have nA:=kn.l 1 rfl;refine Qh (Qe (Qw (λn e1 H1=>∃(i:Nat),n=y.ab.length-i/\i<=y.ab.length/\H1=H6/\(y.ab.take i).all (phiG q.ae np b)=true/\
        e1=[(2,Uv b),(7,Up x7),(8,Up x8),(12,.c (.sl false 1 (Qb ps))),(13,Uv i)]) y.ab.length ?_ ?_))
       ·exact⟨0,ZB,ZB,rfl,rfl,rfl⟩
       ·rintro n e1 H7 ⟨i,cO,hi,rfl,mT,rfl⟩;refine Q1 (Qa ?_);simp only[go_sem,nA,Q0];intro da;simp only[LIM]at da;refine Wu ?_ ?_
        ·intro hc;have af:i<y.ab.length:=ZE;refine Wc ?_;have fin:∀(b3:Bool) (E1:Env),phiG q.ae np b y.ab[i]=(!b3)->lk 2 E1=Uv b->lk 7 E1=Up x7->lk 8 E1=Up x8->lk 12 E1=.c (.sl false 1 (Qb ps))->lk 13 E1=Uv i->lk 135 E1=.c (.bool b3)->
           BI prog P9 (X.inBlock 6 (X.sq prog P8 (X.next (λe2 H2=>∃m,m<n/\∃(i:Nat),m=y.ab.length-i/\i<=y.ab.length/\H2=H7/\(y.ab.take i).all (phiG q.ae np b)=true/\
            e2=[(2,Uv b),(7,Up x7),(8,Up x8),(12,.c (.sl false 1 (Qb ps))),(13,Uv i)]) (X.inBlock 5 (X.sq prog P7 (Q4 BN (unK H K))))))) E1 H7:=by
          intro b3 E1 dV l2 l7 l8 l12 l13 l135;refine Qf l135 ?_ ?_
          ·intro aD;refine Wn ?_;exact retf false _ _ _ (by rw[ke,FL af (by rw[dV,aD];rfl)];simp) kn ZC
          ·intro aD;refine Zd ?_;refine Qp ?_;simp only[go_sem,X.next,l2,l7,l8,l12,l13];exact⟨Qs,y.ab.length-(i+1),ZB,i+1,rfl,ZB,by rw[FZ af,mT,dV,aD];rfl,rfl⟩
         refine BM ?_;simp only[go_sem,nA,pU,af,Q0,Dh _ _ af,PhiD.cells,Qc];refine⟨λba=>?_,λba=>?_⟩
         ·refine Lp ZB ZB ?_;simp only[go_sem,TS,nA,pU,af,Q0,Dh _ _ af,PhiD.cells];refine⟨λ_=>Qs,?_⟩;refine⟨λcp=>?_,λcp=>?_⟩
          ·refine CG ?_;simp only[go_sem,S5];refine fin _ _ ?_ ZC ZC ZC ZC ZC ZJ;simp[phiG,<-jG]
          ·replace cp:=Ct cp;simp only[go_sem,S5,cp];refine fin true _ ?_ ZC ZC ZC ZC ZC ZC;subst jG;simp at cp;simp[phiG];intro h1 h2 h3;simp[h1,h2,h3]at cp
         ·replace ba:=Ct ba;simp only[go_sem,TS,S5,ba,nA,pU,af,Q0,Dh _ _ af,PhiD.cells];refine fin true _ ?_ ZC ZC ZC ZC ZC ZC;subst jG;simp at ba;simp[phiG];intro h1 h2 h3;simp[h1,h2]at ba
        ·intro hc;have bh:y.ab.length<=i:=ZE;rw[Jd bh]at mT;refine Wb ?_;refine Ql ?_;exact retf true _ _ _ (by rw[ke,jw,mU,ge,mT];rfl) kn ZC
  refine⟨λba=>?_,λba=>?_⟩
  ·refine CG ?_;simp only[go_sem,S4,ba,l1,l2,l3,l7,l8];refine rest8 _ _ ?_ ZC ZC ZC ZC ZC ZJ;by_cases mr:(y.next.length:Int)=want
   ·by_cases hj:y.jump=1
    ·simp[mr,hj]at ba
    ·simp[CT,hw,mr,hj]
   ·simp[mr]at ba
  ·by_cases mr:(y.next.length:Int)=want
   ·by_cases hj:y.jump=1
    ·simp only[go_sem,S4,mr,hj,l1,l2,l3,l7,l8,decide_true,cond_false];have gW:Cq 1=want:=(by rw[<-hj];exact hw);refine rest8 _ _ ?_ ZC ZC ZC ZC ZC ZJ;simp[CT,gW,mr,hj,pt hj]
    ·simp[mr,hj]at ba
   ·simp only[go_sem,S4,mr,l1,l2,l3,l7,l8,decide_false,cond_true];by_cases hj:y.jump=1
    ·simp only[go_sem,hj,decide_true];exact rest8 true _ (by simp[CT,hw,mr]) ZC ZC ZC ZC ZC ZC
    ·simp only[go_sem,hj,decide_false];exact rest8 true _ (by simp[CT,hw,mr]) ZC ZC ZC ZC ZC ZC
 refine Wg ?_;refine Wv ?_ ?_
 ·intro hc;refine Zj j5 ?_;refine Wv ?_ ?_
  ·intro aD;refine We ?_;exact retf false _ _ _ (by simp at hc aD;rw[ke];simp[CT,hc,aD]) kn ZC
  ·intro aD;refine Zd ?_;exact rest31 1 _ Zag (λ_=>ZH) ZC ZC ZC ZC ZC ZC
 intro bH;refine Za ?_;refine Wv ?_ ?_
 ·intro hc;refine Zh ?_;exact rest31 2 _ Zag (λh=>by simp at bH;exact absurd h bH) ZC ZC ZC ZC ZC ZC
 intro aD;refine Za ?_;refine Wv ?_ ?_
 ·intro hc;refine Zh ?_;exact rest31 0 _ Zag (λh=>by simp at bH;exact absurd h bH) ZC ZC ZC ZC ZC ZC
 ·intro hc;refine We ?_;exact retf false _ _ _ (by simp at bH aD hc;rw[ke];simp[CT,Cq,bH,aD,hc]) kn ZC
theorem Q15 {b:BlkD}(hb:b.sg)(hK:∀(o:OBlk) (H':Heap),Kn H H' [] o.lg->o.ok->o.d=b->(∀p∈o.ab,p.own)->K (.ag o.row) H'):Qr prog Qw8 [.ag b.cells] H K:=by
 have cR:=hb.n;have cK:=hb.i;have z8:=hb.p;refine DS ?_;refine Qd BF Qav0 ?_;refine Qa ?_;simp only[go_sem,BlkD.cells];intro x2 aI H1 h1;have kn:=(Kn.an H).al aI h1;refine BM ?_;simp only[go_sem,Qc,Jq,Jg];refine⟨.inl trivial,Qq _,by simp only[LIM];omega,λy hy H2 h2=>?_⟩;have kn:=kn.al hy h2;simp only[go_sem,Qog];intro x3 aL H3 h3;have kn:=kn.al aL h3;have wC:=kn.l 2 rfl;simp only[go_sem,Qof,wC];intro H4 h4;have kn:=kn.aB 2 rfl h4;obtain⟨nx,fj⟩:∃nx:OInts,nx=⟨b.next,y⟩:=⟨_,rfl⟩;have vC:C.ah y 1 0 b.next.length=nx.c:=by rw[fj];rfl
 have ck:[(y,Obj.vec 1 (Qb b.next))]=nx.lg:=by rw[fj];rfl
 rw[vC]at kn;have kn:Kn H H4 [] ([(x2,.st [.sl true 2 [],.sl true 4 [],Ui 0,Ui 0,.sl true 1 []]),(x3,.st [.sl true 2 [],.sl true 4 [],Ui b.jump,Ui b.on,nx.c])]++nx.lg):=kn.perm (by
  rw[<-ck];exact .cons _ (.swap _ _ _))
 refine Wa ?_;refine Qh (Qe (Qw (λn e1 H1=>∃(i:Nat) (ps:List OPhi) (pc:C) (pl:Ul),n=b.ab.length-i/\i<=b.ab.length/\ps.map OPhi.d=b.ab.take i/\(∀p∈ps,p.own)/\Gr pl 2 (ps.map OPhi.row) pc/\
  Kn H H1 [] (([(x2,.st [.sl true 2 [],.sl true 4 [],Ui 0,Ui 0,.sl true 1 []]),(x3,.st [pc,.sl true 4 [],Ui b.jump,Ui b.on,nx.c])]++(nx.lg++ps.flatMap OPhi.lg))++pl)/\
  e1=[(1,.c (.pp [.sl false 2 (Q6 b.ab),.sl false 4 (BJ b.ins),Ui b.jump,Ui b.on,.sl false 1 (Qb b.next)])),(2,Up x2),(3,Up x3),(4,Uv i)]) b.ab.length ?_ ?_))
 ·exact⟨0,[],_,[],ZB,ZB,rfl,ZD,.nil 2,ZM,rfl⟩
 ·rintro n e1 H1 ⟨i,ps,pc,pl,cO,hi,qC,ma,aq,kn,rfl⟩;have tE:ps.length=i:=by have:=congrArg List.length qC;rw[Jf,J3]at this;omega
  have fd:=aq.ai;refine Q1 (Qa ?_);simp only[go_sem,Q0];intro hl;refine Wu ?_ ?_
  ·intro hc;have af:i<b.ab.length:=ZE
   have AC:=hb.pa _ (Jb af);have fC:=kn.l 1 rfl;refine Wl ?_;simp only[go_sem,fC,fd,af,Q0,Dh _ _ af,PhiD.cells,Qc,Jq,Jg];refine⟨.inl trivial,Qq _,by simp only[LIM];omega,λa ha H5 h5=>?_⟩;have kn:=kn.al ha h5;have j6:=kn.l 1 rfl;simp only[go_sem,Qoi,j6,fd,af,Q0,Dh _ _ af,PhiD.cells];obtain⟨o,ho⟩:∃o:OPhi,o=⟨b.ab[i].to,b.ab[i].args,.ah a 1 0 b.ab[i].args.length,[(a,.vec 1 (Qb b.ab[i].args))]⟩:=⟨_,rfl⟩;have nT:o.own:=by rw[ho];exact⟨a,rfl,rfl⟩
   have ky:o.ok:=.inl nT;have kx:[C.int IntKind.i64 b.ab[i].to,C.ah a 1 0 b.ab[i].args.length]=o.row:=Zav
   have eS:[(a,Obj.vec 1 (Qb b.ab[i].args))]=o.lg:=by rw[ho]
   rw[kx];rw[eS]at kn;have kn:=kn.perm Ee;refine kn.grow (new:=[o.row]) aq (.mk' _ _ _ _) (by intro r hr;simp only[Ja]at hr;subst hr;exact o.ak ky) ZP λz H6 kn=>?_;have kn:Kn H H6 [] (([(x2,.st [.sl true 2 [],.sl true 4 [],Ui 0,Ui 0,.sl true 1 []]),(x3,.st [pc,.sl true 4 [],Ui b.jump,Ui b.on,nx.c])]++(nx.lg++(ps++[o]).flatMap OPhi.lg))++[(z,.vec 2 ((ps++[o]).map OPhi.row))]):=by
    simpa[Js,Jm]using kn
   have qb:=kn.l 1 rfl;simp only[go_sem,Qoh,qb];intro H7 h7;have kn:=kn.aB 1 rfl h7;refine Zg ?_;simp only[LIM]at hl;refine⟨Qs,b.ab.length-(i+1),ZB,i+1,ps++[o],_,_,rfl,ZB,by rw[Jv,qC,Jj af,ho];rfl,λp hp=>?_,?_,kn,rfl⟩
   ·rcases Jl.1 hp with h|h
    ·exact ma p h
    ·simp only[Ja]at h;subst h;exact nT
   ·exact .mk _ _ _ ZD
  ·intro hc;have tF:ps.map OPhi.d=b.ab:=by rw[qC,Jd ZE]
   refine Zb ?_;refine Wa ?_;refine Qh (Qe (Qw (λn e1 H1=>∃(i:Nat) (is:List OIns) (ic:C) (il:Ul),n=b.ins.length-i/\i<=b.ins.length/\is.map OIns.d=b.ins.take i/\(∀x∈is,x.a.ns.length<=1000000)/\Gr il 4 (is.map OIns.row) ic/\
    Kn H H1 [] (([(x2,.st [.sl true 2 [],.sl true 4 [],Ui 0,Ui 0,.sl true 1 []]),(x3,.st [pc,ic,Ui b.jump,Ui b.on,nx.c])]++(nx.lg++(ps.flatMap OPhi.lg++(pl++is.flatMap OIns.lg))))++il)/\
    e1=[(1,.c (.pp [.sl false 2 (Q6 b.ab),.sl false 4 (BJ b.ins),Ui b.jump,Ui b.on,.sl false 1 (Qb b.next)])),(2,Up x2),(3,Up x3),(5,Uv i)]) b.ins.length ?_ ?_))
   ·exact⟨0,[],_,[],ZB,ZB,rfl,ZD,.nil 4,by simpa[Jm]using kn,rfl⟩
   ·rintro n e1 H1 ⟨i,is,ic,il,cO,hi,rc,yJ,lp,kn,rfl⟩;have hisl:is.length=i:=(by have:=congrArg List.length rc;rw[Jf,J3]at this;omega);have dj:=lp.ai;refine Q1 (Qa ?_);simp only[go_sem,Cv];intro hl;refine Wu ?_ ?_
    ·intro hc;have af:i<b.ins.length:=ZE;have yP:=hb.ia _ (Jb af);refine Wm ?_;simp only[go_sem,af,Cv,E6 _ _ af,InsD.cells];intro x6 be H5 h5;have kn:=kn.al be h5;have kn:=kn.perm (Ji (l₁:=_) (l₂:=[(x6,_)]));have lF:=kn.l 0 rfl;simp only[go_sem,Qoj,lF];intro H6 h6;have kn:=kn.aB 0 rfl h6;have lE:=kn.l 0 rfl;have qb:=kn.l 2 rfl;refine BY ?_;simp only[go_sem,lE,qb,dj,Qc,Jq,Jg];refine⟨.inl trivial,Qq _,by simp only[LIM];omega,λa ha H7 h7=>?_⟩;have kn:=kn.al ha h7;have kh:=kn.l 0 rfl;have wB:=kn.l 2 rfl;simp only[go_sem,Qol,kh,wB,dj];obtain⟨o,ho⟩:∃o:OIns,o=⟨b.ins[i].op,b.ins[i].to,⟨b.ins[i].args,a⟩,b.ins[i].n⟩:=⟨_,rfl⟩;have kx:[C.int IntKind.i64 b.ins[i].op,C.int IntKind.i64 b.ins[i].to,C.ah a 1 0 b.ins[i].args.length,C.int IntKind.i64 b.ins[i].n]=o.row:=Zav;have eS:[(a,Obj.vec 1 (Qb b.ins[i].args))]=o.lg:=Zav;rw[kx];rw[eS]at kn;have kn:Kn H H7 [] ((([(x2,.st [.sl true 2 [],.sl true 4 [],Ui 0,Ui 0,.sl true 1 []]),(x3,.st [pc,ic,Ui b.jump,Ui b.on,nx.c])]++(nx.lg++(ps.flatMap OPhi.lg++(pl++is.flatMap OIns.lg))))++il)++o.lg):=by
      have kn:=kn.perm (Ji (l₁:=[(x6,_)]) (l₂:=_));exact kn.drop
     have kn:=kn.perm Ee;refine kn.grow (new:=[o.row]) lp (.mk' _ _ _ _) (by simp[o.ak]) ZP λz H8 kn=>?_;have kn:Kn H H8 [] (([(x2,.st [.sl true 2 [],.sl true 4 [],Ui 0,Ui 0,.sl true 1 []]),(x3,.st [pc,ic,Ui b.jump,Ui b.on,nx.c])]++(nx.lg++(ps.flatMap OPhi.lg++(pl++(is++[o]).flatMap OIns.lg))))++[(z,.vec 4 ((is++[o]).map OIns.row))]):=by
      simpa[Js,Jm]using kn
     have wA:=kn.l 1 rfl;simp only[go_sem,Qok,wA];intro H9 h9;have kn:=kn.aB 1 rfl h9;refine Zg ?_;simp only[LIM]at hl;refine⟨Qs,b.ins.length-(i+1),ZB,i+1,is++[o],_,_,rfl,ZB,by rw[Jv,rc,Jj af,ho];rfl,λx hx=>?_,?_,kn,rfl⟩
     ·rcases Jl.1 hx with hx|hx
      ·exact yJ x hx
      ·simp only[Ja]at hx;rw[hx,ho];exact yP
     ·exact .mk _ _ _ ZD
    ·intro hc;have uo:is.map OIns.d=b.ins:=(by rw[rc,Jd (by simpa using hc)]);have j8:=kn.l 0 rfl;have fC:=kn.l 1 rfl;refine Zb ?_;have qK:nx.c.ai=false:=rfl;refine Qa ?_;simp only[go_sem,j8,fC,fd,dj,qK];intro H5 h5;have kn:=kn.aB 0 rfl h5;have wD:=kn.l 0 rfl;refine Ql ?_;simp only[go_sem,Q4,BE,Ja,forall_eq,RS.op,wD,fd,dj,qK];obtain⟨o,ho⟩:∃o:OBlk,o=⟨ps,pc,pl,is,ic,il,b.jump,b.on,nx⟩:=⟨_,rfl⟩;have ax:o.ok:=(by rw[ho];exact⟨aq,lp,λp hp=>.inl (ma p hp)⟩);have gI:o.d=b:=by
      rw[ho];show BlkD.mk (ps.map OPhi.d) (is.map OIns.d) b.jump b.on nx.ns=b;rw[tF,uo,fj]
     have kn:Kn H H5 [] ([(x2,.st [pc,ic,Ui b.jump,Ui b.on,nx.c]),(x3,.st [pc,ic,Ui b.jump,Ui b.on,nx.c])]++o.lg):=by
      rw[ho];simpa[OBlk.lg,Jm]using kn
     refine⟨unx H o.lg,.ag o.row,H5.frz (unx H o.lg),?_,Ep _ _,hK o _ kn.finK ax gI (by rw[ho];exact ma)⟩;rw[ho];exact FrzL.ag (.cons (.same _ fd) (.cons (.same _ dj) (.cons (Qg rfl) (.cons (Qg rfl) (.cons (.same _ qK) .nil)))))
theorem BlkD.take5 (x:BlkD):x.cells.take 5=x.cells:=rfl
theorem BlkD.bv (x:BlkD):(x.cells.all λc=>!c.ai)=true:=rfl
theorem BlkD.len5 (x:BlkD):x.cells.length=5:=rfl
theorem CodeD.take3 (x:CodeD):x.cells.take 3=x.cells:=rfl
theorem CodeD.bv (x:CodeD):(x.cells.all λc=>!c.ai)=true:=rfl
theorem CodeD.len3 (x:CodeD):x.cells.length=3:=rfl
theorem OBlk.len5 (x:OBlk):x.row.length=5:=rfl
theorem OCode.len3 (x:OCode):x.row.length=3:=rfl
theorem FU {q:CodeD}(hq:q.sg)(hK:∀(o:OCode) (H':Heap),Kn H H' [] o.lg->o.ok->o.d=q->(∀b∈o.blocks,∀p∈b.ab,p.own)->K (.ag o.row) H'):Qr prog To [.ag q.cells] H K:=by
 have vz:=hq.b;refine DS ?_;refine Qd BF Yk ?_;refine Qa ?_;simp only[go_sem,CodeD.cells];intro x2 aI H1 h1;have kn:=(Kn.an H).al aI h1;refine Za ?_;intro x3 aL H2 h2;have kn:=kn.al aL h2;have j7:=kn.l 1 rfl;simp only[go_sem,EK,j7];intro H3 h3;have kn:=kn.aB 1 rfl h3;refine Wa ?_;refine Qh (Qe (Qw (λn e1 H1=>∃(i:Nat) (os:List OBlk) (bc:C) (bl:Ul),n=q.blocks.length-i/\i<=q.blocks.length/\os.map OBlk.d=q.blocks.take i/\(∀o∈os,o.ok/\∀p∈o.ab,p.own)/\Gr bl 5 (os.map OBlk.row) bc/\
  Kn H H1 [] (([(x2,.st [Ui 0,Ui 0,.sl true 5 []]),(x3,.st [Ui q.params,Ui q.ae,bc])]++os.flatMap OBlk.lg)++bl)/\
  e1=[(1,.c (.pp [Ui q.params,Ui q.ae,.sl false 5 (Qo q.blocks)])),(2,Up x2),(3,Up x3),(4,Uv i)]) q.blocks.length ?_ ?_))
 ·exact⟨0,[],_,[],ZB,ZB,rfl,ZD,.nil 5,ZM,rfl⟩
 ·rintro n e1 H1 ⟨i,os,bc,bl,cO,hi,gI,ax,aq,kn,rfl⟩;have eS:os.length=i:=by have:=congrArg List.length gI;rw[Jf,J3]at this;omega
  have de:=aq.ai;have fC:=kn.l 1 rfl;refine Q1 (Qa ?_);simp only[go_sem,Qn];intro hl;simp only[LIM]at hl;refine Wu ?_ ?_
  ·intro hc;have af:i<q.blocks.length:=ZE
   refine Wl ?_;simp only[go_sem,fC,de,af,Qn,Cy _ _ af,BlkD.take5,BlkD.bv,BlkD.len5];refine Q15 (hq.bs _ (Jb af)) λo H4 k2 iX rF nT=>?_;have kn:=kn.comp0 k2;have lI:=kn.l 1 rfl;simp only[go_sem,NT,lI,de,o.len5];have kn:=kn.perm Ee;refine kn.grow (new:=[o.row]) aq (.mk' _ _ _ _) (by intro r hr;simp only[Ja]at hr;subst hr;exact o.ak iX) ZP λz H5 kn=>?_;have kn:Kn H H5 [] (([(x2,.st [Ui 0,Ui 0,.sl true 5 []]),(x3,.st [Ui q.params,Ui q.ae,bc])]++(os++[o]).flatMap OBlk.lg)++[(z,.vec 5 ((os++[o]).map OBlk.row))]):=by
    simpa[Js,Jm]using kn
   have j6:=kn.l 1 rfl;simp only[go_sem,NU,j6];intro H6 h6;have kn:=kn.aB 1 rfl h6;refine Zg ?_;refine⟨Qs,q.blocks.length-(i+1),ZB,i+1,os++[o],_,_,rfl,ZB,by rw[Jv,gI,Jj af,Jah,Jaj,rF],λo' fN=>?_,.mk _ _ _ ZD,kn,rfl⟩;rcases Jl.1 fN with h|h
   ·exact ax o' h
   ·simp at h;subst h;exact⟨iX,nT⟩
  ·intro hc;have bh:q.blocks.length<=i:=ZE
   have j8:=kn.l 0 rfl;refine Zb ?_;refine Zq fC j8 de ?_;intro H4 h4;have kn:=kn.aB 0 rfl h4;have lK:=kn.l 0 rfl;refine Zr lK de ?_;obtain⟨o,ho⟩:∃o:OCode,o=⟨q.params,q.ae,os,bc,bl⟩:=⟨_,rfl⟩;have gI:o.d=q:=by
    rw[ho];show CodeD.mk q.params q.ae (os.map OBlk.d)=q;rw[gI,Jd bh]
   have xN:∀b∈o.blocks,∀p∈b.ab,p.own:=by rw[ho];exact λb hb=>(ax b hb).2
   have ax:o.ok:=by rw[ho];exact⟨aq,λb hb=>(ax b hb).1⟩
   have kn:Kn H H4 [] ([(x2,.st [Ui q.params,Ui q.ae,bc]),(x3,.st [Ui q.params,Ui q.ae,bc])]++o.lg):=by
    rw[ho];simpa[OCode.lg,Jm]using kn
   refine⟨unx H o.lg,.ag o.row,H4.frz (unx H o.lg),?_,Ep _ _,hK o _ kn.finK ax gI xN⟩;rw[ho];exact FrzL.ag (.cons (Qg rfl) (.cons (Qg rfl) (.cons (.same _ de) .nil)))
theorem Qbw1 {q:CodeD}(hq:q.sm)(hK:∀(o:OCode) (H':Heap),Kn H H' [] o.lg->o.ok->o.d=q->o.sm 1000->K (.ag o.row) H'):Qr prog To [.ag q.cells] H K:=
 FU hq.sg λo H' k1 k2 k3 _=>hK o H' k1 k2 k3 (by rw[<-k3]at hq;exact hq.o)
theorem Qa1q {cs:List CodeD}{fl:Bool}(hs:∀c∈cs,c.sm)(hl:cs.length<=1000000)
  (hK:∀(us:List OCode) (cc:C) (cl:Ul) (H':Heap),Kn H H' [] (us.flatMap OCode.lg++cl)->Gr cl 3 (us.map OCode.row) cc->(∀u∈us,u.ok/\u.sm 1000)->us.length=cs.length->K (.ag [cc]) H') :
  Qr prog Q1v [.ag [.sl fl 3 (Qm cs)]] H K:=by
 refine DS ?_;refine Qd BF Qa2a ?_;refine Za ?_;intro x2 aI H1 h1;have kn:=(Kn.an H).al aI h1;refine Za ?_;intro x3 aL H2 h2;have kn:=kn.al aL h2;have j7:=kn.l 1 rfl;simp only[go_sem,Sn,j7];intro H3 h3;have kn:=kn.aB 1 rfl h3;refine Wa ?_;refine Qh (Qe (Qw (λn e1 H1=>∃(i:Nat) (os:List OCode) (bc:C) (bl:Ul),n=cs.length-i/\i<=cs.length/\os.length=i/\(∀o∈os,o.ok/\o.sm 1000)/\Gr bl 3 (os.map OCode.row) bc/\
  Kn H H1 [] (([(x2,.st [.sl true 3 []]),(x3,.st [bc])]++os.flatMap OCode.lg)++bl)/\
  e1=[(1,.c (.pp [.sl fl 3 (Qm cs)])),(2,Up x2),(3,Up x3),(4,Uv i)]) cs.length ?_ ?_))
 ·exact⟨0,[],_,[],ZB,ZB,rfl,ZD,.nil 3,ZM,rfl⟩
 ·rintro n e1 H1 ⟨i,os,bc,bl,cO,hi,eS,ax,aq,kn,rfl⟩;have de:=aq.ai;have fC:=kn.l 1 rfl;refine Q1 (Qa ?_);simp only[go_sem,Q8];intro _;refine Wu ?_ ?_
  ·intro hc;have af:i<cs.length:=ZE
   refine Wl ?_;simp only[go_sem,fC,de,af,Q8,Do _ _ af,CodeD.take3,CodeD.bv,CodeD.len3];refine Qbw1 (hs _ (Jb af)) λo H4 k2 iX _ bg=>?_;have kn:=kn.comp0 k2;have lI:=kn.l 1 rfl;simp only[go_sem,Quo,lI,de,o.len3];have kn:=kn.perm Ee;refine kn.grow (new:=[o.row]) aq (.mk' _ _ _ _) (by intro r hr;simp only[Ja]at hr;subst hr;exact o.ak iX) ZP λz H5 kn=>?_;have kn:Kn H H5 [] (([(x2,.st [.sl true 3 []]),(x3,.st [bc])]++(os++[o]).flatMap OCode.lg)++[(z,.vec 3 ((os++[o]).map OCode.row))]):=by
    simpa[Js,Jm]using kn
   have j6:=kn.l 1 rfl;simp only[go_sem,Qun,j6];intro H6 h6;have kn:=kn.aB 1 rfl h6;refine Zg ?_;refine⟨Qs,cs.length-(i+1),ZB,i+1,os++[o],_,_,rfl,ZB,by simp[eS],λo' fN=>?_,.mk _ _ _ ZD,kn,rfl⟩;rcases Jl.1 fN with h|h
   ·exact ax o' h
   ·simp at h;subst h;exact⟨iX,bg⟩
  ·intro hc;have bh:cs.length<=i:=ZE
   have j8:=kn.l 0 rfl;refine Zb ?_;refine Zq fC j8 de ?_;intro H4 h4;have kn:=kn.aB 0 rfl h4;have lK:=kn.l 0 rfl;refine Zr lK de ?_;have kn:Kn H H4 [] ([(x2,.st [bc]),(x3,.st [bc])]++(os.flatMap OCode.lg++bl)):=by
    simpa[Jm]using kn
   exact⟨unx H _,.ag [bc],H4.frz (unx H _),FrzL.ag (.cons (.same _ de) .nil),Ep _ _,hK os bc bl _ kn.finK aq ax ZB⟩
structure CRd (H:Heap)(R:Rdr)(cc:C)(rows:List (List C)):Prop where
 s:Slc H 3 rows cc
 ow:cc.ai=false
 ne:∀l a c d,cc=.ah l a c d->l≠R.l
 r:∀i,i<rows.length->∃(p:Int) (c1 c2:C),rows.getD i []=[Ui p,c1,c2]/\0<=p/\p<=3
theorem CRd.keep {R:Rdr}{cc:C}{rows:List (List C)}{o:Obj}{H':Heap}{L:Ul}(h:CRd H R cc rows)(kn:Kn H H' [(R.l,o)] L):CRd H' R cc rows:=
 ⟨h.s.keep kn (λl a c d hh=>by simpa using h.ne l a c d hh),h.ow,h.ne,h.r⟩
theorem GM {R:Rdr}{k b n:Nat}(hH:H R.l=R.o k)(hk:k+2<=2^40)(hb:b<=1000)(hn:n<=1000)
  (hK:∀(v:Int) (H':Heap) (k':Nat),k<k'->k'<=k+2->Upd H H' [(R.l,R.o k')]->K (Uv v) H') :
  Qr prog K7 [.c (.ptr R.l 0),Uv b,Uv n] H K:=by
 refine Qy ?_;refine Qd BF Qb47 ?_;have kn:=Kn.start1 hH (R.ao k);refine Wj ?_;refine⟨Qs,?_⟩;have rest:∀(v:Bool) (H2:Heap) (k2:Nat),k<=k2->k2<=k+1->Kn H H2 [(R.l,R.o k2)] []->
   BI prog (s_l7To_2.seq Lc) (Q4 BN (unK H K)) [(0,.c (.ptr R.l 0)),(1,Uv b),(2,Uv n),(15,.c (.bool v))] H2:=by
  intro v H2 k2 iM fy kn;have pv:∀m v:Int,m<=1000->(if m<1 then v=0 else 0<=v/\v<m)->0<=v/\v<=1000:=by
   intro m v hm hv;split at hv <;> omega
  refine Wu ?_ ?_
  ·intro hc;refine Za ?_;refine⟨Qs,Qs,Qs,?_⟩;refine Cg (kn.e 0 rfl) ZB λv H3 hv hu=>?_;have kn:=kn.au 0 rfl hu (R.ao _);have hv:=pv _ _ ZB hv;simp only[go_sem,Rh];refine⟨Qs,?_⟩;refine Ze ?_;exact⟨_,.c _ _ (Qg rfl),hK _ _ (k2+1) ZB ZB kn.fin⟩
  ·intro hc;refine Zd ?_;refine Za ?_;refine⟨Qs,?_⟩;refine Cg (kn.e 0 rfl) ZB λv H3 hv hu=>?_;have kn:=kn.au 0 rfl hu (R.ao _);have hv:=pv _ _ ZB hv;simp only[go_sem,Rg];refine⟨Qs,?_⟩;refine Ze ?_;exact⟨_,.c _ _ (Qg rfl),hK _ _ (k2+1) ZB ZB kn.fin⟩
 refine⟨λba=>?_,λba=>?_⟩
 ·refine Cg (kn.e 0 rfl) ZB λv H3 hv hu=>?_;have kn:=kn.au 0 rfl hu (R.ao _);simp only[go_sem,HN,ba];exact rest _ _ (k+1) ZB ZB kn
 ·simp only[go_sem,HN,ba];exact rest _ _ k ZB ZB kn
theorem Qbw3 {R:Rdr}{k:Nat}{cc:C}{rows:List (List C)}{ae:Int}(hH:H R.l=R.o k)(hk:k+9<=2^40)(hc:CRd H R cc rows)
  (hK:∀(x:InsD) (H':Heap) (k':Nat),k<k'->k'<=k+9->Upd H H' [(R.l,R.o k')]->x.args.length<=3->K (.ag x.cells) H') :
  Qr prog RK [.c (.ptr R.l 0),.ag [cc],Uv ae] H K:=by
 refine Qy ?_;refine Qd BF Yi ?_;have bt:=hc.ow;have am:=hc.s.len;have jg:=hc.s.sz;refine Za ?_;intro x6 be H1 h1;have kn:=(Kn.start1 hH (R.ao k)).al be h1;refine Za ?_;refine CO (ns:=[1,1,2,3,4,5,8,9,10,13,3,6,7,11,12,14]) (kn.e 0 rfl) ZB ZD λop H2 b9 hu=>?_;have kn:=kn.au 0 rfl hu (R.ao _);simp only[go_sem,NM];refine Za ?_;refine Cg (kn.e 0 rfl) ZB λto H3 lS hu=>?_;have kn:=kn.au 0 rfl hu (R.ao _);simp only[go_sem,Oi,NL];intro x8 aV H4 h4;have kn:=kn.al aV h4;have j5:=kn.l 1 rfl;simp only[go_sem,j5];intro H5 h5;have kn:=kn.aB 1 rfl h5;refine Za ?_;refine Qbrb λmany su fw=>?_;simp only[go_sem,Dp];have args:∀(many:Int) (to n:Int) (H6:Heap) (k6:Nat),many<=3->k<k6->k6<=k+4->Kn H H6 [(R.l,R.o k6)] [(x6,.st [Ui 0,Ui 0,.sl true 1 [],Ui 0]),(x8,.st [Ui op,Ui to,.sl true 1 [],Ui n])]->
   BI prog NP (Q4 EY (unK H K)) [(0,.c (.ptr R.l 0)),(2,Uv ae),(6,Up x6),(8,Up x8),(9,Uv many)] H6:=by
  intro many to n H6 k6 mo iM fy kn;refine Wa ?_;refine Qh (Qe (Qw (λm e1 H1=>∃(i:Nat) (ns:List Int) (ac:C) (al:Ul),m=3-i/\i<=3/\ns.length=i/\Gr al 1 (Qb ns) ac/\
   Kn H H1 [(R.l,R.o (k6+i))] ([(x6,.st [Ui 0,Ui 0,.sl true 1 [],Ui 0]),(x8,.st [Ui op,Ui to,ac,Ui n])]++al)/\
   e1=[(0,.c (.ptr R.l 0)),(2,Uv ae),(6,Up x6),(8,Up x8),(9,Uv many),(10,Uv i)]) 3 ?_ ?_))
  ·exact⟨0,[],_,[],ZB,ZB,rfl,.nil 1,ZM,rfl⟩
  ·rintro m e1 H7 ⟨i,ns,ac,al,hm,hi,dA,aq,kn,rfl⟩;have f0:=aq.ai;have aV:=kn.l 1 rfl;refine Wa ?_;refine Wu ?_ ?_
   ·intro hc;have af:(i:Int)<many:=ZE;refine Wc ?_;refine BY ?_;simp only[go_sem,aV,f0];refine Cg (kn.e 0 rfl) ZB λv H8 hv hu=>?_;have kn:=kn.au 0 rfl hu (R.ao _);have aV:=kn.l 1 rfl;simp only[go_sem,PO,aV,f0];refine kn.grow (new:=Qb [v]) aq (.mk' _ _ _ _) (Qq _) ZaA λy H9 kn=>?_;have aV:=kn.l 1 rfl;simp only[go_sem,PP,aV];intro H10 db;have kn:=kn.aB 1 rfl db;refine Zg ?_;refine⟨Qs,3-(i+1),ZB,i+1,ns++[v],_,_,rfl,ZB,by simp[dA],?_,kn,rfl⟩;rw[<-D8];exact .mk _ _ _ (by simp[D8,Qc])
   ·intro hc;refine Zb ?_;have be:=kn.l 0 rfl;refine Zq aV be f0 ?_;intro H8 h8;have kn:Kn H H8 [(R.l,R.o (k6+i))] ([(x6,.st [Ui op,Ui to,ac,Ui n]),(x8,.st [Ui op,Ui to,ac,Ui n])]++al):=kn.aB 0 rfl h8;have be:=kn.l 0 rfl;refine Zr be f0 ?_;exact⟨.ag (InsD.mk op to ns n).cells,FrzL.ag (.cons (Qg rfl) (.cons (Qg rfl) (.cons (aq.frz kn (Qq _)) (.cons (Qg rfl) .nil)))),hK ⟨op,to,ns,n⟩ _ (k6+i) ZB ZB kn.fin (by show ns.length<=3;omega)⟩
 have rest:∀(many n:Int) (H6:Heap) (k6:Nat) (E1:Env),lk 0 E1=.c (.ptr R.l 0)->lk 2 E1=Uv ae->lk 6 E1=Up x6->lk 7 E1=Uv op->lk 8 E1=Up x8->lk 9 E1=Uv many->many<=3->k<k6->k6<=k+3->Kn H H6 [(R.l,R.o k6)] [(x6,.st [Ui 0,Ui 0,.sl true 1 [],Ui 0]),(x8,.st [Ui op,Ui to,.sl true 1 [],Ui n])]->
   BI prog NN (Q4 EY (unK H K)) E1 H6:=by
  intro many n H6 k6 E1 l0 l2 l6 l7 l8 l9 mo iM fy kn;have rest2:∀(n:Int) (H6:Heap) (k6:Nat) (E1:Env),lk 0 E1=.c (.ptr R.l 0)->lk 2 E1=Uv ae->lk 6 E1=Up x6->lk 7 E1=Uv op->lk 8 E1=Up x8->lk 9 E1=Uv many->k<k6->k6<=k+4->Kn H H6 [(R.l,R.o k6)] [(x6,.st [Ui 0,Ui 0,.sl true 1 [],Ui 0]),(x8,.st [Ui op,Ui to,.sl true 1 [],Ui n])]->
    BI prog NO (Q4 EY (unK H K)) E1 H6:=by
   intro n H6 k6 E1 l0 l2 l6 l7 l8 l9 iM fy kn;refine Wa ?_;simp only[l7,true_and];refine IH ?_;simp only[go_sem,PQ,l0,l2,l6,l8,l9];refine Wu ?_ ?_
   ·intro hc;have aV:=kn.l 1 rfl;refine Qp ?_;simp only[go_sem,aV];intro H7 h7;have kn:=kn.aB 1 rfl h7;exact args many (-1) n H7 k6 mo iM fy kn
   ·intro hc;refine Zd ?_;exact args many to n H6 k6 mo iM fy kn
  refine Q1 (Qa ?_);simp only[go_sem,l0,l2,l6,l7,l8,l9];refine Wu ?_ ?_
  ·intro hc;refine Zh ?_;refine CO (ns:=[0,1,2,3,15,16,255]) (kn.e 0 rfl) ZB ZD λn2 H7 jw hu=>?_;have kn:=kn.au 0 rfl hu (R.ao _);have aV:=kn.l 1 rfl;simp only[go_sem,PS,aV];intro H8 h8;have kn:=kn.aB 1 rfl h8;exact rest2 n2 H8 (k6+1) _ ZC ZC ZC ZC ZC ZC ZB ZB kn
  ·intro hc;refine Zd ?_;exact rest2 n H6 k6 _ ZC ZC ZC ZC ZC ZC ZB ZB kn
 refine Wa ?_;refine Wu ?_ ?_
 ·intro oW;have jh:=hc.keep kn;have dg:=eq_true jh.s.ok;refine Q1 (Qa ?_);simp only[go_sem,bt,am,dg];intro hl;refine Wu ?_ ?_
  ·intro h0;refine Za ?_;refine Cg (kn.e 0 rfl) ZB λv H6 hv hu=>?_;have kn:=kn.au 0 rfl hu (R.ao _);have be:=kn.l 0 rfl;simp only[go_sem,Oh,be];intro H7 h7;have kn:=kn.aB 0 rfl h7;have be:=kn.l 0 rfl;refine Zo be ?_;exact⟨.ag (InsD.mk 13 (-1) [v] 0).cells,FrzL.ag (.cons (Qg rfl) (.cons (Qg rfl) (.cons (FrzR.same (Qq [v])).sl (.cons (Qg rfl) .nil)))),hK ⟨13,-1,[v],0⟩ _ (k+3) ZB ZB kn.fin ZD⟩
  ·intro h0;have mc:0<rows.length:=by
    have:¬rows.length=0:=(by simpa using h0);omega
   refine Zd ?_;refine Zq bt am dg ?_;intro _;refine Cg (kn.e 0 rfl) ZB λv H6 hv hu=>?_;have kn:=kn.au 0 rfl hu (R.ao _);rw[if_neg ZB]at hv;obtain⟨i,rfl⟩:=Jo hv.1;have hi:i<rows.length:=ZB
   obtain⟨p,c1,c2,aC,iW,hp3⟩:=hc.r i hi;have aV:=kn.l 1 rfl;simp only[go_sem,Og,aV];intro H7 h7;have kn:=kn.aB 1 rfl h7;have aV:=kn.l 1 rfl;have Bh:=hc.keep kn;have xU:=eq_true Bh.s.ok;have xc:=Bh.s.rows;refine Qp ?_;simp only[go_sem,bt,am,xU,xc,jg,aV,hi,aC];exact rest p i H7 (k+3) _ ZC ZC ZC ZC ZC ZC ZB ZB ZB kn
 ·intro oW;refine Zd ?_;exact rest many 0 H5 (k+2) _ ZC ZC ZC ZC ZC ZC ZB ZB ZB kn
theorem Qb20 {α:Type}{a M b c:List α}:(a++(M++b)++c).Perm (((M++c)++b)++a):=by
 refine Ji.trans ?_;refine (List.Perm.append_left _ (Ji (l₁:=a))).trans ?_;rw[<-Jm];refine .append_right _ ?_;rw[<-Jm];exact .append_right _ Ji
def EnvA (R:Rdr)(cc:C)(x4 x5 x8 n b:Nat)(e:Env):Prop:=
 lk 0 e=.c (.ptr R.l 0)/\lk 3 e=.c (.pp [cc])/\lk 4 e=.c (.ptr x4 0)/\lk 5 e=.c (.ptr x5 0)/\lk 6 e=.c (.int .i64 n)/\lk 7 e=.c (.int .i64 b)/\lk 8 e=.c (.ptr x8 0)
theorem Qbw0 {R:Rdr}{k:Nat}{cc:C}{rows:List (List C)}(hH:H R.l=R.o k)(hk:k+1000<=2^40)(hc:CRd H R cc rows)
  (hK:∀(o:UCode) (H':Heap) (k':Nat),k<k'->k'<=k+1000->Kn H H' [(R.l,R.o k')] o.lg->o.ok->o.sm 0->K (.ag o.row) H') :
  Qr prog RM [.c (.ptr R.l 0),.ag [cc]] H K:=by
 refine DS ?_;refine Qd BF Yl ?_;have bt:=hc.ow;refine Za ?_;intro x4 aY H1 h1;have kn:=(Kn.start1 hH (R.ao k)).al aY h1;refine Za ?_;refine CO (ns:=[1,0,2,3]) (kn.e 0 rfl) ZB ZD λp H2 hp hu=>?_;have kn:=kn.au 0 rfl hu (R.ao _);have hp:0<=p/\p<=3:=by simp at hp;omega
 simp only[go_sem,Ow];intro x5 bq H3 h3;have kn:=kn.al bq h3;have eY:=kn.l 1 rfl;simp only[go_sem,FO,eY];intro H4 h4;have kn:=kn.aB 1 rfl h4;have gA:=kn.l 1 rfl;refine BM ?_;simp only[go_sem,gA];refine⟨Qs,?_⟩;refine Cg (kn.e 0 rfl) ZB λq H5 hq hu=>?_;have kn:=kn.au 0 rfl hu (R.ao _);have nD:=kn.l 1 rfl;rw[if_neg ZB]at hq;simp only[go_sem,Ob,nD];refine⟨Qs,?_⟩;intro H6 h6;have kn:=kn.aB 1 rfl h6;obtain⟨rg,iU⟩:∃rg,p+2+q=rg:=⟨_,rfl⟩;rw[iU]at kn;refine Za ?_;refine CO (ns:=[3,5,2,1,7,4]) (kn.e 0 rfl) ZB ZD λn0 H7 cC hu=>?_;have kn:=kn.au 0 rfl hu (R.ao _);simp only[go_sem,Oa];obtain⟨n,rfl,cO,hn7⟩:∃n:Nat,n0=n/\1<=n/\n<=7:=⟨n0.toNat,by simp at cC;omega⟩;refine Wa ?_;refine Qh (Qe (Qw (λm e1 H1=>∃(b k1:Nat) (bs:List UBlk) (bc:C) (bl:Ul),m=n-b/\b<=n/\bs.length=b/\k<k1/\k1<=k+3+50 * b/\(∀o∈bs,o.ok/\o.sm 0)/\Gr bl 5 (bs.map UBlk.row) bc/\
  Kn H H1 [(R.l,R.o k1)] (([(x4,.st [Ui 0,Ui 0,.sl true 5 []]),(x5,.st [Ui p,Ui rg,bc])]++bs.flatMap UBlk.lg)++bl)/\
  e1=[(0,.c (.ptr R.l 0)),(3,.c (.pp [cc])),(4,Up x4),(5,Up x5),(6,Uv n),(7,Uv b)]) n ?_ ?_))
 ·exact⟨0,k+1+1+1,[],_,[],ZB,ZB,rfl,ZB,ZB,ZD,.nil 5,ZM,rfl⟩
 ·rintro m e1 H8 ⟨b,k1,bs,bc,bl,hm,hb,kL,iM,fy,ax,aq,kn,rfl⟩;have de:=aq.ai;refine Wa ?_;refine Wu ?_ ?_
  ·intro bH;have af:b<n:=ZaY
   refine Wc ?_;refine Za ?_;intro x8 aV H9 h9;have kn:=kn.al aV h9;have kn:=kn.perm Ji;have wt:=kn.l 0 rfl;simp only[go_sem,NZ,wt];intro H10 db;have kn:=kn.aB 0 rfl db;refine Wa ?_;refine CO (ns:=[1,2,0,3,4]) (kn.e 0 rfl) ZB ZD λi0 H11 lj hu=>?_;have kn:=kn.au 0 rfl hu (R.ao _);simp only[go_sem,NY];obtain⟨i,rfl,hi4⟩:∃i:Nat,i0=i/\i<=4:=⟨i0.toNat,by simp at lj;omega⟩;refine Qh (Qe (Qw (λm e1 H1=>∃(t k2:Nat) (ds:List InsD) (ic:C) (il:Ul),m=t/\t+ds.length=i/\k1<k2/\k2<=k1+1+9 * ds.length/\(∀d∈ds,d.args.length<=3)/\Gr il 4 (BJ ds) ic/\
    Kn H H1 [(R.l,R.o k2)] (([(x8,.st [.sl true 2 [],ic,Ui 0,Ui 0,.sl true 1 []])]++(([(x4,.st [Ui 0,Ui 0,.sl true 5 []]),(x5,.st [Ui p,Ui rg,bc])]++bs.flatMap UBlk.lg)++bl))++il)/\
    e1=[(0,.c (.ptr R.l 0)),(3,.c (.pp [cc])),(4,Up x4),(5,Up x5),(6,Uv n),(7,Uv b),(8,Up x8),(9,Uv t)]) i ?_ ?_))
   ·refine⟨i,k1+1,[],_,[],rfl,rfl,ZB,ZD,ZD,.nil 4,ZM,rfl⟩
   ·rintro m2 e1 H12 ⟨t,k2,ds,ic,il,fw,ht,jJ,ja,gc,lp,kn,rfl⟩;have dj:=lp.ai;have aV:=kn.l 0 rfl;have bq:=kn.l 2 rfl;refine Wa ?_;refine Wu ?_ ?_
    ·intro aD;have vu:0<t:=ZH;refine Wc ?_;refine BY ?_;simp only[go_sem,aV,bq,dj,bt];refine Qbw3 (kn.e 0 rfl) ZB (hc.keep kn) λd H13 k3 yD AR hu hd=>?_;have kn:=kn.au 0 rfl hu (R.ao _);have aV:=kn.l 0 rfl;simp only[go_sem,NV,aV,dj,InsD.len4];refine kn.grow (new:=[d.cells]) lp (.mk' _ _ _ _) (by intro r hr;simp only[Ja]at hr;subst hr;rfl) (by simp only[Cv,LIM,Jk,Jn];omega) λy H14 kn=>?_;have aV:=kn.l 0 rfl;simp only[go_sem,NW,aV];intro H15 vk;have kn:=kn.aB 0 rfl vk;refine Zg ?_;refine⟨Qs,t-1,ZB,t-1,k3,ds++[d],_,_,rfl,by simp;omega,ZB,by simp;omega,λd' dc=>?_,?_,kn,?_⟩
     ·rcases Jl.1 dc with h|h
      ·exact gc _ h
      ·simp only[Ja]at h;subst h;exact hd
     ·rw[Qbln];exact .mk _ _ _ (by simp[Cv])
     ·have:(t:Int)-1=((t-1:Nat):Int):=ZB;rw[this]
    ·intro aD;have vu:t=0:=(by have:¬0<t:=(by simpa using aD);omega);refine Zb ?_;refine Zj bq ?_;refine Cg (kn.e 0 rfl) ZB λon H13 xS hu=>?_;have kn:=kn.au 0 rfl hu (R.ao _);have aV:=kn.l 0 rfl;simp only[go_sem,P1,aV];intro H14 iC;have kn:=kn.aB 0 rfl iC;refine Za ?_;refine CO (ns:=[2,1,2,1,3]) (kn.e 0 rfl) ZB ZD λjump H15 AT hu=>?_;have kn:=kn.au 0 rfl hu (R.ao _);have aV:=kn.l 0 rfl;simp only[go_sem,P0,aV];intro H16 j3;have kn:=kn.aB 0 rfl j3;refine Ck (λe2 H2=>∃(k2:Nat) (jump:Int),k1<k2/\k2<=k1+40/\Kn H H2 [(R.l,R.o k2)] (([(x8,.st [.sl true 2 [],ic,Ui jump,Ui on,.sl true 1 []])]++(([(x4,.st [Ui 0,Ui 0,.sl true 5 []]),(x5,.st [Ui p,Ui rg,bc])]++bs.flatMap UBlk.lg)++bl))++il)/\EnvA R cc x4 x5 x8 n b e2) ?_ ?_
     ·intro Q hn _ _;have rest:∀(v:Bool) (H2:Heap) (k2:Nat),k1<k2->k2<=k1+40->Kn H H2 [(R.l,R.o k2)] (([(x8,.st [.sl true 2 [],ic,Ui jump,Ui on,.sl true 1 []])]++(([(x4,.st [Ui 0,Ui 0,.sl true 5 []]),(x5,.st [Ui p,Ui rg,bc])]++bs.flatMap UBlk.lg)++bl))++il)->
        BI prog Ox Q [(0,.c (.ptr R.l 0)),(3,.c (.pp [cc])),(4,Up x4),(5,Up x5),(6,Uv n),(7,Uv b),(8,Up x8),(68,.c (.bool v))] H2:=by
       intro v H2 k2 iM fy kn;refine Wv ?_ ?_
       ·intro hc;have aV:=kn.l 0 rfl;refine Qp ?_;simp only[go_sem,aV];intro H3 h3;have kn:=kn.aB 0 rfl h3;exact hn _ _ ⟨k2,3,iM,fy,kn,rfl,rfl,rfl,rfl,rfl,rfl,rfl⟩
       ·intro hc;refine Qi ?_;exact hn _ _ ⟨k2,jump,iM,fy,kn,rfl,rfl,rfl,rfl,rfl,rfl,rfl⟩
      refine Za ?_;refine⟨λ_=>Qs,?_⟩;refine⟨λba=>?_,λba=>?_⟩
      ·refine Cg (kn.e 0 rfl) ZB λv H17 hv hu=>?_;have kn:=kn.au 0 rfl hu (R.ao _);simp only[go_sem,Sy,ba];exact rest _ _ _ ZB ZB kn
      ·by_cases h1:(n:Int)=1
       ·have hd:=decide_eq_true h1;have eU:decide ((b:Int)=n-1)=true:=decide_eq_true ZB;simp only[go_sem,Sy,hd,eU,Bool.not_true];exact rest true _ _ ZB ZB kn
       ·have h2:¬(b:Int)=n-1:=(by simpa[h1]using ba);simp only[go_sem,Sy,h1,h2,decide_false,Bool.not_false,cond_false];exact rest false _ _ ZB ZB kn
     rintro e2 H17 ⟨k3,jump,yD,AR,kn,l0,l3,l4,l5,l6,l7,l8⟩;refine Ck (λe2 H2=>∃(k2:Nat) (jump on:Int) (nfl:Bool) (next:List Int),next.length<=2/\k1<k2/\k2<=k1+50/\Kn H H2 [(R.l,R.o k2)] (([(x8,.st [.sl true 2 [],ic,Ui jump,Ui on,.sl nfl 1 (Qb next)])]++(([(x4,.st [Ui 0,Ui 0,.sl true 5 []]),(x5,.st [Ui p,Ui rg,bc])]++bs.flatMap UBlk.lg)++bl))++il)/\EnvA R cc x4 x5 x8 n b e2) ?_ ?_
     ·intro Q hn _ _;have aV:=kn.l 0 rfl;refine Qa ?_;simp only[go_sem,aV,l0,l3,l4,l5,l6,l7,l8];refine Wq ?_;refine Wv ?_ ?_
      ·intro hc;refine Zj aV ?_;intro H18 vj;have kn:=kn.aB 0 rfl vj;refine Zh ?_;refine GM (kn.e 0 rfl) ZB ZB ZB λv1 H19 k4 AQ AP hu=>?_;have kn:=kn.au 0 rfl hu (R.ao _);have aV:=kn.l 0 rfl;simp only[go_sem,Py,aV];intro H20 sI;have kn:=kn.aB 0 rfl sI;exact hn _ _ ⟨k4,jump,0,true,[v1],ZD,ZB,ZB,kn,rfl,rfl,rfl,rfl,rfl,rfl,rfl⟩
      ·intro hc;refine Za ?_;refine Wv ?_ ?_
       ·intro hc;refine Zh ?_;refine GM (kn.e 0 rfl) ZB ZB ZB λv1 H19 k4 AQ AP hu=>?_;have kn:=kn.au 0 rfl hu (R.ao _);simp only[go_sem,Pw];refine GM (kn.e 0 rfl) ZB ZB ZB λv2 H20 k5 hk9 hk10 hu=>?_;have kn:=kn.au 0 rfl hu (R.ao _);have aV:=kn.l 0 rfl;simp only[go_sem,Px,aV];intro H21 h21;have kn:=kn.aB 0 rfl h21;exact hn _ _ ⟨k5,jump,on,true,[v1,v2],ZD,ZB,ZB,kn,rfl,rfl,rfl,rfl,rfl,rfl,rfl⟩
       ·intro hc;refine Qi ?_;exact hn _ _ ⟨k3,jump,on,true,[],ZD,ZB,ZB,kn,rfl,rfl,rfl,rfl,rfl,rfl,rfl⟩
     rintro e3 H18 ⟨k4,jump,on,nfl,next,fj,AQ,AP,kn,l0,l3,l4,l5,l6,l7,l8⟩;have aV:=kn.l 0 rfl;have bq:=kn.l 2 rfl;refine Qp ?_;simp only[go_sem,aV,bq,l5,l8,dj,de];obtain⟨o,ho⟩:∃o:UBlk,o=⟨[],.sl true 2 [],[],ds,ic,il,jump,on,nfl,next⟩:=⟨_,rfl⟩;have kx:[C.sl true 2 [],ic,C.int IntKind.i64 jump,C.int IntKind.i64 on,C.sl nfl 1 (Qb next)]=o.row:=Zav;have eS:o.lg=il:=(by rw[ho];simp[UBlk.lg]);have ky:o.ok:=(by rw[ho];exact⟨.nil 2,lp,ZD⟩);have mf:o.sm 0:=(by rw[ho];exact⟨fj,by show ds.length<=_;omega,ZD,λd hd=>by have:=gc d hd;omega,ZD⟩);rw[kx];have kn:=(kn.perm Qb20).drop;refine kn.grow (new:=[o.row]) aq (.mk' _ _ _ _) (by intro r hr;simp only[Ja]at hr;subst hr;exact o.ak ky) ZP λz H19 kn=>?_;have kn:Kn H H19 [(R.l,R.o k4)] (([(x4,.st [Ui 0,Ui 0,.sl true 5 []]),(x5,.st [Ui p,Ui rg,bc])]++(bs++[o]).flatMap UBlk.lg)++[(z,.vec 5 ((bs++[o]).map UBlk.row))]):=by
      simpa[Js,Jm,eS]using kn
     have bq:=kn.l 1 rfl;simp only[go_sem,PW,bq,l0,l3,l4,l5,l6,l7];intro H20 sI;have kn:=kn.aB 1 rfl sI;refine Zg ?_;refine⟨Qs,n-(b+1),ZB,b+1,k4,bs++[o],_,_,rfl,ZB,by simp[kL],ZB,ZB,λo' fN=>?_,.mk _ _ _ ZD,kn,rfl⟩;rcases Jl.1 fN with h|h
     ·exact ax o' h
     ·simp only[Ja]at h;subst h;exact⟨ky,mf⟩
  ·intro bH;have cR:b=n:=by have:¬b<n:=ZaY;omega
   have aY:=kn.l 0 rfl;have bq:=kn.l 1 rfl;refine Zb ?_;refine Zq bq aY de ?_;intro H9 h9;have kn:=kn.aB 0 rfl h9;have aY:=kn.l 0 rfl;refine Zr aY de ?_;obtain⟨o,ho⟩:∃o:UCode,o=⟨p,rg,bs,bc,bl⟩:=⟨_,rfl⟩;have ky:o.ok:=by rw[ho];exact⟨aq,λb hb=>(ax b hb).1,hp.1,hp.2⟩
   have mf:o.sm 0:=by rw[ho];exact⟨by show 0<bs.length;omega,by show bs.length<=_;omega,λb hb=>(ax b hb).2⟩
   have kn:Kn H H9 [(R.l,R.o k1)] ([(x4,.st [Ui p,Ui rg,bc]),(x5,.st [Ui p,Ui rg,bc])]++o.lg):=by
    rw[ho];simpa[UCode.lg,Jm]using kn
   refine⟨unx H o.lg,.ag o.row,H9.frz (unx H o.lg),?_,Ep _ _,hK o _ k1 iM ZB kn.finK ky mf⟩;rw[ho];exact FrzL.ag (.cons (Qg rfl) (.cons (Qg rfl) (.cons (.same _ de) .nil)))
end Go.AE.Y
namespace Go.AE
open Go.AE.Y
open Go.Proofs.Tryz
variable {H:Heap}{K:Uk}
theorem Gr.slc {H0 H:Heap}{E B Lg:Ul}{sz:Nat}{rows:List (List C)}{c:C}(h:Gr Lg sz rows c)(kn:Kn H0 H E (B++Lg)):Slc H sz rows c:=by
 obtain⟨h1,h2⟩:=h.get kn;exact⟨h1,h.aP,h2,h.ay⟩
theorem Gr.ne {H0 H:Heap}{E B Lg:Ul}{sz:Nat}{rows:List (List C)}{c:C}{r:Nat}{o:Obj}(h:Gr Lg sz rows c)(kn:Kn H0 H E (B++Lg))(hr:(r,o)∈E):∀l a d n,c=.ah l a d n->l≠r:=by
 intro l a d n hc hh;rcases h with ⟨h1,_⟩|⟨y,h1,h2⟩
 ·rw[h1]at hc;simp at hc
 ·rw[h1]at hc;have hy:y=l:=by injection hc
  have:=kn.loc (y,.vec sz rows) Zab;exact kn.ext (r,o) hr (by rw[<-hh,<-hy];exact this)
theorem Gr.slcM {H0 H:Heap}{E L Lg:Ul}{sz:Nat}{rows:List (List C)}{c:C}(h:Gr Lg sz rows c)(kn:Kn H0 H E L)(hm:∀p∈Lg,p∈L):Slc H sz rows c:=by
 rcases h with ⟨h1,h2,h3⟩|⟨y,h1,h2⟩
 ·rw[h1,h2];exact .mk' _ _ _ _
 ·have hy:H y=.vec sz rows:=(kn.get (y,.vec sz rows) (Jh _ (hm _ Zab))).1;rw[h1];exact⟨by simp[Go.AE.aZ,hy],rfl,by simp[Go.AE.rowsOf,hy],rfl⟩
end Go.AE
namespace Go.AE.Y
open Go.Proofs.Tryz
variable {H:Heap}{K:Uk}
theorem Qb4k {H0 H:Heap}{B cl:Ul}{R:Rdr}{o:Obj}{us:List UCode}{cc:C}(hg:Gr cl 3 (us.map UCode.row) cc)(kn:Kn H0 H [(R.l,o)] (B++cl))(hu:∀u∈us,u.ok):CRd H R cc (us.map UCode.row):=by
 refine⟨hg.slc kn,hg.ai,hg.ne kn (o:=o) ZD,λi hi=>?_⟩;rw[Jf]at hi;refine⟨us[i].params,Ui us[i].ae,us[i].bc,by simp[Jc,hi,UCode.row],(hu _ (Jb hi)).p0,(hu _ (Jb hi)).p1⟩
theorem Lm {R:Rdr}{k:Nat}(hH:H R.l=R.o k)(hk:k+10000<=2^40)
  (hK:∀(cs:List CodeD) (H':Heap) (k':Nat),k<k'->k'<=k+10000->Upd H H' [(R.l,R.o k')]->0<cs.length->cs.length<=3->(∀c∈cs,c.sm)->K (.ag [.sl false 3 (Qm cs)]) H') :
  Qr prog RB [.c (.ptr R.l 0)] H K:=by
 refine Qy ?_;refine Qd BF Yh ?_;refine Za ?_;intro x2 aI H1 h1;have kn:=(Kn.start1 hH (R.ao k)).al aI h1;refine Za ?_;intro x3 aL H2 h2;have kn:=kn.al aL h2;have j7:=kn.l 1 rfl;simp only[go_sem,EL,j7];intro H3 h3;have kn:=kn.aB 1 rfl h3;refine Wa ?_;refine CO (ns:=[1,2,1,3]) (kn.e 0 rfl) ZB ZD λi0 H4 lj hu=>?_;have kn:=kn.au 0 rfl hu (R.ao _);simp only[go_sem,Of];obtain⟨i,rfl,rh,hi3⟩:∃i:Nat,i0=i/\1<=i/\i<=3:=⟨i0.toNat,by simp at lj;omega⟩;refine Qh (Qe (Qw (λm e1 H1=>∃(t k1:Nat) (us:List UCode) (cc:C) (cl:Ul),m=t/\t+us.length=i/\k<k1/\k1<=k+1+1000 * us.length/\(∀u∈us,u.ok/\u.sm 0)/\Gr cl 3 (us.map UCode.row) cc/\
  Kn H H1 [(R.l,R.o k1)] (([(x2,.st [.sl true 3 []]),(x3,.st [cc])]++us.flatMap UCode.lg)++cl)/\
  e1=[(0,.c (.ptr R.l 0)),(2,Up x2),(3,Up x3),(4,Uv t)]) i ?_ ?_))
 ·exact⟨i,k+1,[],_,[],rfl,rfl,ZB,ZD,ZD,.nil 3,ZM,rfl⟩
 ·rintro m e1 H5 ⟨t,k1,us,cc,cl,hm,ht,iM,fy,ax,aq,kn,rfl⟩;have bG:=aq.ai;have aL:=kn.l 1 rfl;refine Wa ?_;refine Wu ?_ ?_
  ·intro hc;have vu:0<t:=ZE
   refine Wl ?_;simp only[go_sem,aL,bG];refine Qbw0 (kn.e 0 rfl) ZB (Qb4k aq kn λu hu=>(ax u hu).1) λo H6 k2 jJ ja kn2 iX jv=>?_;have kn:=kn.compE 0 rfl kn2;have aL:=kn.l 1 rfl;simp only[go_sem,Od,aL,bG,o.len3];have kn:=kn.perm Ee;refine kn.grow (new:=[o.row]) aq (.mk' _ _ _ _) (by intro r hr;simp only[Ja]at hr;subst hr;exact o.ak iX) ZP λz H7 kn=>?_;have kn:Kn H H7 [(R.l,R.o k2)] (([(x2,.st [.sl true 3 []]),(x3,.st [cc])]++(us++[o]).flatMap UCode.lg)++[(z,.vec 3 ((us++[o]).map UCode.row))]):=by
    simpa[Js,Jm]using kn
   have aL:=kn.l 1 rfl;simp only[go_sem,Oe,aL];intro H8 h8;have kn:=kn.aB 1 rfl h8;refine Zg ?_;refine⟨Qs,t-1,ZB,t-1,k2,us++[o],_,_,rfl,by simp;omega,ZB,by simp;omega,λo' fN=>?_,.mk _ _ _ ZD,kn,?_⟩
   ·rcases Jl.1 fN with h|h
    ·exact ax o' h
    ·simp only[Ja]at h;subst h;exact⟨iX,jv⟩
   ·have:(t:Int)-1=((t-1:Nat):Int):=ZB;rw[this]
  ·intro hc;have vu:t=0:=by have:¬0<t:=ZE;omega
   refine Zb ?_;refine Wa ?_;refine CO (ns:=[0,0,1,3]) (kn.e 0 rfl) ZB ZD λj0 H6 lh hu=>?_;have kn:=kn.au 0 rfl hu (R.ao _);simp only[go_sem,Oc];obtain⟨j,rfl,pu⟩:∃j:Nat,j0=j/\j<=3:=⟨j0.toNat,by simp at lh;omega⟩;have cG:0<us.length:=ZB
   have hcl3:us.length<=3:=ZB
   refine Qh (Qe (Qw (λm e1 H1=>∃(t k2 N:Nat) (us:List UCode),m=t/\t+N=j/\us.length=i/\k<k2/\k2<=k1+1+200 * N/\(∀u∈us,u.ok/\u.sm N)/\Gr cl 3 (us.map UCode.row) cc/\
    Kn H H1 [(R.l,R.o k2)] (([(x2,.st [.sl true 3 []]),(x3,.st [cc])]++us.flatMap UCode.lg)++cl)/\
    e1=[(0,.c (.ptr R.l 0)),(2,Up x2),(3,Up x3),(5,Uv t)]) j ?_ ?_))
   ·exact⟨j,k1+1,0,us,rfl,rfl,ZB,ZB,ZB,ax,aq,kn,rfl⟩
   ·rintro m e1 H7 ⟨t,k2,N,us,hm,ht,vp,jJ,ja,ax,aq,kn,rfl⟩;have aL:=kn.l 1 rfl;refine Wa ?_;refine Wu ?_ ?_
    ·intro hc;have vu:0<t:=ZE;refine Zd ?_;have ce:∀p∈cl,p∈(([(x2,.st [.sl true 3 []]),(x3,.st [cc])]++us.flatMap UCode.lg)++cl):=λp hp=>ZaH;refine Ck (λe2 H2=>∃(k3:Nat) (us:List UCode),us.length=i/\k<k3/\k3<=k2+200/\(∀u∈us,u.ok/\u.sm (N+1))/\Gr cl 3 (us.map UCode.row) cc/\
      Kn H H2 [(R.l,R.o k3)] (([(x2,.st [.sl true 3 []]),(x3,.st [cc])]++us.flatMap UCode.lg)++cl)/\lk 0 e2=.c (.ptr R.l 0)/\lk 2 e2=Up x2/\lk 3 e2=Up x3/\lk 5 e2=Uv t) ?_ ?_
     ·intro Q hn _ _;have hs:=aq.slc kn;have aK:=eq_true hs.ok;have am:=hs.len;have bp:=hs.sz;rw[Jf]at am;refine Qe (BM ?_);simp only[go_sem,aL,bG,aK,am];refine Cg (kn.e 0 rfl) ZB λv H8 hv hu=>?_;have kn:=kn.au 0 rfl hu (R.ao _);rw[if_neg ZB]at hv;obtain⟨ci,rfl⟩:=Jo hv.1;have dw:ci<us.length:=ZB;have aL:=kn.l 1 rfl;have hs:=aq.slc kn;have aK:=eq_true hs.ok;simp only[go_sem,NK,aL,bG,aK,am,bp,dw];obtain⟨u,hu⟩:∃u,us[ci]=u:=⟨_,rfl⟩;obtain⟨eH,dU⟩:=ax _ (Jb dw);rw[hu]at eH dU;have aC:(us.map UCode.row).getD ci []=[Ui u.params,Ui u.ae,u.bc]:=(by rw[<-hu];simp[Jc,dw,UCode.row]);have qj:=dU.b0;have wQ:=dU.b;obtain⟨yb,dB,bu⟩:=UCode.bvec eH qj;have jk:=eH.b.ai;have ka:=eH.b.ay;rw[Jf]at ka;have dG:=hs.rows;have oY:∀p∈u.bl,p∈(([(x2,.st [.sl true 3 []]),(x3,.st [cc])]++us.flatMap UCode.lg)++cl):=λp hp=>by
       have:p∈us.flatMap UCode.lg:=Jac.2 ⟨u,by rw[<-hu];exact Jb dw,Jh _ hp⟩;simp[this]
      have b8:=eq_true (eH.b.slcM kn oY).ok;refine Qa ?_;simp only[go_sem,aK,am,bp,dw,dG,aC,jk,ka,b8];intro _;refine Cg (kn.e 0 rfl) ZB λv H9 hv wR=>?_;have kn:=kn.au 0 rfl wR (R.ao _);rw[if_neg ZB]at hv;obtain⟨bi,rfl⟩:=Jo hv.1;have cK:bi<u.blocks.length:=ZB;have aK:=eq_true (aq.slcM kn ce).ok;have dG:=(aq.slcM kn ce).rows;simp only[go_sem,NJ];refine Qa ?_;simp only[go_sem,aK,am,bp,dw,dG,aC];refine Cg (kn.e 0 rfl) ZB λto H10 _ j9=>?_;have kn:=kn.au 0 rfl j9 (R.ao _);simp only[go_sem,Pv];intro x8 aV H11 ev;have kn:=kn.al aV ev;have kn:=kn.perm Ji;have aV:=kn.l 0 rfl;simp only[go_sem,PN,aV];intro H12 iP;have kn:Kn H H12 [(R.l,R.o (k2+1+1+1))] ([(x8,.st [Ui to,.sl true 1 []])]++(([(x2,.st [.sl true 3 []]),(x3,.st [cc])]++us.flatMap UCode.lg)++cl)):=kn.aB 0 rfl iP;have pf:∀p∈cl,p∈([(x8,Obj.st [Ui to,.sl true 1 []])]++(([(x2,.st [.sl true 3 []]),(x3,.st [cc])]++us.flatMap UCode.lg)++cl)):=λp hp=>Jh _ (ce p hp);have aK:=eq_true (aq.slcM kn pf).ok;have dG:=(aq.slcM kn pf).rows;have kL:=eH.b.slcM kn (λp hp=>Jh _ (oY p hp));refine Q1 (Qa ?_);simp only[go_sem,aK,am,bp,dw,dG,aC,jk];refine Gu (rows:=u.blocks.map UBlk.row) (nx:=λi=>(u.blocks.map UBlk.next).getD i []) kL jk (λi hi=>?_) λH13 wT=>?_
      ·rw[Jf]at hi;refine⟨u.blocks[i].pc,u.blocks[i].ic,Ui u.blocks[i].jump,Ui u.blocks[i].on,u.blocks[i].nfl,?_⟩;simp[Jc,hi,UBlk.row]
      have kn:=kn.aw wT;obtain⟨ps,ft⟩:∃ps,Qz (λi=>(u.blocks.map UBlk.next).getD i []) (bi:Int) (u.blocks.map UBlk.row).length=ps:=⟨_,rfl⟩;have tE:ps.length<=160:=by
       have:=Es (λi=>(u.blocks.map UBlk.next).getD i []) (bi:Int) (u.blocks.map UBlk.row).length;rw[ft,Jf]at this;omega
      rw[ft];simp only[go_sem,Pu,Qc];intro _;refine Qh (Qe (Qw (λm e1 H1=>∃(q:Nat) (ns:List Int) (ac:C) (al:Ul),m=ps.length-q/\q<=ps.length/\ns.length=q/\Gr al 1 (Qb ns) ac/\
       Kn H H1 [(R.l,R.o (k2+1+1+1+q))] (([(x8,.st [Ui to,ac])]++(([(x2,.st [.sl true 3 []]),(x3,.st [cc])]++us.flatMap UCode.lg)++cl))++al)/\
       e1=[(0,.c (.ptr R.l 0)),(2,Up x2),(3,Up x3),(5,Uv t),(6,.c (cc.ep 3 ci 0)),(7,Uv bi),(8,Up x8),(59,.c (Ui ps.length)),(60,Uv q)]) ps.length ?_ ?_))
      ·exact⟨0,[],_,[],ZB,ZB,rfl,.nil 1,ZM,rfl⟩
      ·rintro m2 e1 H14 ⟨q,ns,ac,al,fw,hq,dA,uz,kn,rfl⟩;have f0:=uz.ai;have aV:=kn.l 0 rfl;have pd:∀p∈cl,p∈(([(x8,Obj.st [Ui to,ac])]++(([(x2,.st [.sl true 3 []]),(x3,.st [cc])]++us.flatMap UCode.lg)++cl))++al):=λp hp=>List.mem_append_left _ (Jh _ (ce p hp));have aK:=eq_true (aq.slcM kn pd).ok;have dG:=(aq.slcM kn pd).rows;refine Za ?_;refine Wu ?_ ?_
       ·intro hc;have af:q<ps.length:=ZE;refine Wl ?_;simp only[go_sem,aV,f0,aK,am,bp,dw,dG,aC];refine Cg (kn.e 0 rfl) ZB λv H15 _ wS=>?_;have kn:=kn.au 0 rfl wS (R.ao _);have aV:=kn.l 0 rfl;simp only[go_sem,Ps,aV,f0];refine kn.grow (new:=Qb [v]) uz (.mk' _ _ _ _) (Qq _) ZaA λy H16 kn=>?_;have aV:=kn.l 0 rfl;simp only[go_sem,Pt,aV];intro H17 Ao;have kn:=kn.aB 0 rfl Ao;refine Zg ?_;refine⟨Qs,ps.length-(q+1),ZB,q+1,ns++[v],_,_,rfl,ZB,by simp[dA],?_,kn,rfl⟩;rw[<-D8];exact .mk _ _ _ (by simp[D8,Qc])
       ·intro hc;have hqp:q=ps.length:=(by have:¬q<ps.length:=(by simpa using hc);omega);refine Wb ?_;refine Wv ?_ ?_
        ·intro hc;obtain⟨blk,cr⟩:∃blk,u.blocks[bi]=blk:=⟨_,rfl⟩;have ji:=eH.bs _ (Jb cK);have hY:=dU.bs _ (Jb cK);rw[cr]at ji hY;have z8:=hY.p;have gr:(u.blocks.map UBlk.row).getD bi []=[blk.pc,blk.ic,Ui blk.jump,Ui blk.on,.sl blk.nfl 1 (Qb blk.next)]:=(by rw[<-cr];simp[Jc,cK,UBlk.row]);have fd:=ji.p.ai;have dk:(u.blocks.map UBlk.row).length=u.blocks.length:=ZD;have kn:Kn H H14 [(R.l,R.o (k2+1+1+1+q))] (([(yb,.vec 5 (u.blocks.map UBlk.row))]++([(x8,.st [Ui to,ac])]++([(x2,.st [.sl true 3 []]),(x3,.st [cc])]++(blk.core++(al++(Dt us ci bi dw++cl))))))++blk.pl):=kn.perm (Qj λf hf h0 bH hp=>by
          have h1:=hp _ _ (Xg us ci bi dw (by rw[hu];exact cK));subst hu;rw[cr,bu]at h1;simp only[Ui,hf]at h1⊢;omega)
         have cF:=kn.l 0 rfl;have aV:=kn.l 1 rfl;have pb:∀p∈cl,p∈(([(yb,Obj.vec 5 (u.blocks.map UBlk.row))]++([(x8,Obj.st [Ui to,ac])]++([(x2,Obj.st [.sl true 3 []]),(x3,Obj.st [cc])]++(blk.core++(al++(Dt us ci bi dw++cl))))))++blk.pl):=λp hp=>ZaH;have aK:=eq_true (aq.slcM kn pb).ok;have dG:=(aq.slcM kn pb).rows;obtain⟨ph,dV⟩:∃ph:UPhi,ph=⟨to,ns,ac,al⟩:=⟨_,rfl⟩;have qF:[C.int IntKind.i64 to,ac]=ph.row:=(by rw[dV];rfl);have ku:ph.al=al:=(by rw[dV]);have tL:Gr ph.al 1 (Qb ph.ns) ph.ac:=(by rw[dV];exact uz);rw[dB]at aC jk ka;have jy:=ji.p;have bF:List.take u.blocks.length (u.blocks.map UBlk.row)=u.blocks.map UBlk.row:=Jd ZD;refine BY ?_;simp only[go_sem,aV,f0,aK,am,bp,dw,dG,aC,cF,cK,dk,bF,gr,fd,Jp,Jg];rw[qF];refine kn.grow (new:=[ph.row]) jy (.mk' _ _ _ _) (by intro r hr;simp only[Ja]at hr;subst hr;exact ph.ak tL) ZP λz H15 kn=>?_;have kn:Kn H H15 [(R.l,R.o (k2+1+1+1+q))] ([(yb,.vec 5 (u.blocks.map UBlk.row))]++(([(x8,.st [Ui to,ac])]++([(x2,.st [.sl true 3 []]),(x3,.st [cc])]++(blk.core++(al++(Dt us ci bi dw++cl)))))++[(z,.vec 2 ((blk.ab++[ph]).map UPhi.row))])):=by
          simpa[Jm]using kn
         have cF:=kn.l 0 rfl;have oZ:∀p∈cl,p∈([(yb,Obj.vec 5 (u.blocks.map UBlk.row))]++(([(x8,Obj.st [Ui to,ac])]++([(x2,Obj.st [.sl true 3 []]),(x3,Obj.st [cc])]++(blk.core++(al++(Dt us ci bi dw++cl)))))++[(z,.vec 2 ((blk.ab++[ph]).map UPhi.row))])):=λp hp=>ZaH;have aK:=eq_true (aq.slcM kn oZ).ok;have dG:=(aq.slcM kn oZ).rows;simp only[go_sem,Pr,aK,am,bp,dw,dG,aC,cF,cK,dk,gr,Jp,Jg];intro H16 j3;obtain⟨b',aW⟩:∃b':UBlk,b'={ blk with ab:=blk.ab++[ph],pc:=.ah z 2 0 ((blk.ab.map UPhi.row).length+1),pl:=[(z,.vec 2 ((blk.ab++[ph]).map UPhi.row))] }:=⟨_,rfl⟩;have rD:[C.ah z 2 0 ((blk.ab.map UPhi.row).length+1),blk.ic,C.int IntKind.i64 blk.jump,C.int IntKind.i64 blk.on,C.sl blk.nfl 1 (Qb blk.next)]=b'.row:=(by rw[aW];rfl);have uK:(u.blocks.map UBlk.row).set bi b'.row=(u.blocks.set bi b').map UBlk.row:=(by rw[Jt]);rw[rD,uK]at j3;have kn:=kn.aB 0 rfl j3;have mQ:b'.ok:=by
          rw[aW];refine⟨.mk _ _ _ ZD,ji.i,λp hp=>?_⟩;rcases Jl.1 hp with h|h
          ·exact ji.a p h
          ·simp only[Ja]at h;subst h;exact tL
         have mP:b'.sm (N+1):=by
          rw[aW];refine⟨hY.n,hY.i,by simp;omega,hY.ia,λp hp=>?_⟩;rcases Jl.1 hp with h|h
          ·exact hY.pa p h
          ·simp only[Ja]at h;subst h;rw[dV];show ns.length<=1000;omega
         obtain⟨u',iS⟩:∃u',u'=u.put bi b' [(yb,.vec 5 ((u.blocks.set bi b').map UBlk.row))]:=⟨_,rfl⟩;have lQ:u'.ok:=(by rw[iS];exact UCode.put_ok eH mQ bu);have lP:u'.sm (N+1):=(by rw[iS];exact UCode.put_sm dU mP);have uf:Kn H H16 [(R.l,R.o (k2+1+1+1+q))] ((([(x2,.st [.sl true 3 []]),(x3,.st [cc])]++(us.set ci u').flatMap UCode.lg)++cl)++[(x8,.st [Ui to,ac])]):=kn.perm (Qj λf hf h0 bH hp=>by
          have h1:=hp _ _ (Qb33 us ci bi dw (by rw[hu];exact cK) b' [(yb,.vec 5 ((u.blocks.set bi b').map UBlk.row))]);rw[hu,<-iS]at h1;have h2:b'.core=blk.core++al:=(by rw[aW,UBlk.core_snoc,ku]);have h3:b'.pl=[(z,.vec 2 ((blk.ab++[ph]).map UPhi.row))]:=(by rw[aW]);rw[h2,h3]at h1;simp only[Ui,Jr,Jq,Ju,hf,bH _ (_::_),bH _ (_++_)]at h1⊢;omega)
         refine hn _ _ ⟨k2+1+1+1+q,us.set ci u',by simpa using vp,ZB,ZB,λv hv=>?_,?_,uf.drop,rfl,rfl,rfl,rfl⟩
         ·rcases J1 hv with hv|rfl
          ·exact⟨(ax v hv).1,(ax v hv).2.mono ZB⟩
          ·exact⟨lQ,lP⟩
         ·rw[Qb34 us ci dw u' (by rw[iS,UCode.put_row,hu])];exact aq
        ·intro hc;refine Zd ?_;refine hn _ _ ⟨k2+1+1+1+q,us,vp,ZB,ZB,λu hu=>⟨(ax u hu).1,(ax u hu).2.mono ZB⟩,aq,?_,rfl,rfl,rfl,rfl⟩;have kn:=kn.drop;exact (kn.perm Ji).drop
     rintro e2 H8 ⟨k3,us,vp,yD,AR,ax,aq,kn,l0,l2,l3,l5⟩;refine Qp ?_;simp only[go_sem,X.next,l0,l2,l3,l5];refine⟨Qs,t-1,ZB,t-1,k3,N+1,us,rfl,ZB,vp,yD,ZB,ax,aq,kn,?_⟩;have:(t:Int)-1=((t-1:Nat):Int):=ZB;rw[this]
    ·intro hc;refine Zb ?_;have aI:=kn.l 0 rfl;refine Zq aI aL bG ?_;intro H8 h8;have kn:=kn.aB 0 rfl h8;have aI:=kn.l 0 rfl;refine Zr aI bG ?_;have jd:Held H8 (un H) (us.flatMap UCode.lg++cl):=λp hp=>by
      have fe:p∈(([(x2,Obj.st [cc]),(x3,Obj.st [cc])]++us.flatMap UCode.lg)++cl):=by
       rcases Jl.1 hp with h|h
       ·simp[h]
       ·simp[h]
      exact⟨(kn.get p (Jh _ fe)).1,DG (kn.loc p fe)⟩
     obtain⟨cs,hf,hcn,lw⟩:=UCodes.frz (N:=N) ZB aq ax jd;exact⟨_,FrzL.ag (.cons hf .nil),hK cs _ k2 jJ ZB kn.fin ZB ZB lw⟩
end Go.AE.Y
namespace Go.AE
open Go.AE.Y
open Go.Proofs.Tryz
variable {H:Heap}{K:Uk}
theorem Kn.lm {H0 H:Heap}{E L:Ul}{x:Nat}{o:Obj}(kn:Kn H0 H E L)(h:(x,o)∈L):H x=o:=(kn.get (x,o) (Jh _ h)).1
end Go.AE
namespace Go.AE.Y
open Go.Proofs.Tryz
variable {H:Heap}{K:Uk}
theorem Y8 {R:Rdr}{k:Nat}(hH:H R.l=R.o k)(hk:k+20000<=2^40)
  (hK:∀(cs:List CodeD) (H':Heap) (k':Nat),k<k'->k'<=k+20000->Upd H H' [(R.l,R.o k')]->0<cs.length->cs.length<=3->(∀c∈cs,c.gd)->K (.ag [.sl false 3 (Qm cs)]) H') :
  Qr prog RN [.c (.ptr R.l 0)] H K:=by
 refine Qy ?_;refine Qd BF Ym ?_;refine Za ?_;intro x2 aI H1 h1;have kn:=(Kn.start1 hH (R.ao k)).al aI h1;refine Za ?_;refine Lm (kn.e 0 rfl) ZB λcs H2 k1 iM fy hu mH uE js=>?_;have kn:=kn.au 0 rfl hu (R.ao _);simp only[go_sem,O4];refine Qa1q js ZB λus cc cl H3 k2 aq ax oN=>?_;have kn:=kn.comp0 k2;have bG:=aq.ai;simp only[go_sem,FP];intro x3 aL H4 h4;have kn:=kn.al aL h4;have kn:=kn.perm Ji;have aL:=kn.l 0 rfl;simp only[go_sem,EL,aL];intro H5 h5;have kn:=kn.aB 0 rfl h5;have kn:Kn H H5 [(R.l,R.o k1)] (([(x2,.st [.sl true 3 []]),(x3,.st [cc])]++us.flatMap OCode.lg)++cl):=kn.perm (Qj λf hf h0 bH hp=>by
  simp only[Ui,Jr,Jq,Ju,hf,bH _ (_::_),bH _ (_++_)];omega)
 have aL:=kn.l 1 rfl;have hs:=aq.slc kn;have aK:=eq_true hs.ok;have am:=hs.len;have bp:=hs.sz;rw[Jf]at am;refine BM ?_;simp only[go_sem,aL,bG,aK,am];refine Cg (kn.e 0 rfl) ZB λv H6 hv hu=>?_;have kn:=kn.au 0 rfl hu (R.ao _);rw[if_neg ZB]at hv;obtain⟨ci,rfl⟩:=Jo hv.1;have dw:ci<us.length:=ZB
 have aL:=kn.l 1 rfl;have hs:=aq.slc kn;have aK:=eq_true hs.ok;have dG:=hs.rows;simp only[go_sem,O3,aL,bG,aK,am,bp,dw];obtain⟨u,hu⟩:∃u,us[ci]=u:=⟨_,rfl⟩;obtain⟨eH,dU⟩:=ax _ (Jb dw);rw[hu]at eH dU;have aC:(us.map OCode.row).getD ci []=[Ui u.params,Ui u.ae,u.bc]:=by rw[<-hu];simp[Jc,dw,OCode.row]
 have qj:=dU.b0;have wQ:=dU.b;obtain⟨yb,dB,bu⟩:=OCode.bvec eH qj;have jk:(C.ah yb 5 0 u.blocks.length).ai=false:=rfl;have ka:ay (C.ah yb 5 0 u.blocks.length)=u.blocks.length:=rfl;rw[dB]at aC;have sQ:(yb,Obj.vec 5 (u.blocks.map OBlk.row))∈(([(x2,Obj.st [.sl true 3 []]),(x3,.st [cc])]++us.flatMap OCode.lg)++cl):=by
  have:(yb,Obj.vec 5 (u.blocks.map OBlk.row))∈us.flatMap OCode.lg:=Jac.2 ⟨u,by rw[<-hu];exact Jb dw,Jh _ (by rw[bu];simp)⟩;simp[this]
 have cF:=kn.lm sQ;have dk:(u.blocks.map OBlk.row).length=u.blocks.length:=ZD
 have bF:List.take u.blocks.length (u.blocks.map OBlk.row)=u.blocks.map OBlk.row:=Jd ZD;refine BM ?_;simp only[go_sem,aK,am,bp,dw,dG,aC,cF,dk,Jg,Je];refine Cg (kn.e 0 rfl) ZB λv H7 hv hu7=>?_;have kn:=kn.au 0 rfl hu7 (R.ao _);rw[if_neg ZB]at hv;obtain⟨bi,rfl⟩:=Jo hv.1;have cK:bi<u.blocks.length:=ZB
 have hs:=aq.slc kn;have aK:=eq_true hs.ok;have dG:=hs.rows;have cF:=kn.lm sQ;simp only[go_sem,O1,aK,am,bp,dw,dG,aC,cF,dk,cK,Jg,Je];refine BM ?_;simp only[go_sem,aK,am,bp,dw,dG,aC,cF,dk,Jg,Je];refine CO (ns:=[-1,u.ae,u.blocks.length,0,1]) (kn.e 0 rfl) ZB ZD λbad H8 _ hu8=>?_;have kn:=kn.au 0 rfl hu8 (R.ao _);simp only[go_sem,O0];refine Wa ?_;refine Cg (kn.e 0 rfl) ZB λkind H9 _ wR=>?_;have kn:=kn.au 0 rfl wR (R.ao _);refine Ck (λe2 H2=>∃(k3:Nat) (us:List OCode) (cl:Ul),us.length=cs.length/\k<k3/\k3<=k+20000/\(∀u∈us,u.ok/\u.sm 1001)/\Gr cl 3 (us.map OCode.row) cc/\
   Kn H H2 [(R.l,R.o k3)] (([(x2,.st [.sl true 3 []]),(x3,.st [cc])]++us.flatMap OCode.lg)++cl)/\lk 2 e2=Up x2/\lk 3 e2=Up x3) ?_ ?_
 ·intro Q hn _ _;have hull:us.length=cs.length:=oN;have knO:=kn;obtain⟨blk,cr⟩:∃blk,u.blocks[bi]=blk:=⟨_,rfl⟩;have b8:=eH.bs _ (Jb cK);have cq:=dU.bs _ (Jb cK);rw[cr]at b8 cq;have gr:(u.blocks.map OBlk.row).getD bi []=[blk.pc,blk.ic,Ui blk.jump,Ui blk.on,.ah blk.nx.y 1 0 blk.nx.ns.length]:=by rw[<-cr];simp[Jc,cK,OBlk.row,OInts.c]
  have fd:=b8.p.ai;have dj:=b8.i.ai;have kn:=Qbk8 kn dw hu cK cr bu;have bW:∀b':OBlk,(u.blocks.map OBlk.row).set bi b'.row=(u.blocks.set bi b').map OBlk.row:=λb'=>(Jt).symm;have cV:∀(b':OBlk) (H2:Heap) (k3:Nat) (e2:Env),b'.ok->b'.sm 1001->k<k3->k3<=k+20000->Kn H H2 [(R.l,R.o k3)] ([(yb,.vec 5 ((u.blocks.set bi b').map OBlk.row))]++(b'.lg++(CM us ci bi dw++([(x2,Obj.st [.sl true 3 []]),(x3,.st [cc])]++cl))))->
    lk 2 e2=Up x2->lk 3 e2=Up x3->Q .nrm e2 H2:=by
   intro b' H2 k3 e2 h1 h2 h3 h4 kn l2 l3;obtain⟨us',g1,g2,g3,g4⟩:=Qbpo (N:=1000) dw hu cK bu ax h1 h2 aq kn;exact hn _ _ ⟨k3,us',cl,ZB,h3,h4,g3,g2,g4,l2,l3⟩
  have fT:∀e2:Env,lk 2 e2=Up x2->lk 3 e2=Up x3->Q .nrm e2 H9:=λe2 l2 l3=>
   hn _ _ ⟨_,us,cl,oN,ZB,ZB,λu hu=>⟨(ax u hu).1,(ax u hu).2.mono ZB⟩,aq,knO,l2,l3⟩
  refine Wq ?_;have aK:=eq_true (aq.slcM kn (λp hp=>ZaH)).ok;have dG:=(aq.slcM kn (λp hp=>ZaH)).rows;have cF:=kn.l 0 rfl;refine Wv ?_ ?_
  ·intro hc;refine Zh ?_;refine Cg (kn.e 0 rfl) ZB λv H10 _ j9=>?_;have kn:=kn.au 0 rfl j9 (R.ao _);have cF:=kn.l 0 rfl;simp only[go_sem,Oz,cF,dk,cK,gr,Jp,Jg,Je];intro H11 ev;have aW:[blk.pc,blk.ic,C.int IntKind.i64 v,C.int IntKind.i64 blk.on,C.ah blk.nx.y 1 0 blk.nx.ns.length]=({ blk with jump:=v }:OBlk).row:=rfl;rw[aW,bW]at ev;exact cV { blk with jump:=v } _ _ _ ⟨b8.p,b8.i,b8.a⟩ ⟨cq.n,cq.i,by have:=cq.p;show blk.ab.length<=_;omega,λx hx=>by have:=cq.ia x hx;omega,λx hx=>by have:=cq.pa x hx;omega⟩ ZB ZB (kn.aB 0 rfl ev) ZC ZC
  intro dd;refine Za ?_;refine Wv ?_ ?_
  ·intro hc;have sj:H9 blk.nx.y=.vec 1 (Qb blk.nx.ns):=kn.l 1 rfl;have gC:List.take blk.nx.ns.length (Qb blk.nx.ns)=Qb blk.nx.ns:=Jd (by simp[Qc]);refine Qa ?_;simp only[go_sem,cF,dk,bF,cK,gr,Gn,Jp,Jg,Je,sj,Qc];intro _;refine Wv ?_ ?_
   ·intro aD;have cC:0<blk.nx.ns.length:=ZH;have eO:=Qk blk.nx.ns 0 cC;refine Qp ?_;simp only[go_sem,cF,dk,bF,cK,gr,Gn,Jp,Jg,Je,sj,cC,eO,Qc];refine⟨ZB,λH11 ev=>?_⟩;have dD:(Qb blk.nx.ns).set 0 [C.int IntKind.i64 bad]=Qb (blk.nx.ns.set 0 bad):=(by simp[Qb,Jt]);rw[dD]at ev;have kn:Kn H H11 [(R.l,R.o (k1+1+1+1+1))] ([(yb,.vec 5 (u.blocks.map OBlk.row))]++(OBlk.lg { blk with nx:=⟨blk.nx.ns.set 0 bad,blk.nx.y⟩ }++(CM us ci bi dw++([(x2,Obj.st [.sl true 3 []]),(x3,.st [cc])]++cl)))):=kn.aB 1 rfl ev;refine cV { blk with nx:=⟨blk.nx.ns.set 0 bad,blk.nx.y⟩ } _ (k1+1+1+1+1) _ ⟨b8.p,b8.i,b8.a⟩ ⟨by simpa using cq.n,cq.i,by have:=cq.p;show blk.ab.length<=_;omega,λx hx=>by have:=cq.ia x hx;omega,λx hx=>by have:=cq.pa x hx;omega⟩ ZB ZB ?_ ZC ZC;rw[FY cK (by rw[cr];simp[OBlk.row,OInts.c])];exact kn
   ·intro aD;refine Qi ?_;exact fT _ ZC ZC
  intro bH;refine Za ?_;refine Wv ?_ ?_
  ·intro hc;refine Qp ?_;simp only[go_sem,cF,dk,cK,gr,Jp,Jg,Je];intro H11 ev;have aW:[blk.pc,blk.ic,C.int IntKind.i64 blk.jump,C.int IntKind.i64 bad,C.ah blk.nx.y 1 0 blk.nx.ns.length]=({ blk with on:=bad }:OBlk).row:=rfl;rw[aW,bW]at ev;exact cV { blk with on:=bad } _ _ _ ⟨b8.p,b8.i,b8.a⟩ ⟨cq.n,cq.i,by have:=cq.p;show blk.ab.length<=_;omega,λx hx=>by have:=cq.ia x hx;omega,λx hx=>by have:=cq.pa x hx;omega⟩ ZB ZB (kn.aB 0 rfl ev) ZC ZC
  intro aD;refine Za ?_;have hD:ay blk.ic=blk.ins.length:=by rw[b8.i.ay];simp
  have kD:aZ H9 blk.ic=True:=eq_true (b8.i.slcM kn (λp hp=>by simp[OBlk.lg,hp])).ok;refine Wv ?_ ?_
  ·intro hc;refine Qa ?_;simp only[go_sem,cF,dk,bF,cK,gr,dj,Jp,Jg,Je,hD,kD];intro _;refine Wv ?_ ?_
   ·intro aD;have cC:0<blk.ins.length:=ZH;obtain⟨yi,iN,cM⟩:=OBlk.ivec b8 cC;rw[iN]at gr;have knI:=HD kn cM;have jq:=knI.l 0 rfl;obtain⟨x,hx⟩:∃x,blk.ins[0]=x:=⟨_,rfl⟩;have rT:(blk.ins.map OIns.row).getD 0 []=[Ui x.op,Ui x.to,.ah x.a.y 1 0 x.a.ns.length,Ui x.n]:=Zas;have kE:(blk.ins.map OIns.row).length=blk.ins.length:=ZD;have ql:List.take blk.ins.length (blk.ins.map OIns.row)=blk.ins.map OIns.row:=Jd ZD;have ng:x.a.ns.length<=1000:=cq.ia x Za2;refine Qp ?_;simp only[go_sem,cF,dk,bF,cK,gr,Gn,Jp,Jg,Je,jq,cC,rT,kE];refine⟨ZB,λH12 iP=>?_⟩;have bf:[C.int IntKind.i64 x.op,C.int IntKind.i64 bad,C.ah x.a.y 1 0 x.a.ns.length,C.int IntKind.i64 x.n]=({ x with to:=bad }:OIns).row:=rfl;rw[bf,<-Jt]at iP;have knD:=K3 (b:=blk) (is:=blk.ins.set 0 { x with to:=bad }) (knI.aB 0 rfl iP) (Q71 cC (by rw[hx];rfl));refine cV _ _ (k1+1+1+1+1) _ (OBlk.ins_ok (i:=0) (x':={ x with to:=bad }) b8 iN) (OBlk.ins_sm (i:=0) (x':={ x with to:=bad }) cq (by show x.a.ns.length<=_;omega)) ZB ZB ?_ ZC ZC;rw[FY cK (by rw[cr];rfl)];exact knD
   ·intro aD;refine Qi ?_;exact fT _ ZC ZC
  intro bA;refine Za ?_;refine Wv ?_ ?_
  ·intro hc;refine Qa ?_;simp only[go_sem,cF,dk,bF,cK,gr,dj,Jp,Jg,Je,hD,kD];intro _;refine Wv ?_ ?_
   ·intro aD;have cC:0<blk.ins.length:=ZH;obtain⟨yi,iN,cM⟩:=OBlk.ivec b8 cC;rw[iN]at gr;have knI:=HD kn cM;have jq:=knI.l 0 rfl;obtain⟨x,hx⟩:∃x,blk.ins[0]=x:=⟨_,rfl⟩;have rT:(blk.ins.map OIns.row).getD 0 []=[Ui x.op,Ui x.to,.ah x.a.y 1 0 x.a.ns.length,Ui x.n]:=Zas;have kE:(blk.ins.map OIns.row).length=blk.ins.length:=ZD;have ql:List.take blk.ins.length (blk.ins.map OIns.row)=blk.ins.map OIns.row:=Jd ZD;have ng:x.a.ns.length<=1000:=cq.ia x Za2;refine BY ?_;have knA:Kn H H9 [(R.l,R.o (k1+1+1+1+1))] ([(x.a.y,.vec 1 (Qb x.a.ns))]++([(yi,.vec 4 (blk.ins.map OIns.row))]++([(yb,.vec 5 (u.blocks.map OBlk.row))]++(blk.nx.lg++(blk.ab.flatMap OPhi.lg++(blk.pl++((blk.ins.eraseIdx 0).flatMap OIns.lg++(CM us ci bi dw++([(x2,Obj.st [.sl true 3 []]),(x3,.st [cc])]++cl))))))))):=knI.perm (Qj λf hf h0 bH hp=>by
     have h1:=hp _ _ (Fc OIns.lg blk.ins 0 cC);rw[hx]at h1;have h2:x.lg=[(x.a.y,.vec 1 (Qb x.a.ns))]:=rfl;rw[h2]at h1;simp only[Ui,hf]at h1⊢;omega)
    have pP:=knA.l 0 rfl;have wW:List.take x.a.ns.length (Qb x.a.ns)=Qb x.a.ns:=Jd (by simp[Qc]);simp only[go_sem,cF,dk,bF,cK,gr,Gn,Jp,Jg,Je,jq,cC,rT,kE,ql,pP,Qc,wW];refine⟨ZB,by simp only[LIM];omega,λy' eX H10 db=>?_⟩;have knA:=knA.ap 0 rfl eX db;have jq:=knA.l 1 rfl;have cF:=knA.l 2 rfl;simp only[go_sem,Oy,cF,dk,bF,cK,gr,Gn,Jp,Jg,Je,jq,cC,rT,kE];refine⟨ZB,λH12 iP=>?_⟩;obtain⟨x',gB⟩:∃x':OIns,x'={ x with a:=⟨x.a.ns++[bad],y'⟩ }:=⟨_,rfl⟩;have bf:[C.int IntKind.i64 x.op,C.int IntKind.i64 x.to,C.ah y' 1 0 (x.a.ns.length+1),C.int IntKind.i64 x.n]=x'.row:=(by rw[gB];simp[OIns.row,OInts.c]);have dm:x'.lg=[(y',.vec 1 (Qb x.a.ns++[[Ui bad]]))]:=(by rw[gB];simp[OIns.lg,OInts.lg,Qb]);rw[bf,<-Jt]at iP;have knA:=knA.aB 1 rfl iP;refine cV _ _ (k1+1+1+1+1) _ (OBlk.ins_ok (i:=0) (x':=x') b8 iN) (OBlk.ins_sm (i:=0) (x':=x') cq (by rw[gB];simp;omega)) ZB ZB ?_ ZC ZC;rw[FY cK (by rw[cr];rfl)];refine knA.perm (Qj λf hf h0 bH hp=>?_);have h1:=hp _ _ (Fj OIns.lg blk.ins 0 x' cC);rw[dm]at h1;simp only[Ui,OBlk.lg,Jr,Jq,Ju,List.set_cons_succ,hf,bH _ (_::_),bH _ (_++_),bH _ (List.flatMap _ _)]at h1⊢;omega
   ·intro aD;refine Qi ?_;exact fT _ ZC ZC
  intro ef;refine Za ?_;refine Wv ?_ ?_
  ·intro hc;refine Qp ?_;simp only[go_sem,cF,dk,bF,cK,gr,fd,Jp,Jg,Je];have knP:Kn H H9 [(R.l,R.o (k1+1+1+1+1))] (([(yb,.vec 5 (u.blocks.map OBlk.row))]++(blk.nx.lg++(blk.ab.flatMap OPhi.lg++(blk.ins.flatMap OIns.lg++(blk.il++(CM us ci bi dw++([(x2,Obj.st [.sl true 3 []]),(x3,.st [cc])]++cl)))))))++blk.pl):=kn.perm (Qj λf hf h0 bH hp=>by
    simp only[Ui,OBlk.lg,hf];omega)
   obtain⟨ph,dV⟩:∃ph:OPhi,ph=⟨0,[bad],.sl true 1 (Qb [bad]),[]⟩:=⟨_,rfl⟩;have qF:[C.int IntKind.i64 0,C.sl true 1 [[C.int IntKind.i64 bad]]]=ph.row:=by rw[dV];rfl
   have oV:ph.ok:=by rw[dV];exact .inr ⟨true,rfl,rfl⟩
   have ku:ph.lg=[]:=by rw[dV]
   have da:=cq.p;rw[qF];refine knP.grow (new:=[ph.row]) b8.p (.mk' _ _ _ _) (by intro r hr;simp only[Ja]at hr;subst hr;exact ph.ak oV) ZP λz H10 knP=>?_;have cF:=knP.l 0 rfl;simp only[go_sem,PC,cF,dk,cK,gr,Jp,Jg,Je];intro H11 ev;obtain⟨b',aW⟩:∃b':OBlk,b'={ blk with ab:=blk.ab++[ph],pc:=.ah z 2 0 ((blk.ab.map OPhi.row).length+1),pl:=[(z,.vec 2 ((blk.ab++[ph]).map OPhi.row))] }:=⟨_,rfl⟩;have rD:[C.ah z 2 0 ((blk.ab.map OPhi.row).length+1),blk.ic,C.int IntKind.i64 blk.jump,C.int IntKind.i64 blk.on,C.ah blk.nx.y 1 0 blk.nx.ns.length]=b'.row:=by rw[aW];rfl
   rw[rD,bW]at ev;have knP:=knP.aB 0 rfl ev;have mQ:b'.ok:=by
    rw[aW];refine⟨.mk _ _ _ ZD,b8.i,λp hp=>?_⟩;rcases Jl.1 hp with h|h
    ·exact b8.a p h
    ·simp only[Ja]at h;subst h;exact oV
   have mP:b'.sm 1001:=by
    rw[aW];refine⟨cq.n,cq.i,by simp;omega,λx hx=>by have:=cq.ia x hx;omega,λx hx=>?_⟩;rcases Jl.1 hx with h|h
    ·have:=cq.pa x h;omega
    ·simp only[Ja]at h;rw[h,dV];simp
   refine cV b' _ (k1+1+1+1+1) _ mQ mP ZB ZB ?_ ZC ZC;have zB:b'.lg=blk.nx.lg++(blk.ab.flatMap OPhi.lg++([(z,.vec 2 ((blk.ab++[ph]).map OPhi.row))]++(blk.ins.flatMap OIns.lg++blk.il))):=by
    rw[aW];simp[OBlk.lg,Js,ku]
   rw[zB];have ez:blk.ab.map OPhi.row++[ph.row]=(blk.ab++[ph]).map OPhi.row:=ZD
   rw[ez]at knP;refine knP.perm (Qj λf hf h0 bH hp=>?_);simp only[Ui,Jr,Jq,Ju,hf,bH _ (_::_),bH _ (_++_)];omega
  intro jh;refine Za ?_;refine Wv ?_ ?_
  ·intro hc;refine BY ?_;simp only[go_sem,aK,am,bp,dw,dG,aC];refine Cg (kn.e 0 rfl) ZB λv H10 hv j9=>?_;have knO:=knO.au 0 rfl j9 (R.ao _);obtain⟨yc,fH,cG⟩:∃yc,cc=.ah yc 3 0 us.length/\cl=[(yc,.vec 3 (us.map OCode.row))]:=by
    rcases aq with ⟨h1,h2,h3⟩|⟨y,h1,h2⟩
    ·rw[List.map_eq_nil_iff]at h2;rw[h2]at dw;simp at dw
    ·exact⟨y,by rw[h1];simp,h2⟩
   have bS:H10 yc=.vec 3 (us.map OCode.row):=knO.lm (by rw[cG];simp);have wN:(us.map OCode.row).length=us.length:=ZD
   have qm:List.take us.length (us.map OCode.row)=us.map OCode.row:=Jd ZD;have Bk:=eH.b.ai;simp only[go_sem,PB,fH,bS,wN,qm,dw,aC,Jp,Jg,Je];have iW:=dU.p0;have sf:=dU.p1;rw[if_neg ZB]at hv;refine⟨Qs,λH11 ev=>?_⟩;obtain⟨u',iS⟩:∃u':OCode,u'={ u with ae:=u.params+v }:=⟨_,rfl⟩;have hur:[C.int IntKind.i64 u.params,C.int IntKind.i64 (u.params+v),C.ah yb 5 0 u.blocks.length]=u'.row:=by rw[iS,<-dB];rfl
   have wP:u'.lg=u.lg:=by rw[iS];rfl
   have lQ:u'.ok:=by rw[iS];exact⟨eH.b,eH.bs⟩
   have lP:u'.sm 1000:=by rw[iS];exact⟨dU.b0,dU.b,dU.bs,dU.p0,dU.p1⟩
   rw[hur,<-Jt]at ev;have knF:Kn H H10 [(R.l,R.o (k1+1+1+1+1+1))] ([(yc,.vec 3 (us.map OCode.row))]++([(x2,Obj.st [.sl true 3 []]),(x3,.st [cc])]++us.flatMap OCode.lg)):=by
    rw[cG]at knO;exact knO.perm Ji
   have knF:=knF.aB 0 rfl ev;refine hn _ _ ⟨k1+1+1+1+1+1,us.set ci u',[(yc,.vec 3 ((us.set ci u').map OCode.row))],by simpa using oN,ZB,ZB,λw hw=>?_,?_,?_,ZC,ZC⟩
   ·rcases J1 hw with hw|rfl
    ·exact⟨(ax w hw).1,(ax w hw).2.mono ZB⟩
    ·exact⟨lQ,lP.mono ZB⟩
   ·rw[fH];exact .mk _ _ _ ZD
   ·refine knF.perm (Qj λf hf h0 bH hp=>?_);have h1:=hp _ _ (Fj OCode.lg us ci u' dw);have h2:=hp _ _ (Fc OCode.lg us ci dw);rw[wP]at h1;rw[hu]at h2;simp only[Ui,Jr,Jq,Ju,hf,bH _ (_::_),bH _ (_++_),bH _ (List.flatMap _ _)]at h1 h2⊢;omega
  intro Bi;refine Za ?_;refine Wv ?_ ?_
  ·intro hc;refine Qa ?_;simp only[go_sem,cF,dk,bF,cK,gr,dj,Jp,Jg,Je,hD,kD];intro _;refine Wv ?_ ?_
   ·intro aD;have cC:0<blk.ins.length:=ZH;obtain⟨yi,iN,cM⟩:=OBlk.ivec b8 cC;rw[iN]at gr;have knI:=HD kn cM;have jq:=knI.l 0 rfl;obtain⟨x,hx⟩:∃x,blk.ins[0]=x:=⟨_,rfl⟩;have rT:(blk.ins.map OIns.row).getD 0 []=[Ui x.op,Ui x.to,.ah x.a.y 1 0 x.a.ns.length,Ui x.n]:=Zas;have kE:(blk.ins.map OIns.row).length=blk.ins.length:=ZD;have ql:List.take blk.ins.length (blk.ins.map OIns.row)=blk.ins.map OIns.row:=Jd ZD;have ng:x.a.ns.length<=1000:=cq.ia x Za2;refine BY ?_;simp only[go_sem,cF,dk,bF,cK,gr,Gn,Jp,Jg,Je];refine CO (ns:=[256,-1,1]) (knI.e 0 rfl) ZB ZD λv H10 hv j9=>?_;have knI:=knI.au 0 rfl j9 (R.ao _);have jq:=knI.l 0 rfl;have cF:=knI.l 1 rfl;simp only[go_sem,PA,cF,dk,bF,cK,gr,Gn,Jp,Jg,Je,jq,cC,rT,kE];refine⟨ZB,λH12 iP=>?_⟩;have bf:[C.int IntKind.i64 x.op,C.int IntKind.i64 x.to,C.ah x.a.y 1 0 x.a.ns.length,C.int IntKind.i64 v]=({ x with n:=v }:OIns).row:=rfl;rw[bf,<-Jt]at iP;have knD:=K3 (b:=blk) (is:=blk.ins.set 0 { x with n:=v }) (knI.aB 0 rfl iP) (Q71 cC (by rw[hx];rfl));refine cV _ _ (k1+1+1+1+1+1) _ (OBlk.ins_ok (i:=0) (x':={ x with n:=v }) b8 iN) (OBlk.ins_sm (i:=0) (x':={ x with n:=v }) cq (by show x.a.ns.length<=_;omega)) ZB ZB ?_ ZC ZC;rw[FY cK (by rw[cr];rfl)];exact knD
   ·intro aD;refine Qi ?_;exact fT _ ZC ZC
  ·intro hc;refine Qi ?_;exact fT _ ZC ZC
 ·rintro e2 H10 ⟨k3,us,cl,oN,jJ,ja,ax,aq,kn,l2,l3⟩;have aI:=kn.l 0 rfl;have aL:=kn.l 1 rfl;refine Qa ?_;simp only[go_sem,aI,aL,bG,l2,l3];intro H8 h8;have kn:=kn.aB 0 rfl h8;have aI:=kn.l 0 rfl;refine Zr aI bG ?_;have jd:Held H8 (un H) (us.flatMap OCode.lg++cl):=λp hp=>by
   have fe:p∈(([(x2,Obj.st [cc]),(x3,Obj.st [cc])]++us.flatMap OCode.lg)++cl):=by
    rcases Jl.1 hp with h|h
    ·simp[h]
    ·simp[h]
   exact⟨(kn.get p (Jh _ fe)).1,DG (kn.loc p fe)⟩
  obtain⟨cs,hf,hcn,lw⟩:=OCodes.frz (N:=1001) ZB aq ax jd;exact⟨_,FrzL.ag (.cons hf .nil),hK cs _ k3 jJ ZB kn.fin ZB ZB lw⟩
end Go.AE.Y
namespace Go.AE.Y
open Go.Proofs.Tryz
theorem HC {R : Rdr} {fl : Bool} {ss : List (List UInt8)} : ∀ (d : Nat) {k : Nat} {H : Heap} {K : V -> Heap -> Prop} (deep : Int), deep <= d -> H R.l = R.o k -> k + 6 * 2^d <= 2^40 ->
    (∀ (x : Ex) (H' : Heap) (k' : Nat), k < k' -> k' + 3 <= k + 6 * 2^d -> Upd H H' [(R.l, R.o k')] -> x.ok -> k + x.size <= k' -> K (.ag x.cells) H') ->
    Qr prog RT [.c (.ptr R.l 0), .c (.sl fl 1 (Cn ss)), Uv deep] H K := by
  intro d
  induction d using Nat.strongRecOn with
  | ind d ih =>
  intro k H K deep hd hH hk hK;have sf : 1 <= 2^d := J7;have iW : d < 2^d := Nat.lt_two_pow_self;refine Qy ?_;refine Qd BF Yv ?_;refine Qa ?_;simp only [go_sem];intro x hx H1 h1;have kn := (Kn.start1 hH (R.ao k)).al hx h1;refine Q1 (Qa ?_);simp only [go_sem];have rest : ∀ (b : Bool) (H2 : Heap) (k2 : Nat), k <= k2 -> k2 <= k + 1 -> Kn H H2 [(R.l, R.o k2)] [(x, .st [Ui 0, Ui 0, .str [], .sl true 4 []])] -> (b = false -> 2 <= deep) ->
      BI prog (s_l2Expr_2.seq OK) (Q4 EY (unK H K))
       [(0, V.c (C.ptr R.l 0)), (1, V.c (C.sl fl 1 (Cn ss))), (2, Uv deep), (6, V.c (C.ptr x 0)), (14, V.c (.bool b))] H2 := by
    intro b H2 k2 iM fy kn hb;have fin : ∀ (op n : Int) (name : List UInt8) (fl : Bool) (kids : List Ex) (H3 : Heap) (k3 : Nat) (o : Obj), k < k3 -> k3 + 3 <= k + 6 * 2^d -> Kn H H3 [(R.l, R.o k3)] [(x, .st [Ui op, Ui n, .str name, .sl fl 4 (BW kids)])] ->
        (op = 10 -> kids.length = 2) -> Cu kids -> k + 1 + BZ kids <= k3 ->
        BE EY [(6, V.c (C.ptr x 0))] H3 (unK H K) := by
      intro op n name fl kids H3 k3 o g1 g2 kn g3 g4 g5;have aL := kn.l 0 rfl;simp only [go_sem, BE, EY, Ja, forall_eq, RS.op, aL];refine ⟨_, (Ex.mk op n name kids).frz, hK _ _ k3 g1 g2 kn.fin ?_ ?_⟩
      · simp only [Ex.ok]; exact ⟨g3, g4⟩
      · simp only [Ex.size]; omega
    refine Wu ?_ ?_
    · intro aW;refine Qa ?_;simp only [go_sem];refine YB (kn.e 0 rfl) ZB λy H3 k3 g1 g2 hu ax bp => ?_;have kn := kn.au 0 rfl hu (R.ao _);have aL := kn.l 0 rfl;simp only [go_sem, OJ, aL, y.aG];intro H4 h4;have kn := kn.aB 0 rfl h4;refine Ql ?_;simp only [go_sem, Q4];refine fin _ _ _ _ _ _ k3 .none ZB ZB kn (Ex.ok_and ax) (Ex.ok_kids ax) ?_;have := y.size_kids; omega
    · intro aW;have lu := hb aW;have hp : 2^d = 2 * 2^(d-1) := (by rw [<- Nat.pow_succ']; congr 1; omega);have fe : 1 <= 2^(d-1) := J7;have ihd := λ{k H K} => @ih (d-1) ZB k H K;generalize 2^(d-1) = e at *;refine Qi ?_;simp only [go_sem];refine Q1 (Qa ?_);simp only [go_sem];refine Cg (kn.e 0 rfl) ZB λv H3 hv hu => ?_;have kn := kn.au 0 rfl hu (R.ao _);simp only [go_sem, OI];refine Wu ?_ ?_
      · intro hc;refine Qa ?_;simp only [go_sem];refine CO (ns := [11, 12, 11]) (kn.e 0 rfl) ZB ZD λop H4 b9 hu => ?_;have kn := kn.au 0 rfl hu (R.ao _);simp only [go_sem, OG];refine ⟨Qs, ?_⟩;refine ihd (deep - 1) ZB (kn.e 0 rfl) ZB λy H5 k5 g1 g2 hu ax bp => ?_;have kn := kn.au 0 rfl hu (R.ao _);have bq := kn.l 0 rfl;simp only [go_sem, OH, bq, y.az];intro H6 h6;have kn := kn.aB 0 rfl h6;refine Ql ?_;simp only [go_sem, Q4];refine fin op 0 [] true [y] _ k5 .none ZB ZB kn (λh => ?_) ⟨ax, trivial⟩ ?_
        · subst h; simp at b9
        · simp only [BZ]; omega
      · intro hc;refine Qi ?_;simp only [go_sem];refine Qa ?_;simp only [go_sem];refine CO (ns := [3, 3, 4, 5, 6, 7, 8, 9, 10]) (kn.e 0 rfl) ZB ZD λop H4 b9 hu => ?_;have kn := kn.au 0 rfl hu (R.ao _);simp only [go_sem, OF];refine Qa ?_;simp only [go_sem];refine ⟨Qs, ?_⟩;refine ihd (deep - 1) ZB (kn.e 0 rfl) ZB λy H5 k5 g1 g2 hu ax bp => ?_;have kn := kn.au 0 rfl hu (R.ao _);simp only [go_sem, OD];refine ⟨Qs, ?_⟩;refine ihd (deep - 1) ZB (kn.e 0 rfl) ZB λz H6 k6 g3 g4 hu iw hsz2 => ?_;have kn := kn.au 0 rfl hu (R.ao _);have bq := kn.l 0 rfl;simp only [go_sem, OE, bq, y.az, z.az];intro H7 h7;have kn := kn.aB 0 rfl h7;refine Ql ?_;simp only [go_sem, Q4];refine fin op 0 [] true [y, z] _ k6 .none ZB ZB kn (λh => rfl) ⟨ax, iw, trivial⟩ ?_;simp only [BZ]; omega
  refine ⟨λhb => ?_, λhb => ?_⟩
  · refine Cg (kn.e 0 rfl) ZB λv H2 hv hu => ?_;have kn := kn.au 0 rfl hu (R.ao _);simp only [go_sem, Q0w];refine rest _ H2 (k + 1) ZB ZB kn ?_;intro h;have : ¬ deep < 2 := Zaa;omega
  · have cp : decide (deep < 2) = true := Zaa;simp only [go_sem, Q0w, cp];exact rest true H1 k ZB ZB kn (λh => by simp at h)
theorem Qavk {R:Rdr}{gl k:Nat}{s:GS}{H:Heap}{K:Uk}(hR:H R.l=R.o k)(hG:H gl=s.o R)(bd:R.l≠gl)(hs:s.ok k)(hk:k+2<=2^30)
  (hK:∀(name:List UInt8) (H':Heap) (k':Nat),k+1<=k'->k'<=k+2->Upd H H' [(R.l,R.o k'),(gl,GS.o { s with next:=s.next+1 } R)]->K (.c (.str name)) H') :
  Qr prog Ve [Up gl] H K:=by
 have h0:=hs.n0;have oF:=hs.n1;refine Qy ?_;refine Qd BF Qavz ?_;refine Wf ?_;simp only[go_sem,hG,GS.o];refine⟨Qs,λH1 h1=>?_⟩;have kn:Kn H H1 [(R.l,R.o k),(gl,GS.o { s with next:=s.next+1 } R)] []:=(Kn.start2 hR (R.ao k) hG (s.ao R) bd).stE 1 rfl h1;have jp:=kn.e 1 rfl;refine Q1 (Qa ?_);simp only[go_sem,jp,GS.o];refine Cg (kn.e 0 rfl) ZB λv H2 hv hu=>?_;have kn:=kn.au 0 rfl hu (R.ao _);have f8:=kn.e 1 rfl;simp only[go_sem,Qn7,f8,GS.o];intro hl;refine Wu ?_ ?_
 ·intro hc;have oM:0<s.vars.length:=by
   rw[CR]at hc;cases h:decide (v=0) <;> rw[h]at hc <;> simp_all
  refine BM ?_;simp only[go_sem,f8,GS.o];refine of_c (kn.e 0 rfl) ZB oM λname H3 hn hu=>?_;have kn:=kn.au 0 rfl hu (R.ao _);simp only[go_sem,Qn8];refine Ze ?_;exact⟨_,.c _ _ (Qg rfl),hK _ _ (k+1+1) ZB ZB kn.fin⟩
 ·intro hc;refine Zd ?_;refine BM ?_;have e1:0<=(s.next+1).tmod 24:=J4 _ ZB;have e2:(s.next+1).tmod 24<24:=J0 _ ZB;simp only[go_sem,f8,GS.o];refine⟨ZB,ZB,Qs,ZB,?_⟩;refine Ze ?_;exact⟨_,.c _ _ (Qg rfl),hK _ _ (k+1) ZB ZB kn.fin⟩
theorem OQ {R:Rdr}{gl k:Nat}{s:GS}{x:Ex}{fl:Bool}{H:Heap}{K:Uk}(hR:H R.l=R.o k)(hG:H gl=s.o R)(bd:R.l≠gl)(hs:s.ok k)(hk:k+2<=2^30)
  (hK:∀(name:List UInt8) (H':Heap) (k':Nat),k+1<=k'->k'<=k+2->Upd H H' [(R.l,R.o k'),(gl,GS.o { s with next:=s.next+1,vars:=s.vars++[name],vfl:=false } R)]->K (.ag (St.mk 1 name [x] [] []).cells) H') :
  Qr prog Q7w [Up gl,.ag [Ui x.op,Ui x.n,.str x.name,.sl fl 4 (BW x.kids)]] H K:=by
 have hv:=hs.v;refine DS ?_;refine Qd BF Qbbx ?_;refine Za ?_;intro y hy H1 h1;have kn:=(Kn.start2 hR (R.ao k) hG (s.ao R) bd).al hy h1;refine Za ?_;refine Qavk (kn.e 0 rfl) (kn.e 1 rfl) bd hs hk λname H2 k' g1 g2 hu=>?_;have kn:=kn.callEE 0 1 rfl rfl ZO hu (R.ao _) (GS.ao _ _);have f8:=kn.e 1 rfl;simp only[go_sem,Qy2];refine Qa ?_;have hL:s.vars.length<=LIM:=ZU
 have hL1:s.vars.length+1<=LIM:=ZU
 simp only[go_sem,f8,GS.o,CR,Jg,Jq,hL];refine⟨.inl trivial,Sr _,?_⟩;intro z hz H3 h3;have kn:=kn.al hz h3;have wh:=kn.l 1 rfl;have pI:=kn.e 1 rfl;simp only[go_sem,Qy4,wh,CR,Qbit,hL1,Jd];refine⟨ZB,λz' dx H4 h4=>?_⟩;have kn:=kn.ap 1 rfl dx h4;have vh:=kn.e 1 rfl;simp only[go_sem,Qy3,vh,GS.o];intro H5 h5;have kn:=kn.stE 1 rfl h5;have hy5:=kn.l 0 rfl;refine Zj hy5 ?_;intro H6 h6;have kn:=kn.aB 0 rfl h6;have hy6:=kn.l 0 rfl;refine Zo hy6 ?_;refine⟨un H,(.ag (St.mk 1 name [x] [] []).cells),(H6.frz (un H)).set gl (GS.o { s with next:=s.next+1,vars:=s.vars++[name],vfl:=false } R),?_,?_,hK name _ k' g1 g2 (kn.fin.set2 bd)⟩
 ·simp only[St.cells,BW,BO,x.aG];exact (FrzL.cons (Qg rfl) (.cons (Qg rfl) (.cons (FrzR.cons (.cons (Qg rfl) (.cons (Qg rfl) (.cons (Qg rfl) (.cons (FrzR.same (IU _)).sl .nil)))) .nil).sl (.cons (FrzR.nil).sl (.cons (FrzR.nil).sl .nil))))).ag
 ·refine (Ep _ _).set (GW (kn.usedE 1 rfl)) ?_;rw[kn.e 1 rfl];refine FrzKL.st (.same (.same (.cons rfl ?_ (.same (.same .nil)))));exact HF (kn.un 1 rfl) (kn.l 1 rfl) (by simp[Cn]) (noOw_mem (Sr _))
theorem Gy {R : Rdr} {gl k : Nat} {s : GS} {H : Heap} {K : V -> Heap -> Prop} (deep : Int) (hd : deep <= 3) (hR : H R.l = R.o k) (hG : H gl = s.o R) (bd : R.l ≠ gl) (hs : s.ok k) (hF : FnsOk H R gl s) (hk : k + 200 <= 2^30)
    (hK : ∀ (x : Ex) (H' : Heap) (k' : Nat), k < k' -> k' <= k + 200 -> Upd H H' [(R.l, R.o k')] -> x.ok -> k + x.size <= k' -> K (.ag x.cells) H') :
    Qr prog Q1r [Up gl, Uv deep] H K := by
  have iO := hs.fn;refine Qy ?_;refine Qd BF Qa17 ?_;refine Qa ?_;simp only [go_sem];intro x4 aY H1 h1;have kn := (Kn.start2 hR (R.ao k) hG (s.ao R) bd).al aY h1;have jp := kn.e 1 rfl;refine BM ?_;simp only [go_sem, jp, GS.o];refine HC 3 deep ZB (kn.e 0 rfl) ZB λe H2 k2 g1 g2 hu ru jg => ?_;have kn := kn.au 0 rfl hu (R.ao _);have f8 := kn.e 1 rfl;simp only [go_sem, Qtv];intro x5 bq H3 h3;have kn := kn.al bq h3;have pI := kn.e 1 rfl;have eY := kn.l 1 rfl;simp only [go_sem, Qtu, pI, eY, GS.o, e.aG];intro H4 h4;have kn := kn.aB 1 rfl h4;have vh := kn.e 1 rfl;refine Q1 (Qa ?_);simp only [go_sem, vh, GS.o, hF.ow, hF.ok kn, hF.len];intro hl;have fin : ∀ (op n : Int) (name : List UInt8) (c : C) (kids : List Ex) (H3 : Heap) (k3 : Nat) (L : List (Nat × Obj)), k < k3 -> k3 <= k + 200 -> Kn H H3 [(R.l, R.o k3), (gl, s.o R)] L ->
      L[0]? = some (x4, .st [Ui op, Ui n, .str name, c]) -> c.ai = false -> FrzC H3 (un H) c (.sl false 4 (BW kids)) -> (Ex.mk op n name kids).ok -> k + (Ex.mk op n name kids).size <= k3 ->
      BE Gm [(4, V.c (C.ptr x4 0))] H3 (unK H K) := by
    intro op n name c kids H3 k3 L g1 g2 kn g3 bD g4 g5 g6;have aL := kn.l 0 g3;simp only [go_sem, BE, Gm, Ja, forall_eq, RS.op, aL, bD];refine ⟨(.ag (Ex.mk op n name kids).cells), ?_, hK _ _ k3 g1 g2 (kn.fin.drop2 hG) g5 g6⟩;rw [Ex.aG];exact (FrzL.cons (Qg rfl) (.cons (Qg rfl) (.cons (Qg rfl) (.cons g4 .nil)))).ag
  have rest : ∀ (b : Bool) (H2 : Heap) (k3 : Nat), k2 <= k3 -> k3 <= k2 + 1 -> Kn H H2 [(R.l, R.o k3), (gl, s.o R)] [(x4, .st [Ui 0, Ui 0, .str [], .sl true 4 []]), (x5, .st [Ui e.op, Ui e.n, .str e.name, .sl false 4 (BW e.kids)])] ->
      (b = false -> 0 < s.fns.length) ->
      BI prog (s_l3Gen_expr_3.seq Qtt) (Q4 Gm (unK H K))
       [(0, V.c (C.ptr gl 0)), (4, V.c (C.ptr x4 0)), (5, V.c (C.ptr x5 0)), (32, .c (.bool b))] H2 := by
    intro b H2 k3 g3 g4 kn hb;have lG := kn.l 1 rfl;have qa := kn.l 0 rfl;refine Wu ?_ ?_
    · intro aW;refine Qa ?_;simp only [go_sem, lG, qa];intro H3 h3;have kn := kn.aB 0 rfl h3;refine Ql ?_;simp only [go_sem, Q4]
      cases e with
      | mk op n name kids => exact fin op n name _ kids H3 k3 _ ZB ZB kn rfl rfl (FI (noOw_mem (IU _))) ru ZB
    · intro aW;have gM := hb aW;refine Qi ?_;simp only [go_sem];have pI := kn.e 1 rfl;refine BM ?_;simp only [go_sem, pI, GS.o, hF.ow, hF.ok kn, hF.len];refine Cg (kn.e 0 rfl) ZB λv H3 hv hu => ?_;have kn := kn.au 0 rfl hu (R.ao _);rw [if_neg ZB] at hv;obtain ⟨i, rfl⟩ := Jo hv.1;have hi : i < s.fns.length := ZB;have vh := kn.e 1 rfl;simp only [go_sem, Qtx, vh, GS.o, hF.ow, hF.ok kn, hF.len, hF.rows kn, hF.esz, hi, I0 _ _ hi, Fn.cells];intro x6 be H4 h4;have kn := kn.al be h4;have hG5 := kn.e 1 rfl;have wz := kn.l 2 rfl;simp only [go_sem, Qtw, hG5, wz, GS.o, hF.ow, hF.ok kn, hF.len, hF.rows kn, hF.esz, hi, I0 _ _ hi, Fn.cells];have fU := hs.f _ (Jb hi);generalize s.fns[i] = f at *;intro H5 h5;have kn := kn.aB 2 rfl h5;have lF := kn.l 2 rfl;refine Qa ?_;simp only [go_sem, lF];intro x7 cd H6 h6;have kn := kn.al cd h6;have kh := kn.l 2 rfl;have pS := kn.l 3 rfl;simp only [go_sem, Qty, pS];intro H7 h7;have kn := kn.aB 3 rfl h7;refine Q1 (Qa ?_);simp only [go_sem];refine Qh (Qe (Qw (λn e1 H1 => ∃ (i k4 : Nat) (kids : List Ex) (c : C) (Lg : List (Nat × Obj)), n = f.params.length - i /\ i <= f.params.length /\ k4 <= k3 + 1 + 21 * i /\ k3 + 1 + BZ kids <= k4 /\ Cu kids /\ kids.length = i /\
        Gr Lg 4 (BW kids) c /\ Kn H H1 [(R.l, R.o k4), (gl, s.o R)] ([(x4, .st [Ui 0, Ui 0, .str [], .sl true 4 []]), (x5, .st [Ui e.op, Ui e.n, .str e.name, .sl false 4 (BW e.kids)]),
          (x6, .st [.str f.name, .sl false 1 (Cn f.params), .sl false 5 (BO f.body)]), (x7, .st [Ui 13, Ui 0, .str f.name, c])] ++ Lg) /\
        e1 = [(0, V.c (C.ptr gl 0)), (4, V.c (C.ptr x4 0)), (6, V.c (C.ptr x6 0)), (7, V.c (C.ptr x7 0)), (8, V.c (C.int IntKind.i64 i))]) f.params.length ?_ ?_))
      · exact ⟨0, k3 + 1, [], _, [], by omega, by omega, by omega, by simp [BZ], trivial, rfl, .nil 4, kn, rfl⟩
      · rintro n e1 H1 ⟨i, k4, kids, c, Lg, hn, rh, ja, hksz, gK, cg, aq, kn, rfl⟩;have w3 := kn.l 2 rfl;have lB := kn.l 3 rfl;have jp := kn.e 1 rfl;refine Q1 (Qa ?_);simp only [go_sem, w3, CR];intro da;refine Wu ?_ ?_
        · intro hc;have af : i < f.params.length := ZE;refine Qi ?_;simp only [go_sem];refine Qh (Qe (BY ?_));have bG := aq.ai;simp only [go_sem, lB, jp, GS.o, bG];refine HC 2 2 ZB (kn.e 0 rfl) ZB λz H2 k5 g5 g6 hu ax bp => ?_;have kn := kn.au 0 rfl hu (R.ao _);have gz := kn.l 3 rfl;simp only [go_sem, Qt0, gz, bG, z.az];refine kn.grow (new := [z.cells]) aq (.mk' _ _ _ _) (by simp [z.ak]) (by simp only [Da, Jk, Jn, LIM]; omega) λy' H3 kn => ?_;have pX := kn.l 3 rfl;simp only [go_sem, Qtz, pX];intro H4 h4;have kn := kn.aB 3 rfl h4;refine Qp ?_;simp only [go_sem];refine ⟨Qs, ?_⟩;refine ⟨f.params.length - (i + 1), by omega, i + 1, k5, kids ++ [z], _, _, rfl, by omega, by omega, ?_, Qbp3 gK ⟨ax, trivial⟩, by simp [cg], ?_, kn, ?_⟩
          · simp only [Tz, BZ]; omega
          · rw [<- Qbll]; exact .mk _ _ _ ZD
          · simp
        · intro hc;have bh : f.params.length <= i := ZE;refine Qu ?_;simp only [go_sem, X.next];refine Q1 (Qa ?_);simp only [go_sem, jp, GS.o];refine Cg (kn.e 0 rfl) ZB λv H2 hv hu => ?_;have kn := kn.au 0 rfl hu (R.ao _);have gz := kn.l 3 rfl;have qa := kn.l 0 rfl;have bG := aq.ai;have f8 := kn.e 1 rfl;simp only [go_sem, Qn4];refine Wu ?_ ?_
          · intro hc;refine Qa ?_;simp only [go_sem, gz, qa, bG];intro H3 h3;have kn := kn.aB 0 rfl h3;refine Ql ?_;simp only [go_sem, Q4];refine fin 13 0 f.name c kids H3 (k4 + 1) _ ZB ZB kn rfl bG (aq.frz (B := [_, _, _, _]) kn (IU _)) ?_ ?_
            · simp only [Ex.ok]; exact ⟨λh => by simp at h, gK⟩
            · simp only [Ex.size]; omega
          · intro hc;refine Qi ?_;simp only [go_sem];refine BM ?_;simp only [go_sem, gz, f8, bG, GS.o];refine CO (ns := [3, 4, 8, 10]) (kn.e 0 rfl) ZB ZD λop H3 b9 hu => ?_;have kn := kn.au 0 rfl hu (R.ao _);have pX := kn.l 3 rfl;have pI := kn.e 1 rfl;simp only [go_sem, Qn6, pX, pI, bG, GS.o];refine HC 2 2 ZB (kn.e 0 rfl) ZB λz H4 k5 g5 g6 hu ax bp => ?_;have kn := kn.au 0 rfl hu (R.ao _);have nC := kn.l 3 rfl;have w9 := kn.l 0 rfl;simp only [go_sem, Qn5, nC, w9, bG, z.az];intro H5 h5;have kn := kn.aB 0 rfl h5;refine Ql ?_;simp only [go_sem, Q4];refine fin op 0 [] _ [Ex.mk 13 0 f.name kids, z] H5 k5 _ ZB ZB kn rfl rfl ?_ ?_ ?_
            · refine FrzR.sl (.cons ?_ (.cons (.same z.ak) .nil));rw [Ex.aG];exact .cons (Qg rfl) (.cons (Qg rfl) (.cons (Qg rfl) (.cons (aq.frz (B := [_, _, _, _]) kn (IU _)) .nil)))
            · simp only [Ex.ok, Cu]; exact ⟨λh => rfl, ⟨λh => by simp at h, gK⟩, ax, trivial⟩
            · simp only [Ex.size, BZ]; omega
  refine ⟨λhb => ?_, λhb => ?_⟩
  · refine Cg (kn.e 0 rfl) ZB λv H5 hv hu => ?_;have kn := kn.au 0 rfl hu (R.ao _);simp only [go_sem, Vt];refine rest _ H5 (k2 + 1) ZB ZB kn ?_;intro h;have : ¬ s.fns.length = 0 := Zaa;omega
  · have cp : decide ((s.fns.length : Int) = 0) = true := Zaa;simp only [go_sem, Vt, cp];exact rest true H4 k2 ZB ZB kn (λh => by simp at h)
theorem Q72 {R:Rdr}{gl k:Nat}{s:GS}{H:Heap}{K:Uk}(hR:H R.l=R.o k)(hG:H gl=s.o R)(bd:R.l≠gl)(hs:s.ok k)(hF:FnsOk H R gl s)(hk:k+201<=2^30)
  (hK:∀(x:Ex) (H':Heap) (k':Nat),k<k'->k'<=k+201->Upd H H' [(R.l,R.o k')]->x.ok->2 * k+x.size<=2 * k'->K (.ag x.cells) H') :
  Qr prog Q1q [Up gl] H K:=by
 refine Qy ?_;refine Qd BF Qa16 ?_;refine Za ?_;intro x2 aI H1 h1;have kn:=(Kn.start2 hR (R.ao k) hG (s.ao R) bd).al aI h1;have jp:=kn.e 1 rfl;refine BM ?_;simp only[go_sem,jp,GS.o];refine Gy 2 ZB (kn.e 0 rfl) (kn.e 1 rfl) bd hs (hF.keep kn rfl rfl) ZB λe H2 k2 g1 g2 hu ru jg=>?_;have kn:=kn.au 0 rfl hu (R.ao _);have f8:=kn.e 1 rfl;simp only[go_sem,Qts,f8,GS.o];refine CO (ns:=[16,16,16,8,17,0]) (kn.e 0 rfl) ZB ZD λv H3 hv hu=>?_;have kn:=kn.au 0 rfl hu (R.ao _);have wE:=kn.l 0 rfl;simp only[go_sem,Qtr,wE,e.az];intro H4 h4;have kn:=kn.aB 0 rfl h4;have lK:=kn.l 0 rfl;refine Zo lK ?_;refine⟨(.ag (Ex.mk 7 0 [] [e,Ex.mk 1 v [] []]).cells),?_,hK _ _ (k2+1) ZB ZB (kn.fin.drop2 hG) ?_ ?_⟩
 ·rw[Ex.aG (Ex.mk 7 0 [] _)];refine FrzL.ag ?_;refine .cons (Qg rfl) (.cons (Qg rfl) (.cons (Qg rfl) (.cons (FrzR.sl (.cons (.same e.ak) (.cons ?_ .nil))) .nil)));simp only[Ex.cells,BW];exact .cons (Qg rfl) (.cons (Qg rfl) (.cons (Qg rfl) (.cons (FrzR.nil).sl .nil)))
 ·simp only[Ex.ok,Cu];exact⟨λh=>rfl,ru,⟨λh=>ZI,trivial⟩,trivial⟩
 ·simp only[Ex.size,BZ];omega
def Hs (d:Nat):Prop:=∀(R:Rdr) (gl k:Nat) (s:GS) (H:Heap) (K:V->Heap->Prop) (deep:Int),deep<=d->H R.l=R.o k->H gl=s.o R->R.l≠gl->s.ok k->FnsOk H R gl s->k+500 * 10^d<=2^30->
  (∀(l:List St) (s':GS) (H':Heap) (k':Nat),k<k'->k'<=k+500 * 10^d->Upd H H' [(R.l,R.o k'),(gl,s'.o R)]->s'.ok k'->s.left+4 * (k:Int)<=s'.left+4 * (k':Int)->s'.fns=s.fns->s'.ffl=s.ffl->l.length<=2->Cj l->4 * k+Q9 l<=4 * k'->K (.c (.sl false 5 (BO l))) H')->
  Qr prog Q1t [.c (.ptr gl 0),.c (.int .i64 deep)] H K
def DA (d:Nat):Prop:=∀(R:Rdr) (gl k:Nat) (s:GS) (H:Heap) (K:V->Heap->Prop) (deep:Int),deep<=d->H R.l=R.o k->H gl=s.o R->R.l≠gl->s.ok k->FnsOk H R gl s->k+2001 * 10^d<=2^30->
  (∀(l:List St) (c:C) (Lg:List (Nat×Obj)) (s':GS) (H':Heap) (k':Nat),k<k'->k'<=k+2001 * 10^d->Upd H H' [(R.l,R.o k'),(gl,s'.o R)]->Gr Lg 5 (BO l) c->New H H' Lg->s'.ok k'->s.left+4 * (k:Int)<=s'.left+4 * (k':Int)->s'.fns=s.fns->s'.ffl=s.ffl->
   l.length<=8->Cj l->4 * k+Q9 l<=4 * k'->K (.c c) H')->
  Qr prog Qw7 [.c (.ptr gl 0),.c (.int .i64 deep)] H K
theorem LL {d:Nat}(hS:Hs d):DA d:=by
 intro R gl k s H K deep hd hR hG bd hs hF hk hK;have iW:d<10^d:=Jy ZB;generalize nQ:10^d=e at *;have oC:=hS;simp only[Hs]at oC;rw[nQ]at oC;generalize hM:500 * e=M at *;refine DS ?_;refine Qd BF Qavy ?_;refine Wf ?_;simp only[go_sem,hG,GS.o];refine Wh ?_;simp only[go_sem,hG,GS.o];have kn:=Kn.start2 hR (R.ao k) hG (s.ao R) bd;refine CO (ns:=[2,3,1,4]) hR ZB ZD λv H1 hv hu=>?_;have kn:=kn.au 0 rfl hu (R.ao _);simp only[go_sem,Qn1];have hv4:1<=v/\v<=4:=by simp at hv;omega
 refine Qh (Qe (Qw (λn e1 H1=>∃(j k4:Nat) (l:List St) (c:C) (Lg:Ul) (s':GS),n=v.toNat-j/\(j:Int)<=v/\k+1<=k4/\k4<=k+1+M * j/\4 * k+Q9 l<=4 * k4/\Cj l/\l.length<=2 * j/\
    Gr Lg 5 (BO l) c/\s'.ok k4/\s.left+4 * (k:Int)<=s'.left+4 * (k4:Int)/\s'.fns=s.fns/\s'.ffl=s.ffl/\Kn H H1 [(R.l,R.o k4),(gl,s'.o R)] ([]++Lg)/\
    e1=[(0,V.c (C.ptr gl 0)),(1,Uv deep),(5,.c (.sl s.vfl 1 (Cn s.vars))),(6,.c c),(7,V.c (C.int IntKind.i64 (v-j)))]) v.toNat ?_ ?_))
 ·exact⟨0,k+1,[],_,[],s,ZB,ZB,ZB,ZB,by simp only[Q9];omega,trivial,ZD,.nil 5,hs.mono ZB,ZB,rfl,rfl,kn,ZD⟩
 ·rintro n e1 H1 ⟨j,k4,l,c,Lg,s',hn,hj,ja,yE,bp,ax,jI,aq,fi,hlf,mD,lr,kn,rfl⟩;have jp:=kn.e 1 rfl;have hMj:M * j<=M * 4:=Jz _ ZB;refine Q1 (Qa ?_);simp only[go_sem,jp,GS.o];refine Wu ?_ ?_
  ·intro hc;have hi:(j:Int)<v:=by
    cases h:decide (0<v-(j:Int))with
    |true=>have:0<v-(j:Int):=by simpa using h
           omega
    |false=>rw[h]at hc;simp at hc
   have B1:M * (j+1)=M * j+M:=Jal _ _;have vZ:M * (j+1)<=M * 4:=Jz _ ZB;refine Zd ?_;refine Qh (Qe (Qp ?_));simp only[go_sem];refine oC _ _ _ _ _ _ deep hd (kn.e 0 rfl) (kn.e 1 rfl) bd fi (hF.keep kn mD lr) ZB λl2 s2 H2 k5 g1 g2 hu g3 glf g4 g5 g6 g7 g8=>?_;have kn:=kn.callEE 0 1 rfl rfl ZO hu (R.ao _) (GS.ao _ _);simp only[go_sem,Qn3];refine kn.grow aq (.mk' _ _ _ (BO l2)) (Iy _) (by simp only[Di,LIM];omega) λy' H3 kn=>?_;simp only[go_sem,Qn2];refine Zh ?_;refine⟨Qs,?_⟩;simp only[X.next];refine⟨v.toNat-(j+1),ZB,j+1,k5,l++l2,.ah y' 5 0 ((BO l).length+(BO l2).length),_,s2,rfl,ZB,ZB,ZB,?_,HL ax g7,by simp;omega,?_,g3,ZB,g4.trans mD,g5.trans lr,kn,?_⟩
   ·rw[IV];omega
   ·rw[HM];exact .mk _ _ _ (by simp[Di])
   ·have:v-((j+1:Nat):Int)=v-j-1:=ZB;rw[this]
  ·intro hc;refine Zb ?_;refine Qa ?_;simp only[go_sem,jp,GS.o];intro H2 h2;have kn:Kn H H2 [(R.l,R.o k4),(gl,GS.o { s' with vars:=s.vars,vfl:=s.vfl } R)] ([]++Lg):=kn.stE 1 rfl h2;refine Wr ?_;refine⟨unx H Lg,_,H2.frz (unx H Lg),.c _ _ (.same _ aq.ai),Ep _ _,?_⟩;refine hK l c Lg _ _ k4 ZB ZB kn.finx.1 aq kn.finx.2 ⟨fi.n0,fi.n1,fi.l0,fi.l1,?_,fi.f,fi.fn⟩ (by show _<=s'.left+_;omega) mD lr ZB ax bp;have:=hs.v;show s.vars.length<=_;omega
def Ht (d:Nat):Prop:=∀(R:Rdr) (gl k:Nat) (s:GS) (H:Heap) (K:V->Heap->Prop) (deep:Int),deep<=d+1->2<=deep->H R.l=R.o k->H gl=s.o R->R.l≠gl->s.ok k->FnsOk H R gl s->k+2001 * 10^d+10<=2^30->
  (∀(l:List St) (s':GS) (H':Heap) (k':Nat),k+2<k'->k'<=k+2001 * 10^d+3->Upd H H' [(R.l,R.o k'),(gl,s'.o R)]->s'.ok k'->s.left+4 * (k:Int)<=s'.left+4 * (k':Int)->s'.fns=s.fns->s'.ffl=s.ffl->l.length<=2->Cj l->4 * k+Q9 l<=4 * k'->K (.c (.sl false 5 (BO l))) H')->
  Qr prog Q1s [.c (.ptr gl 0),.c (.int .i64 deep)] H K
theorem Qb2h {d:Nat}(hB:DA d):Ht d:=by
 intro R gl k s H K deep hd eU hR hG bd hs hF hk hK;have iW:d<10^d:=Jy ZB;have sH:=hB;simp only[DA]at sH;generalize nQ:10^d=e at *;refine Qy ?_;refine Qd BF Qa18 ?_;refine Wf ?_;simp only[go_sem,hG,GS.o];have kn:=Kn.start2 hR (R.ao k) hG (s.ao R) bd;refine CO (ns:=[2,3,1,0,5]) hR ZB ZD λv H1 hv hu=>?_;have kn:=kn.au 0 rfl hu (R.ao _);simp only[go_sem,Qt4];refine OQ (x:=Ex.mk 1 v [] []) (fl:=true) (kn.e 0 rfl) (kn.e 1 rfl) bd (hs.mono (Jag k)) ZB λname H2 k2 g1 g2 hu=>?_;have kn:=kn.callEE 0 1 rfl rfl ZO hu (R.ao _) (GS.ao _ _);simp only[go_sem,Qt3];intro x5 bq H3 h3;have kn:=kn.al bq h3;have eY:=kn.l 0 rfl;simp only[go_sem,Qt2,eY,St.cells];intro H4 h4;have kn:=kn.aB 0 rfl h4;have gA:=kn.l 0 rfl;refine Zj gA ?_;intro x6 be H5 h5;have kn:=kn.al be h5;have lF:=kn.l 1 rfl;simp only[go_sem,Qt5,lF];intro H6 h6;have kn:=kn.aB 1 rfl h6;refine Za ?_;refine⟨Qs,?_⟩;have eZ:GS.ok { s with next:=s.next+1,vars:=s.vars++[name],vfl:=false } k2:=by
  refine⟨?_,?_,?_,hs.l1,?_,hs.f,hs.fn⟩
  ·have:=hs.n0;show -1<=s.next+1;omega
  ·have:=hs.n1;show s.next+1<=_;omega
  ·have:=hs.l0;show _<=s.left;omega
  ·have:=hs.v;show (s.vars++[name]).length<=_;simp;omega
 refine sH _ _ _ _ _ _ (deep-1) ZB (kn.e 0 rfl) (kn.e 1 rfl) bd eZ (hF.keep kn rfl rfl) ZB λl c Lg s3 H7 k3 g3 g4 hu aq eL kX glf g5 g6 g7 g8 g9=>?_;have kn0:=kn;have kn:=kn.callEE 0 1 rfl rfl ZO hu (R.ao _) (GS.ao _ _);have kn:=kn0.addGr kn rfl rfl aq eL;have pY:=kn.l 0 rfl;have kh:=kn.l 1 rfl;simp only[go_sem,Sm];refine Zm pY kh ?_;intro x8 aV H8 h8;have kn:=kn.al aV h8;have kn:=kn.perm (L':=[(x5,_),(x6,_),(x8,_)]++Lg) (by
  simp only[List.set,Jq,Jr];refine .cons _ (.cons _ ?_);exact Ji)
 have wu:=kn.l 2 rfl;simp only[go_sem,Qt7,wu];intro H9 h9;have kn:=kn.aB 2 rfl h9;have Ah:=kn.e 1 rfl;refine Qa ?_;simp only[go_sem,Ah,GS.o];have iK:=kX.l0;have qV:=kX.l1;refine⟨Qs,λH10 db=>?_⟩;have kn:Kn H H10 [(R.l,R.o k3),(gl,GS.o { s3 with left:=s3.left-2 } R)] ([(x5,_),(x6,_),(x8,_)]++Lg):=kn.stE 1 rfl db;have w5:=kn.l 0 rfl;have lC:=kn.l 1 rfl;have ws:=kn.l 2 rfl;refine BM ?_;simp only[go_sem,w5,lC,ws];refine kn.grow aq (.mk' _ _ _ _) (by intro r hr;simp only[Ja]at hr;subst hr;rfl) (by simp only[Di,LIM,Jk,Jn];omega) λy' H11 kn=>?_;have w4:=kn.l 0 rfl;have ip:=kn.l 1 rfl;have cF:=kn.l 3 rfl;simp only[go_sem,Qt8,w4,ip];refine Ze ?_;have fV:GS.ok { s3 with left:=s3.left-2 } k3:=⟨kX.n0,kX.n1,by show _<=s3.left-2;have:=hs.l0;simp only at glf;omega,by show s3.left-2<=100;omega,kX.v,kX.f,kX.fn⟩;refine⟨.c (.sl false 5 (BO [St.mk 1 name [Ex.mk 1 v [] []] [] [],St.mk 6 [] [Ex.mk 2 0 name []] (l++[St.mk 2 name [Ex.mk 4 0 [] [Ex.mk 2 0 name [],Ex.mk 1 1 [] []]] [] []]) []])),.c _ _ ?_,hK _ _ _ k3 ZB ZB kn.fin fV (by show _<=s3.left-2+_;simp only at glf;omega) g5 g6 ZD ?_ ?_⟩
 ·simp only[BO,St.cells,BW,Ex.cells,<-HM]
  repeat' first|exact FrzL.nil|exact FrzR.nil|exact Qg rfl|exact FrzL.same (Ex.ak _)|exact FrzL.same (St.ak _)|refine FrzL.cons ?_ ?_|refine FrzR.cons ?_ ?_|refine FrzR.sl ?_
  refine FrzR.ah (kn.un 3 rfl) cF ZD (.app (.same (Iy _)) ?_)
  repeat' first|exact FrzL.nil|exact FrzR.nil|exact Qg rfl|exact FrzL.same (Ex.ak _)|exact FrzL.same (St.ak _)|refine FrzL.cons ?_ ?_|refine FrzR.cons ?_ ?_|refine FrzR.sl ?_
 ·simp only[Cj,St.ok,Cu,Ex.ok];refine⟨⟨ZD,⟨⟨λh=>ZI,trivial⟩,trivial⟩,trivial,trivial⟩,⟨ZD,⟨⟨λh=>ZI,trivial⟩,trivial⟩,HL g8 ?_,trivial⟩,trivial⟩;simp[Cj,St.ok,Cu,Ex.ok]
 ·simp only[Q9,St.size,IV,BZ,Ex.size];omega
theorem Mg {A L1 L2:Ul}:(A++L1++L2).Perm (A++L2++L1):=by
 rw[Jm,Jm];exact .append_left _ Ji
theorem Kk {d : Nat} (hB : ∀ d', d = d' + 1 -> DA d') : Hs d := by
  intro R gl k s H K deep hd hR hG bd hs hF hk hK;have iW : d < 10^d := Jy ZB;have jZ : ∃ e, 10^d = e /\ ∀ d', d = d' + 1 -> 10 * 10^d' = e := ⟨10^d, rfl, λd' h => by rw [h, Nat.pow_succ]; omega⟩;obtain ⟨e, nQ, he'⟩ := jZ;rw [nQ] at iW hk hK;have iK := hs.l0;have qV := hs.l1;refine Qy ?_;refine Qd BF Qa19 ?_;refine Qa ?_;simp only [go_sem];refine Qa ?_;simp only [go_sem, hG, GS.o];refine ⟨Qs, λH1 h1 => ?_⟩;have kn : Kn H H1 [(R.l, R.o k), (gl, GS.o { s with left := s.left - 1 } R)] [] := (Kn.start2 hR (R.ao k) hG (s.ao R) bd).stE 1 rfl h1;have dD : GS.ok { s with left := s.left - 1 } (k + 1) := ⟨hs.n0, by have := hs.n1; show s.next <= _; omega, by show _ <= s.left - 1; omega, by show s.left - 1 <= 100; omega, by have := hs.v; show s.vars.length <= _; omega, hs.f, hs.fn⟩;have AM : s.left <= ({ s with left := s.left - 1 } : GS).left + 1 := by show s.left <= s.left - 1 + 1; omega
  have gM : ({ s with left := s.left - 1 } : GS).fns = s.fns := rfl;have oz : ({ s with left := s.left - 1 } : GS).ffl = s.ffl := rfl;have kf : FnsOk H R gl { s with left := s.left - 1 } := ⟨hF.1, hF.2⟩;generalize ({ s with left := s.left - 1 } : GS) = s1 at *;have jp := kn.e 1 rfl;refine Qa ?_;simp only [go_sem, jp, GS.o];refine Cg (kn.e 0 rfl) ZB λv H2 hv hu => ?_;have kn : Kn H H2 [(R.l, R.o (k + 1)), (gl, s1.o R)] [] := kn.au 0 rfl hu (R.ao _);have f8 := kn.e 1 rfl;simp only [go_sem, DM];have fin : ∀ (l : List St) (c : C) (s' : GS) (H3 : Heap) (k3 : Nat) (L : List (Nat × Obj)), k < k3 -> k3 <= k + 500 * e -> Kn H H3 [(R.l, R.o k3), (gl, s'.o R)] L -> FrzC H3 (un H) c (.sl false 5 (BO l)) ->
      s'.ok k3 -> s1.left + 4 * ((k + 1 : Nat) : Int) <= s'.left + 4 * (k3 : Int) -> s'.fns = s1.fns -> s'.ffl = s1.ffl -> l.length <= 2 -> Cj l -> 4 * k + Q9 l <= 4 * k3 -> ∃ x', FrzV H3 (un H) (.c c) x' /\ K x' (H3.frz (un H)) := by
    intro l c s' H3 k3 L g1 g2 kn g3 g4 g5 g6 g7 g8 g9 g10;exact ⟨_, .c _ _ g3, hK l s' _ k3 g1 g2 kn.fin g4 ZB (g6.trans gM) (g7.trans oz) g8 g9 g10⟩
  refine Wi ?_;simp only [go_sem, f8, GS.o, CR];intro bN;refine Wv ?_ ?_
  ·
    intro hc;have oM : 0 < s1.vars.length := by
      cases h : decide (v < 3) with
      | true => rw [h] at hc; simp at hc; omega
      | false => rw [h] at hc; simp at hc
    refine BM ?_;simp only [go_sem, f8, GS.o];refine of_c (kn.e 0 rfl) ZB oM λname H3 hn hu => ?_;have kn := kn.au 0 rfl hu (R.ao _);simp only [go_sem, Qud];refine Gy 3 ZB (kn.e 0 rfl) (kn.e 1 rfl) bd (dD.mono ZB) (kf.keep kn rfl rfl) ZB λx H4 k4 g1 g2 hu g3 g4 => ?_;have kn := kn.au 0 rfl hu (R.ao _);simp only [go_sem, Quc, x.az];refine Ql ?_;simp only [go_sem, Q4, BE, BG, Ja, forall_eq, RS.op];refine fin [St.mk 2 name [x] [] []] _ s1 H4 k4 _ ZB ZB kn ?_ (dD.mono ZB) ZB rfl rfl ZD ?_ ?_
    · simp only [BO, St.cells, BW]
      repeat' first | exact FrzL.nil | exact FrzR.nil | exact Qg rfl | exact FrzL.same (Ex.ak _) | exact FrzL.same (St.ak _) | refine FrzL.cons ?_ ?_ | refine FrzR.cons ?_ ?_ | refine FrzR.sl ?_
    · simp only [Cj, St.ok, Cu]; exact ⟨⟨ZD, ⟨g3, trivial⟩, trivial, trivial⟩, trivial⟩
    · simp only [Q9, St.size, BZ]; omega
  intro dd;refine Qa ?_;simp only [go_sem];refine Wv ?_ ?_
  ·
    intro hc;refine Qa ?_;simp only [go_sem];refine Gy 3 ZB (kn.e 0 rfl) (kn.e 1 rfl) bd (dD.mono ZB) (kf.keep kn rfl rfl) ZB λx H4 k4 g1 g2 hu g3 g4 => ?_;have kn := kn.au 0 rfl hu (R.ao _);simp only [go_sem, Quf, x.aG];refine OQ (x := x) (kn.e 0 rfl) (kn.e 1 rfl) bd (dD.mono ZB) ZB λname H5 k5 g5 g6 hu => ?_;have kn := kn.callEE 0 1 rfl rfl ZO hu (R.ao _) (GS.ao _ _);simp only [go_sem, Que, St.az];refine Ql ?_;simp only [go_sem, Q4, BE, BG, Ja, forall_eq, RS.op];have h0 := dD.n0;have h1 := dD.n1;have h2 := dD.l0;have h3 := dD.v;refine fin [St.mk 1 name [x] [] []] _ _ H5 k5 _ ZB ZB kn ?_ ⟨?_, ?_, ?_, dD.l1, ?_, dD.f, dD.fn⟩ (by show _ <= s1.left + _; omega) rfl rfl ZD ?_ ?_
    · simp only [BO]
      repeat' first | exact FrzL.nil | exact FrzR.nil | exact Qg rfl | exact FrzL.same (Ex.ak _) | exact FrzL.same (St.ak _) | refine FrzL.cons ?_ ?_ | refine FrzR.cons ?_ ?_ | refine FrzR.sl ?_
    · show -1 <= s1.next + 1; omega
    · show s1.next + 1 <= _; omega
    · show _ <= s1.left; omega
    · show (s1.vars ++ [name]).length <= _; simp; omega
    · simp only [Cj, St.ok, Cu]; exact ⟨⟨ZD, ⟨g3, trivial⟩, trivial, trivial⟩, trivial⟩
    · simp only [Q9, St.size, BZ]; omega
  intro bH;refine Qa ?_;simp only [go_sem];refine Wv ?_ ?_
  ·
    intro hc;refine Qa ?_;simp only [go_sem];refine Gy 3 ZB (kn.e 0 rfl) (kn.e 1 rfl) bd (dD.mono ZB) (kf.keep kn rfl rfl) ZB λx H4 k4 g1 g2 hu g3 g4 => ?_;have kn := kn.au 0 rfl hu (R.ao _);simp only [go_sem, Qug, x.az];refine Ql ?_;simp only [go_sem, Q4, BE, BG, Ja, forall_eq, RS.op];refine fin [St.mk 3 [] [x] [] []] _ s1 H4 k4 _ ZB ZB kn ?_ (dD.mono ZB) ZB rfl rfl ZD ?_ ?_
    · simp only [BO, St.cells, BW]
      repeat' first | exact FrzL.nil | exact FrzR.nil | exact Qg rfl | exact FrzL.same (Ex.ak _) | exact FrzL.same (St.ak _) | refine FrzL.cons ?_ ?_ | refine FrzR.cons ?_ ?_ | refine FrzR.sl ?_
    · simp only [Cj, St.ok, Cu]; exact ⟨⟨ZD, ⟨g3, trivial⟩, trivial, trivial⟩, trivial⟩
    · simp only [Q9, St.size, BZ]; omega
  intro aD;have lu : 2 <= deep := by
    cases h : decide (v < 7) with
    | true => rw [h] at aD; simp at aD
    | false => rw [h] at aD; simp at aD; omega
  obtain ⟨d', Bd⟩ : ∃ d', d = d' + 1 := ⟨d - 1, by omega⟩;have BB : DA d' := hB d' Bd;have hL0 : Ht d' := Qb2h BB;have sH := BB;have B5 := hL0;simp only [DA, Ht] at sH B5;have vP := he' d' Bd;have sf : d' < 10^d' := Jy ZB;generalize 10^d' = e1 at *;refine Qa ?_;simp only [go_sem];refine Wv ?_ ?_
  ·
    intro hc;refine Qa ?_;simp only [go_sem];refine Q72 (kn.e 0 rfl) (kn.e 1 rfl) bd (dD.mono ZB) (kf.keep kn rfl rfl) ZB λx H4 k4 g1 g2 hu g3 g4 => ?_;have kn := kn.au 0 rfl hu (R.ao _);simp only [go_sem, Qui];refine Gy 2 ZB (kn.e 0 rfl) (kn.e 1 rfl) bd (dD.mono ZB) (kf.keep kn rfl rfl) ZB λy H5 k5 g5 g6 hu g7 g8 => ?_;have kn := kn.au 0 rfl hu (R.ao _);simp only [go_sem, Quh, x.az, y.az];refine Ql ?_;simp only [go_sem, Q4, BE, BG, Ja, forall_eq, RS.op];refine fin [St.mk 4 [] [x, y] [] []] _ s1 H5 k5 _ ZB ZB kn ?_ (dD.mono ZB) ZB rfl rfl ZD ?_ ?_
    · simp only [BO, St.cells, BW]
      repeat' first | exact FrzL.nil | exact FrzR.nil | exact Qg rfl | exact FrzL.same (Ex.ak _) | exact FrzL.same (St.ak _) | refine FrzL.cons ?_ ?_ | refine FrzR.cons ?_ ?_ | refine FrzR.sl ?_
    · simp only [Cj, St.ok, Cu]; exact ⟨⟨ZD, ⟨g3, g7, trivial⟩, trivial, trivial⟩, trivial⟩
    · simp only [Q9, St.size, BZ]; omega
  intro bA;refine Qa ?_;simp only [go_sem];refine Wv ?_ ?_
  ·
    intro hc;refine Qa ?_;simp only [go_sem];refine Q72 (kn.e 0 rfl) (kn.e 1 rfl) bd (dD.mono ZB) (kf.keep kn rfl rfl) ZB λx H4 k4 g1 g2 hu g3 g4 => ?_;have kn := kn.au 0 rfl hu (R.ao _);simp only [go_sem, Quj, x.az];refine Ql ?_;simp only [go_sem, Q4, BE, BG, Ja, forall_eq, RS.op];refine fin [St.mk 3 [] [Ex.mk 12 0 [] [x]] [] []] _ s1 H4 k4 _ ZB ZB kn ?_ (dD.mono ZB) ZB rfl rfl ZD ?_ ?_
    · rw [BO, BO, St.cells, BW, BW, Ex.aG (Ex.mk 12 0 [] _)];simp only [BO, BW, Ex.kids, Ex.op, Ex.n, Ex.name]
      repeat' first | exact FrzL.nil | exact FrzR.nil | exact Qg rfl | exact FrzL.same (Ex.ak _) | exact FrzL.same (St.ak _) | refine FrzL.cons ?_ ?_ | refine FrzR.cons ?_ ?_ | refine FrzR.sl ?_
    · simp only [Cj, St.ok, Cu, Ex.ok]; exact ⟨⟨ZD, ⟨⟨λh => by simp at h, g3, trivial⟩, trivial⟩, trivial, trivial⟩, trivial⟩
    · simp only [Q9, St.size, BZ, Ex.size]; omega
  intro ef;refine Qa ?_;simp only [go_sem];refine Wv ?_ ?_
  ·
    intro hc;refine Qa ?_;simp only [go_sem];refine Gy 3 ZB (kn.e 0 rfl) (kn.e 1 rfl) bd (dD.mono ZB) (kf.keep kn rfl rfl) ZB λx H4 k4 g1 g2 hu g3 g4 => ?_;have kn := kn.au 0 rfl hu (R.ao _);simp only [go_sem, Qoa, x.az];refine ⟨Qs, ?_⟩;refine sH _ _ _ _ _ _ (deep - 1) ZB (kn.e 0 rfl) (kn.e 1 rfl) bd (dD.mono ZB) (kf.keep kn rfl rfl) ZB λb1 c1 L1 s2 H5 k5 g5 g6 hu eO eL eZ glf g7 g8 g9 g10 g11 => ?_;have kn0 := kn;have kn := kn.callEE 0 1 rfl rfl ZO hu (R.ao _) (GS.ao _ _);have kn := kn0.addGr kn rfl rfl eO eL;have uJ := eO.ai;simp only [go_sem, Qn9];intro x6 be H6 h6;have kn := kn.al be h6;have kn := kn.perm (L' := [(x6, _)] ++ L1) Ji;have lE := kn.l 0 rfl;simp only [go_sem, Quk, lE];intro H7 h7;have kn : Kn H H7 [(R.l, R.o k5), (gl, s2.o R)] ([(x6, _)] ++ L1) := kn.aB 0 rfl h7;have vg := kn.e 1 rfl;refine Q1 (Qa ?_);simp only [go_sem, vg, GS.o];refine Cg (kn.e 0 rfl) ZB λv2 H8 jS hu => ?_;have kn : Kn H H8 [(R.l, R.o (k5 + 1)), (gl, s2.o R)] ([(x6, _)] ++ L1) := kn.au 0 rfl hu (R.ao _);simp only [go_sem, Qob];have rest : ∀ (E1 : Env) (hE : lk 6 E1 = V.c (C.ptr x6 0)) (c2 : C) (b2 : List St) (L2 : List (Nat × Obj)) (s3 : GS) (H9 : Heap) (k6 : Nat), k5 + 1 <= k6 -> k6 <= k5 + 1 + 2001 * e1 -> Gr L2 5 (BO b2) c2 ->
        Kn H H9 [(R.l, R.o k6), (gl, s3.o R)] ([(x6, .st [Ui 5, .str [], .sl true 4 [x.cells], c1, c2])] ++ L1 ++ L2) -> s3.ok k6 -> s2.left + 4 * ((k5 + 1 : Nat) : Int) <= s3.left + 4 * (k6 : Int) -> s3.fns = s2.fns -> s3.ffl = s2.ffl -> Cj b2 -> 4 * (k5 + 1) + Q9 b2 <= 4 * k6 ->
        BI prog Qt9 (X.inBlock 0 (X.sq prog Vs (Q4 BG (unK H K)))) E1 H9 := by
      intro E1 hE c2 b2 L2 s3 H9 k6 e1 e2 cZ kn e3 e4 e5 e6 e7 e8;have lD := kn.l 0 rfl;have uI := cZ.ai;refine Qa ?_;simp only [go_sem, hE, lD, uJ, uI];refine Ql ?_;simp only [go_sem, Q4, BE, BG, Ja, forall_eq, RS.op];refine fin [St.mk 5 [] [x] b1 b2] _ s3 H9 k6 _ ZB ZB kn ?_ e3 ZB (e5.trans g7) (e6.trans g8) ZD ?_ ?_
      · simp only [BO, St.cells, BW]
        repeat' first | exact FrzL.nil | exact FrzR.nil | exact Qg rfl | exact FrzL.same (Ex.ak _) | exact FrzL.same (St.ak _) | refine FrzL.cons ?_ ?_ | refine FrzR.cons ?_ ?_ | refine FrzR.sl ?_
        · exact eO.frz (kn.perm Mg) (Iy _)
        · exact cZ.frz kn (Iy _)
      · simp only [Cj, St.ok, Cu]; exact ⟨⟨ZD, ⟨g3, trivial⟩, g10, e7⟩, trivial⟩
      · simp only [Q9, St.size, BZ]; omega
    refine Wu ?_ ?_
    · intro cn;refine Qp ?_;simp only [go_sem];refine ⟨Qs, ?_⟩;refine sH _ _ _ _ _ _ (deep - 1) ZB (kn.e 0 rfl) (kn.e 1 rfl) bd (eZ.mono ZB) (kf.keep kn g7 g8) ZB λb2 c2 L2 s3 H9 k6 q1 q2 hu cZ eL kX q3 q4 q5 q6 q7 q8 => ?_;have kn0 := kn;have kn := kn.callEE 0 1 rfl rfl ZO hu (R.ao _) (GS.ao _ _);have kn := kn0.addGr kn rfl rfl cZ eL;have lD := kn.l 0 rfl;simp only [go_sem, Qoc, lD];intro H10 db;have kn : Kn H H10 [(R.l, R.o k6), (gl, s3.o R)] ([(x6, _)] ++ L1 ++ L2) := kn.aB 0 rfl db;exact rest _ (by simp [lk]) c2 b2 L2 s3 H10 k6 ZB ZB cZ kn kX ZB q4 q5 q7 ZB
    · intro cn;refine Qi ?_;simp only [go_sem];exact rest _ (by simp [lk]) _ [] [] s2 H8 (k5 + 1) ZB ZB (.nil 5) (by rw [List.append_nil]; exact kn) (eZ.mono ZB) ZB rfl rfl trivial (by simp only [Q9]; omega)
  · intro jh;refine Qa ?_;simp only [go_sem, f8, GS.o];have rest : ∀ (b : Bool) (H3 : Heap) (k3 : Nat), k + 1 <= k3 -> k3 <= k + 2 -> Kn H H3 [(R.l, R.o k3), (gl, s1.o R)] [] ->
        BI prog Qua (X.inBlock 0 (X.sq prog Vs (Q4 BG (unK H K))))
         [(0, V.c (C.ptr gl 0)), (1, Uv deep), (109, .c (.bool b))] H3 := by
      intro b H3 k3 e3 e4 kn;refine Wv ?_ ?_
      · intro hb;refine Qa ?_;simp only [go_sem];refine Gy 2 ZB (kn.e 0 rfl) (kn.e 1 rfl) bd (dD.mono ZB) (kf.keep kn rfl rfl) ZB λx H4 k4 g1 g2 hu g3 g4 => ?_;have kn := kn.au 0 rfl hu (R.ao _);simp only [go_sem, Qod, x.az];refine Ql ?_;simp only [go_sem, Q4, BE, BG, Ja, forall_eq, RS.op];refine fin [St.mk 7 [] [x] [] []] _ s1 H4 k4 _ ZB ZB kn ?_ (dD.mono ZB) ZB rfl rfl ZD ?_ ?_
        · simp only [BO, St.cells, BW]
          repeat' first | exact FrzL.nil | exact FrzR.nil | exact Qg rfl | exact FrzL.same (Ex.ak _) | exact FrzL.same (St.ak _) | refine FrzL.cons ?_ ?_ | refine FrzR.cons ?_ ?_ | refine FrzR.sl ?_
        · simp only [Cj, St.ok, Cu]; exact ⟨⟨ZD, ⟨g3, trivial⟩, trivial, trivial⟩, trivial⟩
        · simp only [Q9, St.size, BZ]; omega
      · intro hb;refine Qi ?_;simp only [go_sem];refine Qa ?_;simp only [go_sem];refine B5 _ _ _ _ _ _ deep ZB lu (kn.e 0 rfl) (kn.e 1 rfl) bd (dD.mono ZB) (kf.keep kn rfl rfl) ZB λl s2 H4 k4 g1 g2 hu g3 g4 g5 g6 g7 g8 g9 => ?_;have kn := kn.callEE 0 1 rfl rfl ZO hu (R.ao _) (GS.ao _ _);simp only [go_sem, Qoe];refine Ql ?_;simp only [go_sem, Q4, BE, BG, Ja, forall_eq, RS.op];exact fin l _ s2 H4 k4 _ ZB ZB kn (Qg rfl) g3 ZB g5 g6 g7 g8 ZB
    refine ⟨λhb => ?_, λhb => ?_⟩
    · refine Cg (kn.e 0 rfl) ZB λv2 H3 jS hu => ?_;have kn := kn.au 0 rfl hu (R.ao _);simp only [go_sem, Vz];exact rest _ H3 (k + 1 + 1) ZB ZB kn
    · simp only [go_sem, Vz, hb];exact rest _ H2 (k + 1) ZB ZB kn
theorem Qb08 (d:Nat):DA d:=by
 induction d with
 |zero=>exact LL (Kk (λd' h=>absurd h ZB))
 |succ d ih=>exact LL (Kk (λd' h=>by
   have:d'=d:=ZB
   rw[this];exact ih))
theorem MP {R:Rdr}{gl k:Nat}{s:GS}{name:List UInt8}{params:Int}{H:Heap}{K:Uk}(iW:0<=params)(hp3:params<=3)(hR:H R.l=R.o k)(hG:H gl=s.o R)(bd:R.l≠gl)(hs:s.ok k)(hF:FnsOk H R gl s)(hk:k+2001300<=2^30)
  (hK:∀(f:Fn) (s':GS) (H':Heap) (k':Nat),k<k'->k'<=k+2001300->Upd H H' [(R.l,R.o k'),(gl,s'.o R)]->s'.ok k'->s'.fns=s.fns->s'.ffl=s.ffl->f.params.length<=3->Cj f.body->4 * k+Q9 f.body<=4 * k'->K (.ag f.cells) H') :
  Qr prog Tu [Up gl,.c (.str name),Uv params] H K:=by
 obtain⟨np,rfl⟩:=Jo iW;refine Qy ?_;refine Qd BF Qbl9 ?_;refine Za ?_;intro x6 be H1 h1;have kn:=(Kn.start2 hR (R.ao k) hG (s.ao R) bd).al be h1;have jp:=kn.e 1 rfl;refine Qa ?_;have etk:List.take np [[C.str [97]],[C.str [98]],[C.str [99]]]=Cn (List.take np [[97],[98],[99]]):=by simp[Cn,List.map_take]
 simp only[go_sem,jp,GS.o,etk];refine⟨⟨ZB,ZB⟩,λH2 h2=>?_⟩;have kn:Kn H H2 [(R.l,R.o k),(gl,GS.o { s with vars:=List.take np [[97],[98],[99]],vfl:=false } R)] [(x6,_)]:=kn.stE 1 rfl h2;have f8:=kn.e 1 rfl;refine Qa ?_;simp only[go_sem,f8,GS.o];refine⟨Qs,λH3 h3=>?_⟩;have kn:Kn H H3 [(R.l,R.o k),(gl,GS.o { s with vars:=List.take np [[97],[98],[99]],vfl:=false,next:=(np:Int)-1 } R)] [(x6,_)]:=kn.stE 1 rfl h3;have dD:GS.ok { s with vars:=List.take np [[97],[98],[99]],vfl:=false,next:=(np:Int)-1 } k:=
  ⟨by show -1<=(np:Int)-1;omega,by show (np:Int)-1<=_;omega,hs.l0,hs.l1,by show (List.take np _).length<=_;simp;omega,hs.f,hs.fn⟩
 have bN:(List.take np [[97],[98],[99]]:List (List UInt8)).length<=3:=ZG
 have gM:GS.fns { s with vars:=List.take np [[97],[98],[99]],vfl:=false,next:=(np:Int)-1 }=s.fns:=rfl;have oz:GS.ffl { s with vars:=List.take np [[97],[98],[99]],vfl:=false,next:=(np:Int)-1 }=s.ffl:=rfl;have jR:GS.vars { s with vars:=List.take np [[97],[98],[99]],vfl:=false,next:=(np:Int)-1 }=List.take np [[97],[98],[99]]:=rfl;rw[<-jR]at bN;have kf:FnsOk H R gl { s with vars:=List.take np [[97],[98],[99]],vfl:=false,next:=(np:Int)-1 }:=⟨hF.1,hF.2⟩;generalize ({ s with vars:=List.take np [[97],[98],[99]],vfl:=false,next:=(np:Int)-1 }:GS)=s1 at *;have pI:=kn.e 1 rfl;refine Qa ?_;have hL:s1.vars.length<=LIM:=ZU
 simp only[go_sem,pI,GS.o,CR,Jg,Jq,hL];refine⟨.inl trivial,Sr _,λy hy H4 h4=>?_⟩;have kn:=kn.al hy h4;simp only[go_sem,Q4h];intro x7 cd H5 h5;have kn:=kn.al cd h5;have pV:=kn.l 2 rfl;simp only[go_sem,Q4g,pV];intro H6 h6;have kn:Kn H H6 [(R.l,R.o k),(gl,s1.o R)] [(x6,_),(y,_),(x7,_)]:=kn.aB 2 rfl h6;refine Za ?_;refine Qb08 3 _ _ _ _ _ _ 3 ZB (kn.e 0 rfl) (kn.e 1 rfl) bd dD (kf.keep kn rfl rfl) ZB λl c Lg s2 H7 k2 g1 g2 hu aq eL eZ glf g3 g4 g5 g6 g7=>?_;have kn0:=kn;have kn:=kn.callEE 0 1 rfl rfl ZO hu (R.ao _) (GS.ao _ _);have kn:=kn0.addGr kn rfl rfl aq eL;have pS:=kn.l 2 rfl;simp only[go_sem,Q4i,pS];intro H8 h8;have kn:Kn H H8 [(R.l,R.o k2),(gl,s2.o R)] ([(x6,.st [.str [],.sl true 1 [],.sl true 5 []]),(y,.vec 1 (Cn s1.vars)),(x7,.st [.str name,.ah y 1 0 s1.vars.length,c])]++Lg):=kn.aB 2 rfl h8;have Ai:=kn.e 1 rfl;refine Q1 (Qa ?_);simp only[go_sem,Ai,GS.o];have bG:=aq.ai;have rest:∀(E1:Env) (B9:lk 6 E1=V.c (C.ptr x6 0)) (B8:lk 7 E1=V.c (C.ptr x7 0)) (l2:List St) (c2:C) (rws:List (List C)) (L2:Ul) (s3:GS) (H9:Heap) (k3:Nat),k<k3->k3<=k+2001300->
   Kn H H9 [(R.l,R.o k3),(gl,s3.o R)] ([(x6,.st [.str [],.sl true 1 [],.sl true 5 []]),(y,.vec 1 (Cn s1.vars)),(x7,.st [.str name,.ah y 1 0 s1.vars.length,c2])]++L2)->Gr L2 5 rws c2->(∀H',FrzR H' (un H) rws (BO l2))->
   s3.ok k3->s3.fns=s1.fns->s3.ffl=s1.ffl->Cj l2->4 * k+Q9 l2<=4 * k3->BI prog TB (Q4 Sh (unK H K)) E1 H9:=by
  intro E1 B9 B8 l2 c2 rws L2 s3 H9 k3 e1 e2 kn cZ fG e3 e4 e5 e6 e7;have lD:=kn.l 0 rfl;have wx:=kn.l 2 rfl;have bG:=cZ.ai;refine Qa ?_;simp only[go_sem,B9,B8,lD,wx,bG];intro H10 db;have kn:=kn.aB 0 rfl db;have lC:=kn.l 0 rfl;have gV:=kn.l 1 rfl;refine Zr lC bG ?_;refine⟨(.ag (Fn.mk name s1.vars l2).cells),?_,hK _ s3 _ k3 e1 e2 kn.fin e3 (e4.trans gM) (e5.trans oz) bN e6 e7⟩;refine FrzL.ag (.cons (Qg rfl) (.cons ?_ (.cons ?_ .nil)))
  ·exact HF (kn.un 1 rfl) gV (by simp[Cn]) (noOw_mem (Sr _))
  ·exact cZ.frzR (B:=[_,_,_]) kn (fG _)
 have tl:∀(b:Bool) (H9:Heap) (k3:Nat),k2<=k3->k3<=k2+1->(b=true->0<s2.left)->Kn H H9 [(R.l,R.o k3),(gl,s2.o R)] ([(x6,.st [.str [],.sl true 1 [],.sl true 5 []]),(y,.vec 1 (Cn s1.vars)),(x7,.st [.str name,.ah y 1 0 s1.vars.length,c])]++Lg)->
   BI prog (s_l3Gen_fn_7.seq TB) (Q4 Sh (unK H K)) [(0,V.c (C.ptr gl 0)),(6,V.c (C.ptr x6 0)),(7,V.c (C.ptr x7 0)),(42,.c (.bool b))] H9:=by
  intro b H9 k3 e1 e2 hb kn;have Ah:=kn.e 1 rfl;refine Wu ?_ ?_
  ·intro hc;have AN:=hb hc;have qV:=eZ.l1;refine Qa ?_;simp only[go_sem,Ah,GS.o];refine⟨Qs,λH10 db=>?_⟩;have kn:Kn H H10 [(R.l,R.o k3),(gl,GS.o { s2 with left:=s2.left-1 } R)] ([(x6,_),(y,_),(x7,_)]++Lg):=kn.stE 1 rfl db;have kX:GS.ok { s2 with left:=s2.left-1 } k3:=⟨eZ.n0,by have:=eZ.n1;show s2.next<=_;omega,by show _<=s2.left-1;omega,by show s2.left-1<=100;omega,by have:=eZ.v;show s2.vars.length<=_;omega,eZ.f,eZ.fn⟩;have pR:=kn.l 2 rfl;refine BY ?_;simp only[go_sem,pR,bG];refine Gy 2 ZB (kn.e 0 rfl) (kn.e 1 rfl) bd kX (kf.keep kn g3 g4) ZB λx H11 k4 q1 q2 hu q3 q4=>?_;have kn:=kn.au 0 rfl hu (R.ao _);have nB:=kn.l 2 rfl;simp only[go_sem,Q4k,nB,bG,x.az];refine kn.grow (B:=[_,_,_]) aq (.mk' _ _ _ _) (by intro r hr;simp only[Ja]at hr;subst hr;rfl) (by simp only[Di,LIM,Jk,Jn];omega) λy' H12 kn=>?_;have ww:=kn.l 2 rfl;simp only[go_sem,Q4j,ww];intro H13 mZ;have kn:=kn.aB 2 rfl mZ;refine rest _ ZC ZC (l++[St.mk 7 [] [x] [] []]) _ _ _ _ H13 k4 ZB ZB kn (.mk _ _ _ (by simp[Di])) (λH'=>?_) (kX.mono ZB) g3 g4 (HL g6 ?_) ?_
   ·rw[<-HM];refine .app (.same (Iy _)) ?_;simp only[BO,St.cells,BW]
    repeat' first|exact FrzL.nil|exact FrzR.nil|exact Qg rfl|exact FrzL.same (Ex.ak _)|exact FrzL.same (St.ak _)|refine FrzL.cons ?_ ?_|refine FrzR.cons ?_ ?_|refine FrzR.sl ?_
   ·simp only[Cj,St.ok,Cu];exact⟨⟨ZD,⟨q3,trivial⟩,trivial,trivial⟩,trivial⟩
   ·simp only[IV,Q9,St.size,BZ];omega
  ·intro hc;refine Zd ?_;exact rest _ ZC ZC l c _ Lg s2 H9 k3 ZB ZB kn aq (λH'=>.same (Iy _)) (eZ.mono ZB) g3 g4 g6 ZB
 refine⟨λhb=>?_,λhb=>?_⟩
 ·refine Cg (kn.e 0 rfl) ZB λv H9 hv hu=>?_;have kn:=kn.au 0 rfl hu (R.ao _);simp only[go_sem,TJ,hb];exact tl _ H9 (k2+1) ZB ZB (λ_=>Zaa) kn
 ·simp only[go_sem,TJ,hb];exact tl false H8 k2 ZB ZB (λh=>ZI) kn
variable {H:Heap}{K:Uk}
theorem TH {l:List Ex}{i:Nat}(h:i<l.length):BZ (l.take (i+1))=BZ (l.take i)+(l[i]'h).size:=by
 rw[Jj h,Tz];simp[BZ]
theorem T5 {l:List St}{i:Nat}(h:i<l.length):Q9 (l.take (i+1))=Q9 (l.take i)+(l[i]'h).size:=by
 rw[Jj h,IV];simp[Q9]
theorem Vy (l:List Ex)(i:Nat):BZ (l.take i)<=BZ l:=by
 conv=>rhs;rw[<-Jw i l,Tz]
 omega
theorem Vi (l:List St)(i:Nat):Q9 (l.take i)<=Q9 l:=by
 conv=>rhs;rw[<-Jw i l,IV]
 omega
theorem St.size_pos (x:St):1<=x.size:=by rw[x.size_eq];omega
theorem NE (l:List St):l.length<=Q9 l:=by
 induction l with
 |nil=>simp
 |cons x r ih=>simp only[Jk,Q9];have:=x.size_pos;omega
theorem Qbq6:∀(n:Nat) (x:Ex) {H:Heap} {K:Uk},x.size<=n->x.size<=2^40->K (.c (Ui x.size)) H->Qr prog Sj [.ag x.cells] H K:=by
 intro n
 induction n with
 |zero=>intro x _ _ h;have:=x.size_pos;omega
 |succ n ih=>
 intro x H K hn hb hK;have bp:=x.size_kids;refine Qd BF Qbrx ?_;refine Zx ?_;refine Wj ?_;refine Qh (Qe (Qw (λn e1 H1=>∃i:Nat,n=x.kids.length-i/\i<=x.kids.length/\H1=H/\e1=[(1,.c (.pp [Ui x.op,Ui x.n,.str x.name,.sl false 4 (BW x.kids)])),(3,.c (Ui ((1+BZ (x.kids.take i):Nat):Int))),(4,Uv i)]) x.kids.length ?_ ?_))
 ·exact⟨0,ZB,ZB,rfl,by simp[BZ]⟩
 ·rintro n e1 H1 ⟨i,hn,hi,rfl,rfl⟩;refine Q1 (Qa ?_);simp only[go_sem,Da];intro hl;simp only[LIM]at hl;refine Wu ?_ ?_
  ·intro hc;have af:i<x.kids.length:=ZE
   have hm:=I3 (Jb af);have bF:=TH af;have nI:=Vy x.kids (i+1);refine Zd ?_;refine Qh (Qe (Qp ?_));simp only[go_sem,af,Da,GD _ _ af,Ex.cD,Ex.bv,Ex.az];refine ih _ ZB ZB ?_;simp only[go_sem,Q97];refine⟨Qs,?_⟩;refine Zg ?_;refine⟨Qs,x.kids.length-(i+1),ZB,i+1,rfl,ZB,?_⟩;rw[bF];simp;omega
  ·intro hc;have bh:x.kids.length<=i:=ZE
   refine Wb ?_;refine Ze ?_;rw[Jd bh,<-bp];exact hK
theorem YD:∀(n:Nat) (x:Ex) {H:Heap} {K:Uk} (deep:Int),x.size<=n->deep<=100->(∀b:Bool,K (.c (.bool b)) H)->Qr prog Tp [.ag x.cells,Uv deep] H K:=by
 intro n
 induction n with
 |zero=>intro x _ _ _ h;have:=x.size_pos;omega
 |succ n ih=>
 intro x H K deep hn hd hK;have bp:=x.size_kids;refine Qd BF Yu ?_;refine Zx ?_;refine Za ?_;refine YC λlo hi=>?_;simp only[go_sem,OA,Jx,J6];refine Wa ?_;have retf:∀(b:Bool) (e:Env),lk 4 e=.c (.bool b)->Q4 BG K .ret e H:=by
  intro b e h1;simp only[go_sem,Q4,BE,Ja,forall_eq,RS.op,h1];exact hK _
 have rest:∀b:Bool,(b=false->1<=deep)->BI prog (s_l2Form_3.seq OB) (Q4 BG K)
   [(1,Uv deep),(2,.c (.pp [Ui x.op,Ui x.n,.str x.name,.sl false 4 (BW x.kids)])),(31,.c (.bool b))] H:=by
  intro b hb;refine Wu ?_ ?_
  ·intro hc;refine We ?_;exact retf false _ ZC
  intro hc;have lu:=hb hc;refine Zd ?_;refine Wj ?_;refine Ga λb1=>?_;simp only[go_sem,O9];have rest2:∀b:Bool,BI prog (s_l2Form_6.seq OC) (Q4 BG K)
    [(1,Uv deep),(2,.c (.pp [Ui x.op,Ui x.n,.str x.name,.sl false 4 (BW x.kids)])),(69,.c (.bool b))] H:=by
   intro b;refine Wu ?_ ?_
   ·intro hc;refine We ?_;exact retf false _ ZC
   intro hc;refine Zd ?_;refine Wa ?_;refine Qh (Qe (Qw (λn e1 H1=>∃i:Nat,n=x.kids.length-i/\i<=x.kids.length/\H1=H/\e1=[(1,Uv deep),(2,.c (.pp [Ui x.op,Ui x.n,.str x.name,.sl false 4 (BW x.kids)])),(8,Uv i)]) x.kids.length ?_ ?_))
   ·exact⟨0,ZB,ZB,rfl,rfl⟩
   ·rintro n e1 H1 ⟨i,hn,hi,rfl,rfl⟩;refine Q1 (Qa ?_);simp only[go_sem,Da];intro hl;simp only[LIM]at hl;refine Wu ?_ ?_
    ·intro hc;have af:i<x.kids.length:=ZE;have hm:=I3 (Jb af);refine Wm ?_;simp only[go_sem,af,Da,GD _ _ af,Ex.cD,Ex.bv,Ex.az];refine⟨Qs,?_⟩;refine ih _ (deep-1) ZB ZB λb2=>?_;simp only[go_sem,O8];refine Wv ?_ ?_
     ·intro aD;refine Wn ?_;exact retf false _ ZC
     ·intro aD;refine Wk ?_;exact⟨Qs,x.kids.length-(i+1),ZB,i+1,rfl,ZB,rfl⟩
    ·intro hc;refine Wb ?_;refine Ql ?_;exact retf true _ ZC
  refine⟨λba=>?_,λba=>?_⟩
  ·refine CG ?_;simp only[go_sem,Q0y];exact rest2 _
  ·replace ba:=Ct ba;simp only[go_sem,Q0y,ba];exact rest2 _
 refine⟨λba=>?_,λba=>?_⟩
 ·replace ba:=Dd ba;have lu:1<=deep:=by simp at ba;omega
  refine CG ?_;simp only[go_sem,Q0x,ba,Da,cond_false];intro hl;refine⟨λcp=>?_,λcp=>?_⟩
  ·refine CG ?_;simp only[go_sem,Ss];exact rest _ (λ_=>lu)
  ·replace cp:=Ct cp;simp only[go_sem,Ss,cp];exact rest _ (λ_=>lu)
 ·replace ba:=Ct ba;simp only[go_sem,Q0x,Ss,ba,Da,cond_true];exact rest _ (λh=>ZI)
theorem Qbav {x:Ex}(hx:x.size<=2^40)(hK:∀b:Bool,K (.c (.bool b)) H):Qr prog Vq [.ag x.cells] H K:=by
 refine Qd BF Qanr ?_;refine Qa ?_;simp only[go_sem,Ex.ne_nil];refine Qa ?_;simp only[go_sem,Ex.cD,Ex.bv,Ex.az];refine YD x.size x 6 (Je _) ZB λb=>?_;simp only[go_sem,Qlm,Ex.cD,Ex.bv,Ex.az];refine⟨λhb=>?_,λhb=>?_⟩
 ·refine Qbq6 x.size x (Je _) hx ?_;simp only[go_sem,V5];refine Ze ?_;exact hK _
 ·simp only[go_sem,V5,hb];refine Ze ?_;exact hK _
def St.raw (x:St):List C:=[.int .i64 x.op,.str x.name,.sl false 4 (BW x.args),.sl false 5 (BO x.body),.sl false 5 (BO x.els)]
theorem Qbq9:∀(n:Nat) (l:List St) {fl:Bool} {H:Heap} {K:Uk},Q9 l<=n->Q9 l<=2^40->(∀v:Nat,v<=Q9 l->K (Uv v) H)->Qr prog MZ [.c (.sl fl 5 (BO l))] H K:=by
 intro n
 induction n using Nat.strongRecOn with
 |ind n ih=>
 intro l fl H K hn hb hK;have am:=NE l;refine Qd BF Qbr0 ?_;refine Wf ?_;simp only[go_sem,Di];intro hl;refine Wa ?_;refine Qh (Qe (Qw (λn e1 H1=>∃(i v:Nat),n=l.length-i/\i<=l.length/\v<=(l.length-i)+Q9 (l.take i)/\H1=H/\e1=[(0,.c (.sl fl 5 (BO l))),(3,Uv v),(4,Uv i)]) l.length ?_ ?_))
 ·exact⟨0,l.length,ZB,ZB,ZB,rfl,rfl⟩
 ·rintro n e1 H1 ⟨i,v,cO,hi,hv,rfl,rfl⟩;refine Q1 (Qa ?_);simp only[go_sem,Di];simp only[LIM]at hl;refine λ_=>?_;refine Wu ?_ ?_
  ·intro hc;have af:i<l.length:=ZE
   have hm:=Sq (Jb af);have bF:=T5 af;have nI:=Vi l (i+1);have rZ:=(l[i]'af).size_eq;refine Wl ?_;simp only[go_sem,af,Di,GB _ _ af,St.aG];refine ih (Q9 l[i].body) ZB l[i].body (Je _) ZB λa ha=>?_;simp only[go_sem,PM,af,Di,GB _ _ af,St.aG];refine⟨Qs,?_⟩;refine ih (Q9 l[i].els) ZB l[i].els (Je _) ZB λc hc=>?_;simp only[go_sem,Q99];refine⟨Qs,?_⟩;refine Zg ?_;refine⟨Qs,l.length-(i+1),ZB,i+1,v+a+c,rfl,ZB,ZB,rfl⟩
  ·intro hc;have bh:l.length<=i:=ZE
   refine Wb ?_;refine Ze ?_;rw[Jd bh]at hv;exact hK v ZB
def Mm (n:Nat):Prop:=∀(x:St) (deep:Int) (H:Heap) (K:V->Heap->Prop),x.size<=n->x.size<=2^40->deep<=100->(∀b:Bool,K (.c (.bool b)) H)->Qr prog HS [.ag x.cells,.c (.int .i64 deep)] H K
def GR (n:Nat):Prop:=∀(l:List St) (deep:Int) (fl:Bool) (H:Heap) (K:V->Heap->Prop),Q9 l<=n->Q9 l<=2^40->deep<=100->(∀b:Bool,K (.c (.bool b)) H)->Qr prog MY [.c (.sl fl 5 (BO l)),.c (.int .i64 deep)] H K
theorem VK {n:Nat}(hS:Mm n):GR n:=by
 intro l deep fl H K hn hb hd hK;refine Qd BF Qbr1 ?_;have retf:∀(b:Bool) (e:Env),lk 4 e=.c (.bool b)->Q4 BG K .ret e H:=by
  intro b e h1;simp only[go_sem,Q4,BE,Ja,forall_eq,RS.op,h1];exact hK _
 refine Wj ?_;refine Qh (Qe (Qw (λn e1 H1=>∃(i:Nat),n=l.length-i/\i<=l.length/\H1=H/\e1=[(0,.c (.sl fl 5 (BO l))),(1,Uv deep),(5,Uv i)]) l.length ?_ ?_))
 ·exact⟨0,ZB,ZB,rfl,rfl⟩
 ·rintro n e1 H1 ⟨i,cO,hi,rfl,rfl⟩;refine Q1 (Qa ?_);simp only[go_sem,Di];intro hl;simp only[LIM]at hl;refine Wu ?_ ?_
  ·intro hc;have af:i<l.length:=ZE
   have hm:=Sq (Jb af);refine Wm ?_;simp only[go_sem,af,Di,GB _ _ af,St.take5,St.bv,St.az];refine hS _ deep _ _ ZB ZB hd λb=>?_;simp only[go_sem,PD];refine Wv ?_ ?_
   ·intro aD;refine Wn ?_;exact retf false _ ZC
   ·intro aD;refine Wk ?_;exact⟨Qs,l.length-(i+1),ZB,i+1,rfl,ZB,rfl⟩
  ·intro hc;refine Wb ?_;refine Ql ?_;exact retf true _ ZC
theorem Qb3t {n:Nat}(hS:∀m,m<n->GR m):Mm n:=by
 intro x deep H K hn hb hd hK;have bp:=x.size_eq;refine Qd BF Yp ?_;have retf:∀(b:Bool) (e:Env),lk 4 e=.c (.bool b)->Q4 BG K .ret e H:=by
  intro b e h1;simp only[go_sem,Q4,BE,Ja,forall_eq,RS.op,h1];exact hK _
 refine Zx ?_;refine Q1 (BM ?_);simp only[go_sem];have rest:∀b:Bool,(b=false->1<=deep/\x.args.length=if x.op=4 then 2 else 1)->BI prog (s_l3Stmt_2.seq Om) (Q4 BG K)
   [(1,Uv deep),(2,.c (.pp [Ui x.op,.str x.name,.sl false 4 (BW x.args),.sl false 5 (BO x.body),.sl false 5 (BO x.els)])),(23,.c (.bool b))] H:=by
  intro b hb;refine Wu ?_ ?_
  ·intro hc;refine We ?_;exact retf false _ ZC
  intro hc;obtain⟨lu,em⟩:=hb hc;have kO:0<x.args.length:=by rw[em];split <;> omega
  refine Zd ?_;refine Wj ?_;refine Ga λb1=>?_;simp only[go_sem,Ol];refine Wu ?_ ?_
  ·intro hc;refine We ?_;exact retf false _ ZC
  intro hc;refine Zd ?_;refine Wa ?_;refine Qh (Qe (Qw (λn e1 H1=>∃(i:Nat),n=x.args.length-i/\i<=x.args.length/\H1=H/\e1=[(1,Uv deep),(2,.c (.pp [Ui x.op,.str x.name,.sl false 4 (BW x.args),.sl false 5 (BO x.body),.sl false 5 (BO x.els)])),(6,Uv i)]) x.args.length ?_ ?_))
  ·exact⟨0,ZB,ZB,rfl,rfl⟩
  ·rintro n e1 H1 ⟨i,cO,hi,rfl,rfl⟩;refine Q1 (Qa ?_);simp only[go_sem,Da];intro hl;simp only[LIM]at hl;refine Wu ?_ ?_
   ·intro hc;have af:i<x.args.length:=ZE;have hm:=I3 (Jb af);refine Wm ?_;simp only[go_sem,af,Da,GD _ _ af,Ex.cD,Ex.bv,Ex.az];refine Qbav ZB λb=>?_;simp only[go_sem,Ok];refine Wv ?_ ?_
    ·intro aD;refine Wn ?_;exact retf false _ ZC
    ·intro aD;refine Wk ?_;exact⟨Qs,x.args.length-(i+1),ZB,i+1,rfl,ZB,rfl⟩
   ·intro hc;refine Zb ?_;refine Q1 (Qa ?_);simp only[go_sem,kO,Da,GD _ _ kO,Ex.aG];refine⟨λ_=>Int.le_refl _,?_⟩;refine Wu ?_ ?_
    ·intro hc;refine We ?_;exact retf false _ ZC
    intro hc;refine Zd ?_;refine Q1 (Qa ?_);simp only[go_sem,Di]
    intros
    refine Wu ?_ ?_
    ·intro hc;refine We ?_;exact retf false _ ZC
    intro hc;refine Zd ?_;refine Za ?_;refine⟨Qs,?_⟩;refine hS (Q9 x.body) ZB _ _ _ _ _ (Je _) ZB ZB λb1=>?_;simp only[go_sem,PE];refine⟨λ_=>Qs,?_⟩;refine⟨λba=>?_,λba=>?_⟩
    ·refine hS (Q9 x.els) ZB _ _ _ _ _ (Je _) ZB ZB λb2=>?_;simp only[go_sem,T6];refine Ql ?_;exact retf _ _ ZJ
    ·simp only[go_sem,T6,ba];refine Ql ?_;exact retf false _ ZC
 refine⟨λba=>?_,λba=>?_⟩
 ·replace ba:=Dd ba;have lu:1<=deep:=by simp at ba;omega
  refine CG ?_;simp only[go_sem,Q00,ba,Da,cond_false];refine⟨λcp=>?_,λcp=>?_⟩
  ·refine YA ?_;simp only[go_sem,Sv,Da];refine rest _ (λh=>⟨lu,?_⟩);have h1:(x.args.length:Int)=if x.op=4 then 2 else 1:=by
    cases h2:decide (1<=x.op/\x.op<=8) <;> rw[h2]at h <;> simp_all
   by_cases h4:x.op=4
   ·rw[if_pos h4]at h1⊢;omega
   ·rw[if_neg h4]at h1⊢;omega
  ·replace cp:=Ct cp;simp only[go_sem,Sv,cp,Da];exact rest _ (λh=>ZI)
 ·replace ba:=Ct ba;simp only[go_sem,Q00,Sv,ba,Da,cond_true];exact rest _ (λh=>ZI)
theorem Qb3u (n:Nat):GR n:=by
 induction n using Nat.strongRecOn with
 |ind n ih=>exact VK (Qb3t ih)
theorem Qb41 {f:Fn}(hf:Q9 f.body<=2^40)(hK:∀b:Bool,K (.c (.bool b)) H):Qr prog K8 [.ag f.cells] H K:=by
 refine Qd BF Qb46 ?_;have retf:∀(b:Bool) (e:Env),lk 2 e=.c (.bool b)->Q4 BH K .ret e H:=by
  intro b e h1;simp only[go_sem,Q4,BE,Ja,forall_eq,RS.op,h1];exact hK _
 refine Qa ?_;simp only[go_sem,Fn.cells];refine Wa ?_;refine Qh (Qe (Qw (λn e1 H1=>∃(i:Nat),n=f.params.length-i/\i<=f.params.length/\H1=H/\e1=[(1,.c (.pp [.str f.name,.sl false 1 (Cn f.params),.sl false 5 (BO f.body)])),(3,Uv i)]) f.params.length ?_ ?_))
 ·exact⟨0,ZB,ZB,rfl,rfl⟩
 ·rintro n e1 H1 ⟨i,cO,hi,rfl,rfl⟩;refine Q1 (Qa ?_);simp only[go_sem,CR];intro hl;simp only[LIM]at hl;refine Wu ?_ ?_
  ·intro hc;have af:i<f.params.length:=ZE
   refine Wm ?_;simp only[go_sem,af,CR,IW _ _ af];refine Ga λb=>?_;simp only[go_sem,Rj];refine Wv ?_ ?_
   ·intro aD;refine Wn ?_;exact retf false _ ZC
   ·intro aD;refine Wk ?_;exact⟨Qs,f.params.length-(i+1),ZB,i+1,rfl,ZB,rfl⟩
  ·intro hc;refine Wb ?_;refine Ga λb=>?_;simp only[go_sem,Ri,CR]
   intros
   refine⟨λba=>?_,λba=>?_⟩
   ·refine Qb3u _ _ _ _ _ _ (Je _) hf ZB λb2=>?_;simp only[go_sem,HO];refine Ql ?_;exact retf _ _ ZJ
   ·simp only[go_sem,HO,ba];refine Ql ?_;exact retf false _ ZC
def CB:List Fn->Nat
 |[]=>0
 |f::r=>Q9 f.body+CB r
theorem TE {l:List Fn}{f:Fn}(h:f∈l):Q9 f.body<=CB l:=by
 induction l with
 |nil=>simp at h
 |cons g r ih=>
  simp only[CB];rcases List.mem_cons.1 h with rfl|h
  ·omega
  ·have:=ih h;omega
theorem Sz (a b:List Fn):CB (a++b)=CB a+CB b:=by
 induction a with
 |nil=>simp[CB]
 |cons x r ih=>simp only[Jr,CB,ih];omega
theorem Qawc {l:List Fn}{i:Nat}(h:i<l.length):CB (l.take (i+1))=CB (l.take i)+Q9 (l[i]'h).body:=by
 rw[Jj h,Sz];simp[CB]
theorem Qabo (l:List Fn)(i:Nat):CB (l.take i)<=CB l:=by
 conv=>rhs;rw[<-Jw i l,Sz]
 omega
theorem Qb2e {l:List Fn}{fl:Bool}(hf:CB l<=2^40)(hK:∀n:Int,K (Uv n) H):Qr prog Ly [.ag [.sl fl 3 (Cb l)]] H K:=by
 refine Qd BF Qb2p ?_;refine Wd ?_;refine Wa ?_;refine Qh (Qe (Qw (λn e1 H1=>∃(i v:Nat),n=l.length-i/\i<=l.length/\v<=CB (l.take i)/\H1=H/\e1=[(1,.c (.pp [.sl fl 3 (Cb l)])),(3,Uv v),(4,Uv i)]) l.length ?_ ?_))
 ·exact⟨0,0,ZB,ZB,ZB,rfl,rfl⟩
 ·rintro n e1 H1 ⟨i,v,cO,hi,hv,rfl,rfl⟩;refine Q1 (Qa ?_);simp only[go_sem,D0];intro hl;simp only[LIM]at hl;refine Wu ?_ ?_
  ·intro hc;have af:i<l.length:=ZE
   have hm:=TE (Jb af);have bF:=Qawc af;have nI:=Qabo l (i+1);refine Zd ?_;refine Qh (Qe (Qp ?_));simp only[go_sem,af,D0,I0 _ _ af,Fn.cells];refine Qbq9 _ _ (Je _) ZB λc hc=>?_;simp only[go_sem,MF];refine⟨Qs,?_⟩;refine Zg ?_;exact⟨Qs,l.length-(i+1),ZB,i+1,v+c,rfl,ZB,ZB,rfl⟩
  ·intro hc;refine Wb ?_;refine Ze ?_;exact hK _
theorem Qam8 {l:List Fn}{fl:Bool}(hf:CB l<=2^40)(hK:∀b:Bool,K (.c (.bool b)) H):Qr prog Qip [.ag [.sl fl 3 (Cb l)]] H K:=by
 refine Qd BF Q5l ?_;have retf:∀(b:Bool) (e:Env),lk 2 e=.c (.bool b)->Q4 BH K .ret e H:=by
  intro b e h1;simp only[go_sem,Q4,BE,Ja,forall_eq,RS.op,h1];exact hK _
 refine Wh ?_;simp only[go_sem,D0];intro hl;simp only[LIM]at hl;refine CG ?_;simp only[go_sem,SA];refine Wu ?_ ?_
 ·intro hc;refine We ?_;exact retf false _ ZC
 intro hc;refine Zd ?_;refine Wa ?_;refine Qh (Qe (Qw (λn e1 H1=>∃(i:Nat),n=l.length-i/\i<=l.length/\H1=H/\e1=[(1,.c (.pp [.sl fl 3 (Cb l)])),(3,Uv i)]) l.length ?_ ?_))
 ·exact⟨0,ZB,ZB,rfl,rfl⟩
 ·rintro n e1 H1 ⟨i,cO,hi,rfl,rfl⟩;refine Q1 (Qa ?_);simp only[go_sem,D0];refine λ_=>?_;refine Wu ?_ ?_
  ·intro hc;have af:i<l.length:=ZE
   have hm:=TE (Jb af);refine Wm ?_;simp only[go_sem,af,D0,I0 _ _ af,Fn.take3,Fn.bv,Fn.az];refine Qb41 ZB λb=>?_;simp only[go_sem,S9];refine Wv ?_ ?_
   ·intro aD;refine Wn ?_;exact retf false _ ZC
   ·intro aD;refine Wk ?_;exact⟨Qs,l.length-(i+1),ZB,i+1,rfl,ZB,rfl⟩
  ·intro hc;refine Wb ?_;refine Qb2e hf λn=>?_;simp only[go_sem,Qgm];refine Ql ?_;exact retf _ _ ZJ
end Go.AE.Y
namespace Go.AE.Y
open Go.Proofs.Tryz
structure PrOk (l:List Fn):Prop where
 pos:0<l.length
 par:∀f∈l,f.params.length<=3
 ok:∀f∈l,Cj f.body
 size:CB l<=2^34
 len:l.length<=4
end Go.AE.Y
namespace Go.AE
open Go.AE.Y
open Go.Proofs.Tryz
theorem Kn.perm4 {H0 H:Heap}{E:Ul}{a b c d:Nat×Obj}(kn:Kn H0 H E [a,b,c,d]):Kn H0 H E [a,b,d]:=
 Kn.drop (A:=[a,b,d]) (B:=[c]) (kn.perm (.cons _ (.cons _ (.swap _ _ _))))
end Go.AE
namespace Go.AE.Y
open Go.Proofs.Tryz
theorem Y9 {R:Rdr}{k:Nat}{H:Heap}{K:Uk}(hR:H R.l=R.o k)(hk:k+7000000<=2^30)
  (hK:∀(l:List Fn) (H':Heap) (k':Nat),k<k'->k'<=k+7000000->Upd H H' [(R.l,R.o k')]->PrOk l->K (.ag [.sl false 3 (Cb l)]) H') :
  Qr prog RP [.c (.ptr R.l 0)] H K:=by
 refine Qy ?_;refine Qd BF Yq ?_;refine Za ?_;intro x2 aI H1 h1;have kn:=(Kn.start1 hR (R.ao k)).al aI h1;refine Za ?_;refine CO (ns:=[14,20,8,26]) (kn.e 0 rfl) ZB ZD λv H2 hv hu=>?_;have kn:=kn.au 0 rfl hu (R.ao _);simp only[go_sem,Ou];intro gl dM H3 h3;have kn:Kn H H3 [(R.l,R.o (k+1))] [(x2,.st [.sl true 3 []]),(gl,GS.o ⟨[],(.sl true 3 [],[]),[],true,0,v⟩ R)]:=kn.al dM h3;have hv26:0<=v/\v<=26:=by simp at hv;omega
 simp only[go_sem,Ov];have bd:R.l≠gl:=kn.ne 0 1 rfl rfl;refine Wa ?_;refine CO (ns:=[0,1,1,2]) (kn.e 0 rfl) ZB ZD λcnt H4 zw hu=>?_;have kn:=kn.au 0 rfl hu (R.ao _);have aD:0<=cnt/\cnt<=2:=by simp at zw;omega
 simp only[go_sem,FN];obtain⟨M,hM⟩:∃M:Nat,M=2001301:=⟨_,rfl⟩;refine Qh (Qe (Qw (λn e1 H1=>∃(j k4:Nat) (s:GS),n=cnt.toNat-j/\(j:Int)<=cnt/\s.fns.length=j/\k+2<=k4/\k4<=k+2+M * j/\s.ok k4/\(∀f∈s.fns,Cj f.body)/\4 * k+CB s.fns<=4 * k4/\
   Gr s.ffl.2 3 (Cb s.fns) s.ffl.1/\Kn H H1 [(R.l,R.o k4)] ([(x2,.st [.sl true 3 []]),(gl,s.o R)]++s.ffl.2)/\
   e1=[(0,.c (.ptr R.l 0)),(2,Up x2),(3,Up gl),(4,Uv (cnt-j))]) cnt.toNat ?_ ?_))
 ·refine⟨0,k+2,⟨[],(.sl true 3 [],[]),[],true,0,v⟩,ZB,ZB,rfl,ZB,ZB,⟨?_,?_,?_,?_,ZD,ZD,ZD⟩,ZD,by simp only[CB];omega,.nil 3,kn,ZD⟩
  ·show -1<=(0:Int);omega
  ·show (0:Int)<=_;omega
  ·show _<=v;omega
  ·show v<=100;omega
 ·rintro n e1 H1 ⟨j,k4,s,hn,hj,iO,ja,yE,hs,u9,bp,aq,kn,rfl⟩;have hMj:M * j<=M * 2:=Jz _ ZB;have B1:M * (j+1)=M * j+M:=Jal _ _;have jp:=kn.l 1 rfl;have kG:=aq.ai;have je:=aq.ay;rw[D0]at je;refine Wa ?_;refine Wu ?_ ?_
  ·intro hc;have hi:(j:Int)<cnt:=by simp at hc;omega
   refine Wc ?_;have u7:=(aq.aZ (B:=[_,_]) kn);have eg:List.getD [[C.str [102]],[C.str [103]],[C.str [104]]] s.fns.length []=[.str (List.getD [[102],[103],[104]] s.fns.length [])]:=IW [[102],[103],[104]] _ ZG;have y4:s.fns.length<3:=ZB
   refine BM ?_;simp only[go_sem,jp,GS.o,kG,je,eq_true u7,eg,y4];refine Cg (kn.e 0 rfl) ZB λp H2 hp hu=>?_;have kn:Kn H H2 [(R.l,R.o (k4+1))] ([(x2,.st [.sl true 3 []]),(gl,s.o R)]++s.ffl.2):=kn.au 0 rfl hu (R.ao _);rw[if_neg ZB]at hp;have f8:=kn.l 1 rfl;have u6:=(aq.aZ (B:=[_,_]) kn);simp only[go_sem,Oo,f8,GS.o,kG,je,eq_true u6,eg,y4];have hF:FnsOk H2 R gl s:=⟨aq,λq hq=>by
    have h1:=kn.get q (Jh _ (Jh _ hq));refine⟨h1.1,λhh=>?_,λhh=>?_⟩
    ·exact kn.usedE 0 rfl (hh▸kn.loc q (Jh _ hq))
    ·have:=kn.dL;rw[Jv]at this;exact (J8.1 this).2.2 gl ZD q.1 (Cc hq) hh.symm⟩
   refine MP hp.1 ZB (kn.e 0 rfl) (kn.l 1 rfl) bd (hs.mono (Jag k4)) hF ZB λf s2 H5 k5 g1 g2 hu eZ g3 g4 g5 g6 g7=>?_;have kn:=kn.callEL 0 1 rfl rfl hu (R.ao _) (GS.ao _ _);have kn:Kn H H5 [(R.l,R.o k5)] ([(x2,.st [.sl true 3 []]),(gl,s2.o R)]++s.ffl.2):=kn;simp only[go_sem,Oq];intro x5 bq H6 h6;have kn:=kn.al bq h6;have kn:=kn.perm (L':=[(x2,_),(gl,_),(x5,_)]++s.ffl.2) (by
    simp only[Jr,Jq];exact .cons _ (.cons _ Ji))
   have hG6:=kn.l 1 rfl;have w6:=kn.l 2 rfl;have u5:=(aq.aZ (B:=[_,_,_]) kn);simp only[go_sem,Ot,hG6,w6,GS.o,g4,kG,je,eq_true u5,eg,y4,Fn.cells];intro H7 h7;have kn:Kn H H7 [(R.l,R.o k5)] ([(x2,_),(gl,_),(x5,_)]++s.ffl.2):=kn.aB 2 rfl h7;have vg:=kn.l 1 rfl;have pY:=kn.l 2 rfl;refine BY ?_;simp only[go_sem,vg,pY,GS.o,g4,kG];refine kn.grow (B:=[_,_,_]) (new:=[f.cells]) aq (.mk' _ _ _ _) (by simp[f.ak]) (by simp only[D0,LIM,Jk,Jn];omega) λz H8 kn=>?_;have Ai:=kn.l 1 rfl;simp only[go_sem,On,Ai,GS.o];intro H9 h9;have kn:=kn.aB 1 rfl h9;obtain⟨s9,qt⟩:∃s9:GS,s9=GS.mk (s.fns++[f]) (C.ah z 3 0 ((Cb s.fns).length+1),[(z,Obj.vec 3 (Cb s.fns++[f.cells]))]) s2.vars s2.vfl s2.next s2.left:=⟨_,rfl⟩;have vA:s9.o R=.st [C.ptr R.l 0,C.ah z 3 0 ((Cb s.fns).length+1),C.sl s2.vfl 1 (Cn s2.vars),C.int IntKind.i64 s2.next,C.int IntKind.i64 s2.left]:=by rw[qt];rfl
   rw[<-vA]at kn;have kn:Kn H H9 [(R.l,R.o k5)] [(x2,_),(gl,s9.o R),(x5,_),(z,_)]:=kn;have kn:=kn.perm4;refine Zg ?_;have fx:k5<=k+2+M * (j+1):=by rw[B1];omega
   refine⟨Qs,cnt.toNat-(j+1),ZB,j+1,k5,s9,rfl,ZB,by simp[qt,iO],ZB,fx,?_,?_,?_,?_,by rw[qt]at kn⊢;exact kn,?_⟩
   ·subst qt;refine⟨eZ.n0,eZ.n1,eZ.l0,eZ.l1,eZ.v,λf' rr=>?_,by simp;omega⟩;rcases Jl.1 rr with h|h
    ·exact hs.f f' h
    ·simp at h;subst h;exact g5
   ·subst qt;intro f' rr;rcases Jl.1 rr with h|h
    ·exact u9 f' h
    ·simp at h;subst h;exact g6
   ·subst qt;simp only[Sz,CB];omega
   ·subst qt;show Gr [(z,Obj.vec 3 (Cb s.fns++[f.cells]))] 3 (Cb (s.fns++[f])) _;rw[MT];exact .mk _ _ _ (by simp[D0])
   ·have:cnt-((j+1:Nat):Int)=cnt-j-1:=ZB;rw[this]
  ·intro hc;refine Zb ?_;have hkE:k4<=k+4002604:=ZB
   refine Za ?_;refine CO (ns:=[0,1,2,1]) (kn.e 0 rfl) ZB ZD λp H2 hp hu=>?_;have kn:Kn H H2 [(R.l,R.o (k4+1))] ([(x2,.st [.sl true 3 []]),(gl,s.o R)]++s.ffl.2):=kn.au 0 rfl hu (R.ao _);have fe:0<=p/\p<=3:=by simp at hp;omega
   simp only[go_sem,PJ];have hF:FnsOk H2 R gl s:=⟨aq,λq hq=>by
    have h1:=kn.get q (Jh _ (Jh _ hq));refine⟨h1.1,λhh=>?_,λhh=>?_⟩
    ·exact kn.usedE 0 rfl (hh▸kn.loc q (Jh _ hq))
    ·have:=kn.dL;rw[Jv]at this;exact (J8.1 this).2.2 gl ZD q.1 (Cc hq) hh.symm⟩
   refine MP fe.1 fe.2 (kn.e 0 rfl) (kn.l 1 rfl) bd (hs.mono (Jag k4)) hF ZB λf s2 H5 k5 g1 g2 hu eZ g3 g4 g5 g6 g7=>?_;have kn:=kn.callEL 0 1 rfl rfl hu (R.ao _) (GS.ao _ _);have kn:Kn H H5 [(R.l,R.o k5)] ([(x2,.st [.sl true 3 []]),(gl,s2.o R)]++s.ffl.2):=kn;simp only[go_sem,PK];intro x6 be H6 h6;have kn:=kn.al be h6;have kn:=kn.perm (L':=[(x2,_),(gl,_),(x6,_)]++s.ffl.2) (by
    simp only[Jr,Jq];exact .cons _ (.cons _ Ji))
   have lE:=kn.l 2 rfl;simp only[go_sem,PL,lE,Fn.cells];intro H7 h7;have kn:Kn H H7 [(R.l,R.o k5)] ([(x2,_),(gl,_),(x6,_)]++s.ffl.2):=kn.aB 2 rfl h7;have vg:=kn.l 1 rfl;have kh:=kn.l 2 rfl;have u4:=aq.aZ (B:=[_,_,_]) kn;have qv:=aq.rowsOf (B:=[_,_,_]) kn;have jg:=aq.aP;have hL:s.fns.length<=LIM:=ZU
   refine BM ?_;simp only[go_sem,vg,kh,GS.o,g4,kG,je,eq_true u4,qv,jg,hL,Jg];refine⟨.inl trivial,MU _,λy hy H8 h8=>?_⟩;have kn:=kn.al hy h8;have kn:=kn.perm (L':=([(x2,_),(gl,_),(x6,_)]++[(y,_)])++s.ffl.2) Mg;have kn:=kn.drop;have wy:=kn.l 2 rfl;have kn:Kn H H8 [(R.l,R.o k5)] [(x2,_),(gl,_),(x6,_),(y,_)]:=kn;have hy8:=kn.l 3 rfl;have etk:List.take s.fns.length (Cb s.fns)=Cb s.fns:=Jd (by rw[D0];omega);simp only[go_sem,PG,wy,hy8,D0,etk];refine⟨ZB,by simp only[LIM];omega,λz hz H9 h9=>?_⟩;have kn:Kn H H9 [(R.l,R.o k5)] [(x2,_),(gl,_),(x6,_),(z,.vec 3 (Cb s.fns++[f.cells]))]:=kn.ap 3 rfl hz h9;simp only[go_sem,PH];intro x7 cd H10 db;have kn:=kn.al cd db;have Aj:=kn.l 1 rfl;have lC:=kn.l 2 rfl;have pR:=kn.l 4 rfl;have kn:Kn H H10 [(R.l,R.o k5)] [(x2,_),(gl,_),(x6,_),(z,_),(x7,_)]:=kn;simp only[go_sem,PI,Aj,lC,pR,GS.o,g4,kG];intro H11 ev;have kn:=kn.aB 4 rfl ev;have kn:Kn H H11 [(R.l,R.o k5)] ([(x2,.st [.sl true 3 []]),(x7,.st [.ah z 3 0 (s.fns.length+1)])]++[(z,.vec 3 (Cb s.fns++[f.cells]))]):=
    (kn.perm (L':=([(x2,_),(x7,_)]++[(z,_)])++[(gl,_),(x6,_)]) (by
     simp only[List.set,Jr,Jq];refine .cons _ ?_;refine .trans (.cons _ (.cons _ (.swap _ _ _))) ?_;refine .trans (.cons _ (.swap _ _ _)) ?_;refine .trans (.swap _ _ _) ?_;refine .cons _ ?_;refine .trans (.cons _ (.swap _ _ _)) ?_;exact .swap _ _ _)).drop
   have wi:=kn.l 2 rfl;have Au:=kn.l 1 rfl;obtain⟨eE,kn⟩:=kn.freeze 1 rfl (og':=.st [.sl false 3 (Cb (s.fns++[f]))]) (FrzKL.st (.cons rfl (by
    rw[<-MT];exact HF ZD wi (by simp[D0]) (noOw_mem (XZ (MU _) (by simp[f.ak])))) .nil)) ZD
   refine Q1 (c_gh (E7 _ (λt=>?_) eE) (e':=[(2,V.c (C.ptr x2 0)),(7,V.c (C.ptr x7 0))]) ?_)
   ·simp only[lk];split
    ·exact .c _ _ (.same _ rfl)
    ·split
     ·exact .c _ _ (.same _ rfl)
     ·exact .unk _
   generalize ((H11.frz λm=>m == z).set x7 (Obj.st [C.sl false 3 (Cb (s.fns++[f]))]))=H12 at *;have nB:=kn.l 1 rfl;have sX:=kn.l 0 rfl;have kY:CB (s.fns++[f])<=2^34:=by rw[Sz];simp only[CB];omega
   refine Zj nB ?_;refine Qam8 ZB λb=>?_;simp only[go_sem,PF];refine Wu ?_ ?_
   ·intro hc;refine Zj sX ?_;intro H13 mZ;have kn:=kn.aB 0 rfl mZ;have qc:=kn.l 0 rfl;refine Zo qc ?_;refine⟨.ag [.sl false 3 (Cb [Fn.mk [109] [] [St.mk 3 [] [Ex.mk 1 1 [] []] [] []]])],FrzL.ag ?_,hK _ _ k5 ZB ZB kn.fin ⟨ZD,ZD,?_,?_,ZD⟩⟩
    ·simp only[Cb,Jah,Jaj,Fn.cells,Qbo9,BO,St.cells,BW,Ex.cells]
     repeat' first|exact FrzL.nil|exact FrzR.nil|exact Qg rfl|exact FrzL.same (Ex.ak _)|exact FrzL.same (St.ak _)|refine FrzL.cons ?_ ?_|refine FrzR.cons ?_ ?_|refine FrzR.sl ?_
    ·intro f hf;simp at hf;subst hf;simp[Cj,St.ok,Cu,Ex.ok]
    ·simp[CB,Q9,St.size,BZ,Ex.size]
   ·intro hc;refine Zd ?_;refine Zm sX nB ?_;intro H13 mZ;have kn:=kn.aB 0 rfl mZ;have qc:=kn.l 0 rfl;refine Zo qc ?_;refine⟨.ag [.sl false 3 (Cb (s.fns++[f]))],FrzL.ag (.cons (Qg rfl) .nil),hK _ _ k5 ZB ZB kn.fin ⟨ZD,?_,?_,kY,by simp;omega⟩⟩
    ·intro f' rr;rcases Jl.1 rr with h|h
     ·exact hs.f f' h
     ·simp at h;subst h;exact g5
    ·intro f' rr;rcases Jl.1 rr with h|h
     ·exact u9 f' h
     ·simp at h;subst h;exact g6
variable {F H:Heap}{w:Nat}{s:LS}{K:Uk}
structure LStep (s s':LS)(d:Nat):Prop where
 bl:s.blocks.length<=s'.blocks.length
 ok:∀N,s.ok N->s'.ok (N+d)
 vl:s.vars.length<=s'.vars.length
 at_:s.at_<s.blocks.length->s'.at_<s'.blocks.length
 fn:s'.fns=s.fns/\s'.pfl=s.pfl
theorem LStep.trans {s s' s'':LS}{d e:Nat}(h:LStep s s' d)(k:LStep s' s'' e):LStep s s'' (d+e):=
 ⟨J9 h.bl k.bl,λN hN=>by rw[<-Nat.add_assoc];exact k.ok _ (h.ok N hN),J9 h.vl k.vl,λha=>k.at_ (h.at_ ha),k.fn.1.trans h.fn.1,k.fn.2.trans h.fn.2⟩
theorem LStep.refl (s:LS):LStep s s 0:=⟨Je _,λN h=>h,Je _,λh=>h,rfl,rfl⟩
theorem LStep.mono {s s':LS}{d e:Nat}(h:LStep s s' d)(hd:d<=e):LStep s s' e:=⟨h.bl,λN hN=>(h.ok N hN).mono ZB,h.vl,h.at_,h.fn⟩
theorem Gk {N:Nat}(h:LInv F H w s)(ax:s.ok N)(hN:N+1<=2^38)(hK:∀(s':LS) (H':Heap),LInv F H' w s'->LStep s s' 1->K (.c (Ui s.ae)) H') :
  Qr prog Qxa [Up w] H K:=by
 have hw:=h.hw;have h0:=ax.r0;have h1:=ax.r1;refine Qd BF Qav3 ?_;refine Wf ?_;simp only[go_sem,hw,LS.o];refine⟨Qs,λH1 oF=>?_⟩;have h':LInv F H1 w { s with ae:=s.ae+1 }:=h.setw oF rfl rfl rfl rfl h.gv h.rv;have gW:=h'.hw;refine Qa ?_;simp only[go_sem,gW,LS.o];refine⟨Qs,?_⟩;refine Ze ?_;refine hK _ H1 h' ⟨Je _,λM hM=>⟨?_,?_,hM.n0,?_,?_,?_,?_⟩,Je _,λh=>h,rfl,rfl⟩
 ·have:=hM.r0;show 0<=s.ae+1;omega
 ·have:=hM.r1;show s.ae+1<=_;omega
 ·have:=hM.n1;show s.next<=_;omega
 ·have:=hM.b1;show s.blocks.length<=_;omega
 ·intro b hb;have:=hM.i1 b hb;omega
 ·have:=hM.v1;show s.vars.length<=_;omega
theorem RG {N:Nat}(h:LInv F H w s)(ax:s.ok N)(hN:N+1<=2^38)(hK:∀(s':LS) (H':Heap),LInv F H' w s'->LStep s s' 1->s.blocks.length<s'.blocks.length->s'.at_=s.at_->K (.c (Ui s.blocks.length)) H') :
  Qr prog Vd [Up w] H K:=by
 have hw:=h.hw;have ba:=ax.b1;have de:=h.gb.ai;refine Qd BF Qav2 ?_;refine Wf ?_;simp only[go_sem,hw,LS.o,de];refine h.addBlk (b:=⟨.sl true 4 [],[],[],0,0,true,[]⟩) ZU rfl rfl rfl λy H1 gW cont=>?_;simp only[go_sem,Qor,gW,LS.o];intro H2 h2;have h':=cont H2 h2;have lN:=h'.hw;obtain⟨y2,nj,jS,hv3⟩:=h'.bvec ZD;simp only[C.ah.injEq]at nj;obtain⟨rfl,_⟩:=nj;refine Qa ?_;simp only[go_sem,lN,LS.o,hv3,Jf,List.length_append];refine⟨ZB,λhl=>⟨Qs,?_⟩⟩;refine Ze ?_;have e1:(((s.blocks.length+1:Nat):Int)-1)=s.blocks.length:=ZB
 rw[e1];refine hK _ H2 h' ⟨ZD,λM hM=>⟨hM.r0,?_,hM.n0,?_,?_,?_,?_⟩,Je _,λha=>by simp;show s.at_<_;omega,rfl,rfl⟩ ZD rfl
 ·have:=hM.r1;show s.ae<=_;omega
 ·have:=hM.n1;show s.next<=_;omega
 ·have:=hM.b1;simp;omega
 ·intro b hb;rcases Jl.1 hb with hb|hb
  ·have:=hM.i1 b hb;omega
  ·simp at hb;subst hb;simp
 ·have:=hM.v1;show s.vars.length<=_;omega
theorem Fk {N:Nat}(h:LInv F H w s)(ax:s.ok N)(hN:N+1<=2^38)(hK:∀(s':LS) (H':Heap),LInv F H' w s'->LStep s s' 1->s.blocks.length<s'.blocks.length->K (.c (Ui s.blocks.length)) H') :
  Qr prog Vd [Up w] H K:=RG h ax hN λs' H' a b c _=>hK s' H' a b c
theorem Ej {N:Nat}{op to n:Int}{fl:Bool}{args:List Int}(h:LInv F H w s)(br:s.at_<s.blocks.length)(ax:s.ok N)(hN:N+1<=2^38)
  (hK:∀(s':LS) (H':Heap),LInv F H' w s'->LStep s s' 1->K (Uv to) H') :
  Qr prog Q7x [Up w,Uv op,Uv to,Uv n,.c (.sl fl 1 (Qb args))] H K:=by
 have hw:=h.hw;obtain⟨y,dB,pk,hy⟩:=h.bvec ZB;have hm:=Jb br;have rh:=ax.i1 _ hm;have yL:=(h.gi _ hm).ai;have eO:List.getD (List.map Blk.row s.blocks) s.at_ []=s.blocks[s.at_].row:=Zbf
 have cZ:List.getD (List.take s.blocks.length (List.map Blk.row s.blocks)) s.at_ []=s.blocks[s.at_].row:=by
  rw[Jd ZD];exact eO
 refine Qd BF Qbbz ?_;refine Za ?_;refine BM ?_;simp only[go_sem,hw,LS.o,dB,hy,br,Jg,Jf];refine Qa ?_;simp only[go_sem,hy,br,cZ,Blk.row,yL,Jg,Jf];refine h.addIns br dB pk ⟨op,to,n,fl,args,rfl⟩ ZU λz H1 gW sT cont=>?_;simp only[go_sem,Qzd,sT,eO,br,Blk.row,Jg,Jf];intro H2 h2;obtain⟨b',aW,h'⟩:=cont H2 h2;refine Wr ?_;refine hK _ H2 h' ⟨ZD,λM hM=>⟨hM.r0,?_,hM.n0,?_,?_,?_,?_⟩,Je _,λha=>by simp;show s.at_<_;omega,rfl,rfl⟩
 ·have:=hM.r1;show s.ae<=_;omega
 ·have:=hM.n1;show s.next<=_;omega
 ·have:=hM.b1;simp;omega
 ·intro b hb;rcases I2 hb with rfl|hb
  ·have:=hM.i1 _ hm;omega
  ·have:=hM.i1 b hb;omega
 ·have:=hM.v1;show s.vars.length<=_;omega
theorem EW {N:Nat}{kind on:Int}{at':Nat}{fl:Bool}{next:List Int}(h:LInv F H w s)(br:s.at_<s.blocks.length)(zG:at'<s.blocks.length)
  (hK:∀(s':LS) (H':Heap),LInv F H' w s'->LStep s s' 0->K (.tup []) H') :
  Qr prog Q1y [Up w,Uv kind,Uv on,.c (.sl fl 1 (Qb next)),Uv at'] H K:=by
 have hw:=h.hw;obtain⟨y,dB,pk,hy⟩:=h.bvec ZB;have hm:=Jb br;have eO:List.getD (List.map Blk.row s.blocks) s.at_ []=s.blocks[s.at_].row:=Zbf
 refine Qd BF Qa2d ?_;refine BM ?_;simp only[go_sem,hw,LS.o,dB,hy,br,Jg,Jf];refine Qa ?_;simp only[go_sem,hy,eO,br,Blk.row,Jg,Jf];intro H1 h1;have h1:H1=H.set y (.vec 5 ((s.blocks.set s.at_ { s.blocks[s.at_]with jump:=kind }).map Blk.row)):=by rw[h1,<-Pj];rfl
 have hv:=h.setBlk br dB pk h1 rfl rfl rfl;obtain⟨b1,ba,iA,hb1i⟩:∃b1:Blk,b1={ s.blocks[s.at_]with jump:=kind }/\b1.aX=s.blocks[s.at_].aX/\b1.ic=s.blocks[s.at_].ic:=⟨_,rfl,rfl,rfl⟩;rw[<-ba]at hv h1;have sT:H1 y=.vec 5 ((s.blocks.set s.at_ b1).map Blk.row):=by rw[h1];exact Heap.aF _ _ _
 have cZ:List.getD ((s.blocks.set s.at_ b1).map Blk.row) s.at_ []=b1.row:=Zbf
 refine Qa ?_;simp only[go_sem,sT,cZ,br,Blk.row,Jg,Jf,Jaf];intro H2 h2;have h2:H2=H1.set y (.vec 5 (((s.blocks.set s.at_ b1).set s.at_ { b1 with on:=on }).map Blk.row)):=by rw[h2];simp only[Jt];rfl
 have hv:=hv.setBlk (i:=s.at_) (b':={ b1 with on:=on }) (by simpa using br) (by simpa using dB) (by rfl) h2 ZD ZD ZD;simp only[Jak]at hv h2;obtain⟨b2,cp,zF⟩:∃b2:Blk,b2={ b1 with on:=on }/\b2.aX=b1.aX:=⟨_,rfl,rfl⟩;rw[<-cp]at hv h2;have nf:H2 y=.vec 5 ((s.blocks.set s.at_ b2).map Blk.row):=by rw[h2];exact Heap.aF _ _ _
 have zc:List.getD ((s.blocks.set s.at_ b2).map Blk.row) s.at_ []=b2.row:=Zbf
 refine Qa ?_;simp only[go_sem,nf,zc,br,Blk.row,Jg,Jf,Jaf];intro H3 h3;have h3:H3=H2.set y (.vec 5 (((s.blocks.set s.at_ b2).set s.at_ { b2 with next:=next,nfl:=fl }).map Blk.row)):=by rw[h3];simp only[Jt];rfl
 have hv:=hv.setBlk (i:=s.at_) (b':={ b2 with next:=next,nfl:=fl }) (by simpa using br) (by simpa using dB) (by rfl) h3 ZD ZD ZD;simp only[Jak]at hv;have sZ:=hv.hw;refine Qp ?_;simp only[go_sem,sZ,LS.o];intro H4 h4;have h':=hv.setw (s':={ s with lb:=[(y,.vec 5 ((s.blocks.set s.at_ { b2 with next:=next,nfl:=fl }).map Blk.row))],blocks:=s.blocks.set s.at_ { b2 with next:=next,nfl:=fl },at_:=at' }) h4 rfl rfl rfl rfl hv.gv hv.rv;simp only[Q4,BE,Cp];refine⟨ZD,hK _ H4 h' ⟨ZD,λM hM=>⟨hM.r0,hM.r1,hM.n0,hM.n1,?_,?_,hM.v1⟩,Je _,λha=>by simpa using zG,rfl,rfl⟩⟩
 ·have:=hM.b1;simpa using this
 ·intro b hb;rcases I2 hb with rfl|hb
  ·show b2.aX.length<=_;rw[zF,iA];exact hM.i1 _ hm
  ·exact hM.i1 b hb
theorem Qb4d {l:List Fn}{fl:Bool}{name:List UInt8}(hK:∀n:Int,K (Uv n) H):Qr prog Q5d [.ag [.sl fl 3 (Cb l)],.c (.str name)] H K:=by
 refine Qd BF Qbr7 ?_;have retf:∀(n:Int) (e:Env),lk 4 e=Uv n->Q4 BG K .ret e H:=by
  intro b e h1;simp only[go_sem,Q4,BE,Ja,forall_eq,RS.op,h1];exact hK _
 refine Wj ?_;refine Qh (Qe (Qw (λn e1 H1=>∃(i:Nat),n=l.length-i/\i<=l.length/\H1=H/\e1=[(1,.c (.str name)),(2,.c (.pp [.sl fl 3 (Cb l)])),(5,Uv i)]) l.length ?_ ?_))
 ·exact⟨0,ZB,ZB,rfl,rfl⟩
 ·rintro n e1 H1 ⟨i,cO,hi,rfl,rfl⟩;refine Q1 (Qa ?_);simp only[go_sem,D0];intro hl;simp only[LIM]at hl;refine Wu ?_ ?_
  ·intro hc;have af:i<l.length:=ZE
   refine Wm ?_;simp only[go_sem,af,D0,I0 _ _ af,Fn.cells];refine Wv ?_ ?_
   ·intro aD;refine Wn ?_;exact retf _ _ ZJ
   ·intro aD;refine Wk ?_;exact⟨Qs,l.length-(i+1),ZB,i+1,rfl,ZB,rfl⟩
  ·intro hc;refine Wb ?_;refine Ql ?_;exact retf _ _ ZJ
theorem Mf {name:List UInt8}(h:LInv F H w s)(hK:∀n:Int,K (Uv n) H):Qr prog Q7y [Up w,.c (.str name)] H K:=by
 have hw:=h.hw;obtain⟨nj,jS⟩:=h.vget;have bN:=h.gv.ay;have vo:=h.gv.aP;have lO:=h.gv.ai;refine Qd BF Qbb0 ?_;have retf:∀(n:Int) (e:Env),lk 4 e=Uv n->Q4 BG K .ret e H:=by
  intro b e h1;simp only[go_sem,Q4,BE,Ja,forall_eq,RS.op,h1];exact hK _
 refine Wh ?_;simp only[go_sem,hw,LS.o,nj,bN,lO];intro hl;simp only[LIM]at hl;refine⟨Qs,?_⟩;refine Qh (Qe (Qw (λn e1 H1=>∃(j:Nat),n=j/\j<=s.vars.length/\H1=H/\e1=[(0,Up w),(1,.c (.str name)),(5,Uv ((j:Int)-1))]) s.vars.length ?_ ?_))
 ·exact⟨s.vars.length,rfl,ZB,rfl,rfl⟩
 ·rintro n e1 H1 ⟨j,xY,hj,rfl,rfl⟩;refine Wa ?_;refine Wu ?_ ?_
  ·intro hc;have yI:1<=j:=by simp at hc;omega
   obtain⟨i,rfl⟩:∃i,j=i+1:=⟨j-1,ZB⟩;have e1:(((i+1:Nat):Int)-1)=(i:Int):=ZB
   have af:i<s.vars.length:=ZB
   obtain⟨nm,a,b,hr⟩:=h.rv _ (Jb af);have bf:List.getD s.vars i []=[.str nm,Ui a,Ui b]:=by rw[<-hr];simp[Jc,af]
   rw[e1]at hc⊢;refine Wm ?_;simp only[go_sem,hw,LS.o,nj,jS,bN,lO,vo,af,bf];refine Wv ?_ ?_
   ·intro aD;refine Qa ?_;simp only[go_sem,hw,LS.o,nj,jS,bN,lO,vo,af,bf];refine Zn ?_;exact retf _ _ ZJ
   ·intro aD;refine Wk ?_;exact⟨Qs,i,ZB,i,rfl,ZB,rfl⟩
  ·intro hc;refine Wb ?_;refine Ql ?_;exact retf _ _ ZJ
def Fv (n:Nat):Prop:=∀(x:Ex) (F H:Heap) (w:Nat) (s:LS) (N:Nat) (K:V->Heap->Prop),x.size<=n->x.ok->LInv F H w s->s.at_<s.blocks.length->s.ok N->N+10 * x.size<=2^38->
  (∀(v:Int) (s':LS) (H':Heap),LInv F H' w s'->LStep s s' (10 * x.size)->K (.c (.int .i64 v)) H')->Qr prog Q1x [.c (.ptr w 0),.ag x.cells] H K
def AndL (n:Nat):Prop:=∀(x:Ex) (F H:Heap) (w:Nat) (s:LS) (N:Nat) (K:V->Heap->Prop),x.size<=n->x.ok->x.op=10->LInv F H w s->s.at_<s.blocks.length->s.ok N->N+10 * x.size<=2^38->
  (∀(v:Int) (s':LS) (H':Heap),LInv F H' w s'->LStep s s' (10 * x.size)->K (.c (.int .i64 v)) H')->Qr prog TF [.c (.ptr w 0),.ag x.cells] H K
theorem Qb4h {n:Nat}(hE:∀m,m<n->Fv m):AndL n:=by
 intro x F H w s N K hn ax b9 h br aK hN hK;have bp:=x.size_kids;have fy:=Ex.ok_and ax b9;have gK:=Ex.ok_kids ax;obtain⟨a,b,eD⟩:∃a b,x.kids=[a,b]:=by
  match hx:x.kids,fy with
  |[a,b],_=>exact⟨a,b,rfl⟩
 rw[eD]at bp gK;simp only[BZ,Cu]at bp gK;refine Qd BF Qbby ?_;refine Zx ?_;refine Qa ?_;simp only[go_sem,eD,BW,Ex.cD,Ex.bv,Ex.az,Jx];refine⟨ZB,?_⟩;refine hE a.size ZB a F H w s N _ (Je _) gK.1 h br aK ZB λva s1 H1 h1 st1=>?_;simp only[go_sem,Qy5];refine Za ?_;refine Gk h1 (st1.ok _ aK) ZB λs2 H2 h2 st2=>?_;have st2:=st1.trans st2;simp only[go_sem,Qy7];refine Ej (args:=[]) h2 (st2.at_ br) (st2.ok _ aK) ZB λs3 H3 h3 st3=>?_;have st3:=st2.trans st3;simp only[go_sem,Qy6];refine Za ?_;refine Fk h3 (st3.ok _ aK) ZB λs4 H4 h4 st4 Bo=>?_;have st4':=st4;have st4:=st3.trans st4;simp only[go_sem,Qy8];refine Za ?_;refine Fk h4 (st4.ok _ aK) ZB λs5 H5 h5 st5 Bn=>?_;have st5:=st4.trans st5;simp only[go_sem,Qy9];refine Za ?_;refine EW (next:=[(s3.blocks.length:Int),(s4.blocks.length:Int)]) (N:=0) h5 (st5.at_ br) ZB λs6 H6 h6 st6=>?_;have Bm:=st6.bl;have st6:=st5.trans st6;refine Qa ?_;simp only[go_sem,Ex.cD,Ex.bv,Ex.az,Jx,J6];refine⟨ZB,?_⟩;refine hE b.size ZB b F H6 w s6 _ _ (Je _) gK.2.1 h6 (st6.at_ br) (st6.ok _ aK) ZB λvb s7 H7 h7 st7=>?_;have Bl:=st7.bl;have st7:=st6.trans st7;simp only[go_sem,Qza];refine Za ?_;refine Gk h7 (st7.ok _ aK) ZB λs8 H8 h8 st8=>?_;have hb8:=st8.bl;have st8:=st7.trans st8;simp only[go_sem,Qzc];refine Ej (args:=[vb]) h8 (st8.at_ br) (st8.ok _ aK) ZB λs9 H9 h9 st9=>?_;have hb9:=st9.bl;have st9:=st8.trans st9;simp only[go_sem,Sb];refine Za ?_;refine Ej (args:=[s7.ae]) h9 (st9.at_ br) (st9.ok _ aK) ZB λs10 H10 db st10=>?_;have hb10:=st10.bl;have st10:=st9.trans st10;refine Za ?_;refine EW (next:=[(s4.blocks.length:Int)]) (N:=0) db (st10.at_ br) ZB λs11 H11 ev st11=>?_;have st11:=st10.trans st11;refine Wr ?_;exact hK _ s11 H11 ev (st11.mono ZB)
theorem Qb1t {n:Nat}(hA:AndL n)(hE:∀m,m<n->Fv m):Fv n:=by
 intro x F H w s N K hn ax h br aK hN hK;have bp:=x.size_kids;have gK:=Ex.ok_kids ax;refine Qd BF Qa2c ?_;have retf:∀(v:Int) (e:Env) (s':LS) (H':Heap),LInv F H' w s'->LStep s s' (10 * x.size)->lk 4 e=Uv v->Q4 BG K .ret e H':=by
  intro v e s' H' a1 a2 h1;simp only[go_sem,Q4,BE,Ja,forall_eq,RS.op,h1];exact hK _ _ _ a1 a2
 refine Zx ?_;refine Wa ?_;refine Wg ?_;refine Wv ?_ ?_
 ·intro hc;refine Zw ?_;refine Gk h aK ZB λs1 H1 h1 st1=>?_;simp only[go_sem,Qur];refine Ej (args:=[]) h1 (st1.at_ br) (st1.ok _ aK) ZB λs2 H2 h2 st2=>?_;simp only[go_sem,Quq];refine Zi ?_;exact retf _ _ s2 H2 h2 ((st1.trans st2).mono ZB) ZJ
 intro bH;refine Za ?_;refine Wv ?_ ?_
 ·intro hc;refine Za ?_;refine Mf h λv=>?_;simp only[go_sem,Qus];refine Zi ?_;exact retf _ _ s H h ((LStep.refl s).mono ZB) ZJ
 intro aD;refine Za ?_;refine Wv ?_ ?_
 ·intro hc;have b9:x.op=10:=ZE
  refine Za ?_;rw[<-x.aG];refine hA x F H w s N _ hn ax b9 h br aK hN λv s1 H1 h1 st1=>?_;simp only[go_sem,Qut];refine Zi ?_;exact retf _ _ s1 H1 h1 st1 ZJ
 intro bA;refine Zd ?_;refine Wj ?_;refine Qh (Qe (Qw (λn e1 H1=>∃(i:Nat) (ars:List Int) (c:C) (Lg:Ul) (s':LS),n=x.kids.length-i/\i<=x.kids.length/\ars.length=i/\Gr Lg 1 (Qb ars) c/\LInv F H1 w s'/\Kn F H1 [] (s'.L w++Lg)/\
  LStep s s' (10 * BZ (x.kids.take i))/\e1=[(0,Up w),(3,.c (.pp [Ui x.op,Ui x.n,.str x.name,.sl false 4 (BW x.kids)])),(5,.c c),(6,Uv i)]) x.kids.length ?_ ?_))
 ·exact⟨0,[],_,[],s,ZB,ZB,rfl,.nil 1,h,by simpa using h.kn,(LStep.refl s).mono ZB,rfl⟩
 ·rintro n e1 H1 ⟨i,ars,c,Lg,s1,cO,hi,rJ,aq,h1,kn,st1,rfl⟩;refine Q1 (Qa ?_);simp only[go_sem,Da];intro hl;simp only[LIM]at hl;refine Wu ?_ ?_
  ·intro hc;have af:i<x.kids.length:=ZE
   have hm:=I3 (Jb af);have bF:=TH af;have nI:=Vy x.kids (i+1);refine Zd ?_;refine Qh (Qe (Qp ?_));simp only[go_sem,af,Da,GD _ _ af,Ex.cD,Ex.bv,Ex.az];obtain⟨F',hf,back⟩:=h1.beside kn aq;refine hE x.kids[i].size ZB _ F' H1 w s1 _ _ (Je _) (Ia gK _ (Jb af)) hf (st1.at_ br) (st1.ok _ aK) ZB λv s2 H2 h2 st2=>?_;obtain⟨h2,kn⟩:=back s2 H2 h2;simp only[go_sem,Quv];refine kn.grow (new:=Qb [v]) aq (.mk' _ _ _ _) (Qq _) (by simp only[Qc,rJ,Jk,Jn,LIM];omega) λy' H3 kn=>?_;simp only[go_sem,Quu];refine Zg ?_;refine⟨Qs,x.kids.length-(i+1),ZB,i+1,ars++[v],_,_,s2,rfl,ZB,by simp[rJ],.mk y' 1 (Qb (ars++[v])) (n:=(Qb ars).length+(Qb [v]).length) Zaq,h2.re kn.drop,by rw[D8];exact kn,(st1.trans st2).mono (by rw[bF];omega),Zaq⟩
  ·intro hc;have bh:x.kids.length<=i:=ZE
   rw[Jd bh]at st1;refine Zb ?_;refine Q1 (Q1 ?_);obtain⟨S,H2,f1,f2,kn2⟩:=aq.freeze kn (Qq _);have h2:=h1.re kn2;refine c_gh (E7 S (λt=>?_) f2) (e':=[(0,Up w),(3,.c (.pp [Ui x.op,Ui x.n,.str x.name,.sl false 4 (BW x.kids)])),(5,.c (.sl false 1 (Qb ars)))]) ?_
   ·simp only[lk];split
    ·exact .c _ _ (.same _ rfl)
    ·split
     ·exact .c _ _ (.same _ rfl)
     ·split
      ·exact .c _ _ f1
      ·exact .unk _
   refine Za ?_;refine Wg ?_;refine Wv ?_ ?_
   ·intro hc;refine Za ?_;refine Gk h2 (st1.ok _ aK) ZB λs3 H3 h3 st3=>?_;have st3:=st1.trans st3;simp only[go_sem,Qot];refine Ej h3 (st3.at_ br) (st3.ok _ aK) ZB λs4 H4 h4 st4=>?_;simp only[go_sem,Qos];refine Zi ?_;exact retf _ _ s4 H4 h4 ((st3.trans st4).mono ZB) ZJ
   intro ef;refine Za ?_;refine Wv ?_ ?_
   ·intro hc;refine Za ?_;refine Gk h2 (st1.ok _ aK) ZB λs3 H3 h3 st3=>?_;have st3:=st1.trans st3;simp only[go_sem,Qov];refine Ej h3 (st3.at_ br) (st3.ok _ aK) ZB λs4 H4 h4 st4=>?_;simp only[go_sem,Qou];refine Zi ?_;exact retf _ _ s4 H4 h4 ((st3.trans st4).mono ZB) ZJ
   intro jh;refine Za ?_;refine Wv ?_ ?_
   ·intro hc;have lN:=h2.hw;refine BM ?_;simp only[go_sem,lN,LS.o];refine Gk h2 (st1.ok _ aK) ZB λs3 H3 h3 st3=>?_;have sZ:=h3.hw;have gM:=st3.fn;have st3:=st1.trans st3;simp only[go_sem,Qoy,sZ,LS.o,gM.1,gM.2];refine Qb4d λq=>?_;simp only[go_sem,Qox];refine Ej h3 (st3.at_ br) (st3.ok _ aK) ZB λs4 H4 h4 st4=>?_;simp only[go_sem,Qow];refine Zi ?_;exact retf _ _ s4 H4 h4 ((st3.trans st4).mono ZB) ZJ
   intro Bi;refine Zd ?_;refine Zw ?_;refine Gk h2 (st1.ok _ aK) ZB λs3 H3 h3 st3=>?_;have st3:=st1.trans st3;simp only[go_sem,Qo0];refine Ej h3 (st3.at_ br) (st3.ok _ aK) ZB λs4 H4 h4 st4=>?_;simp only[go_sem,Qoz];refine Ql ?_;exact retf _ _ s4 H4 h4 ((st3.trans st4).mono ZB) ZJ
theorem Mj (n:Nat):Fv n:=by
 induction n using Nat.strongRecOn with
 |ind n ih=>exact Qb1t (Qb4h ih) ih
theorem Qbw4:∀(n:Nat) (l:List St) {fl:Bool} {H:Heap} {K:Uk},Q9 l<=n->Q9 l<=2^40->(∀v:Nat,v<=Q9 l->K (Uv v) H)->Qr prog RA [.c (.sl fl 5 (BO l))] H K:=by
 intro n
 induction n using Nat.strongRecOn with
 |ind n ih=>
 intro l fl H K hn hb hK;have am:=NE l;refine Qd BF Yg ?_;refine Wd ?_;refine Wa ?_;refine Qh (Qe (Qw (λn e1 H1=>∃(i v:Nat),n=l.length-i/\i<=l.length/\v<=Q9 (l.take i)/\H1=H/\e1=[(0,.c (.sl fl 5 (BO l))),(3,Uv v),(4,Uv i)]) l.length ?_ ?_))
 ·exact⟨0,0,ZB,ZB,ZB,rfl,rfl⟩
 ·rintro n e1 H1 ⟨i,v,cO,hi,hv,rfl,rfl⟩;refine Q1 (Qa ?_);simp only[go_sem,Di];intro hl;simp only[LIM]at hl;refine Wu ?_ ?_
  ·intro hc;have af:i<l.length:=ZE
   have hm:=Sq (Jb af);have bF:=T5 af;have nI:=Vi l (i+1);have rZ:=(l[i]'af).size_eq;refine Wl ?_;simp only[go_sem,af,Di,GB _ _ af,St.aG];refine Qbra ?_;obtain⟨t,ht,rY⟩:∃t:Nat,(if decide (l[i].op=1)=true then (1:Int)else 0)=t/\t<=1:=by
    by_cases h:l[i].op=1
    ·exact⟨1,Zbr,Je _⟩
    ·exact⟨0,Zbr,ZB⟩
   simp only[go_sem,NG,af,Di,GB _ _ af,St.aG,ht];refine⟨Qs,?_⟩;refine ih (Q9 l[i].body) ZB l[i].body (Je _) ZB λa ha=>?_;simp only[go_sem,NH,af,Di,GB _ _ af,St.aG];refine⟨Qs,?_⟩;refine ih (Q9 l[i].els) ZB l[i].els (Je _) ZB λc hc=>?_;simp only[go_sem,NI];refine⟨Qs,?_⟩;refine Zg ?_;refine⟨Qs,l.length-(i+1),ZB,i+1,v+t+a+c,rfl,ZB,ZB,rfl⟩
  ·intro hc;have bh:l.length<=i:=ZE
   refine Wb ?_;refine Ze ?_;rw[Jd bh]at hv;exact hK v ZB
def Mn (n:Nat):Prop:=∀(x:St) (F H:Heap) (w:Nat) (s:LS) (N:Nat) (K:V->Heap->Prop),x.size<=n->x.ok->LInv F H w s->s.at_<s.blocks.length->s.ok N->N+10 * x.size<=2^38->
  (∀(s':LS) (H':Heap),LInv F H' w s'->LStep s s' (10 * x.size)->K (.tup []) H')->Qr prog Q10 [.c (.ptr w 0),.ag x.cells] H K
def Qb6c (n:Nat):Prop:=∀(x:St) (F H:Heap) (w:Nat) (s:LS) (N:Nat) (K:V->Heap->Prop),x.size<=n->x.ok->LInv F H w s->s.at_<s.blocks.length->s.ok N->N+10 * x.size<=2^38->
  (∀(s':LS) (H':Heap),LInv F H' w s'->LStep s s' (10 * x.size)->K (.tup []) H')->Qr prog Q1z [.c (.ptr w 0),.ag x.cells] H K
def F6 (n:Nat):Prop:=∀(l:List St) (fl:Bool) (F H:Heap) (w:Nat) (s:LS) (N:Nat) (K:V->Heap->Prop),Q9 l<=n->Cj l->LInv F H w s->s.at_<s.blocks.length->s.ok N->N+10 * Q9 l<=2^38->
  (∀(s':LS) (H':Heap),LInv F H' w s'->LStep s s' (10 * Q9 l)->K (.tup []) H')->Qr prog Qxb [.c (.ptr w 0),.c (.sl fl 5 (BO l))] H K
theorem Qbu0 {n:Nat}(hS:Mn n):F6 n:=by
 intro l fl F H w s N K hn ax h br aK hN hK;have hw:=h.hw;obtain⟨nj,jS⟩:=h.vget;have bN:=h.gv.ay;have lO:=h.gv.ai;refine Qd BF Qav4 ?_;refine Qa ?_;simp only[go_sem,hw,LS.o,nj,bN,lO];intro A1;refine Wa ?_;refine Qh (Qe (Qw (λn e1 H1=>∃(i:Nat) (s':LS),n=l.length-i/\i<=l.length/\LInv F H1 w s'/\LStep s s' (10 * Q9 (l.take i))/\e1=[(0,Up w),(1,.c (.sl fl 5 (BO l))),(4,.c (Ui s.vars.length)),(5,Uv i)]) l.length ?_ ?_))
 ·exact⟨0,s,ZB,ZB,h,(LStep.refl s).mono ZB,rfl⟩
 ·rintro n e1 H1 ⟨i,s1,cO,hi,h1,st1,rfl⟩;refine Q1 (Qa ?_);simp only[go_sem,Di];intro hl;simp only[LIM]at hl;refine Wu ?_ ?_
  ·intro hc;have af:i<l.length:=ZE
   have hm:=Sq (Jb af);have bF:=T5 af;have nI:=Vi l (i+1);refine Zd ?_;refine Qh (Qe (Qp ?_));simp only[go_sem,af,Di,GB _ _ af,St.take5,St.bv,St.az];refine hS l[i] F H1 w s1 _ _ ZB (Qbu5 ax _ (Jb af)) h1 (st1.at_ br) (st1.ok _ aK) ZB λs2 H2 h2 st2=>?_;refine Zg ?_;exact⟨Qs,l.length-(i+1),ZB,i+1,s2,rfl,ZB,h2,(st1.trans st2).mono (by rw[bF];omega),rfl⟩
  ·intro hc;have bh:l.length<=i:=ZE
   rw[Jd bh]at st1;have gW:=h1.hw;obtain⟨qh,hv2'⟩:=h1.vget;have fh:=h1.gv.ay;have hvo':=h1.gv.ai;have hve':=h1.gv.aP;have tf:=st1.vl;have xd:∀r∈s1.vars.take s.vars.length,VarRow r:=λr hr=>h1.rv r (List.mem_of_mem_take hr);have fin:∀(H2:Heap) (c:C),H2=H1.set w (LS.o { s1 with vc:=c })->VGr s1.lv (s1.vars.take s.vars.length) c->Q4 Cp K .nrm [] H2:=by
    intro H2 c h2 hg;simp only[Q4,BE,Cp];refine⟨ZD,hK { s1 with vc:=c,vars:=s1.vars.take s.vars.length } H2 (h1.setw h2 rfl rfl rfl rfl hg xd) ⟨st1.bl,λM hM=>?_,by simp;omega,st1.at_,st1.fn⟩⟩;have:=st1.ok M hM;exact⟨this.r0,this.r1,this.n0,this.n1,this.b1,this.i1,by have:=this.v1;simp;omega⟩
   refine Zb ?_;refine Qp ?_;rcases h1.gv with ⟨g1,g2,g3⟩|⟨y,all,k,g1,g2,g3,g4⟩
   ·have hz:s.vars.length=0:=(by rw[g2]at tf;simpa using tf);simp only[go_sem,gW,LS.o,g1,hz,Jai,List.drop_nil];refine⟨⟨ZB,ZB⟩,λH2 h2=>?_⟩;refine fin H2 (.sl true 3 []) h2 (.inl ⟨rfl,by rw[g2];simp,g3⟩)
   ·rw[g1]at qh fh;have hk:k=s1.vars.length:=(by simpa[ay]using fh);simp only[go_sem]at qh;simp only[go_sem,gW,LS.o,g1,qh];refine⟨⟨ZB,ZB⟩,λH2 h2=>?_⟩;refine fin H2 (.ah y 3 0 (s.vars.length-0)) h2 (.inr ⟨y,all,s.vars.length-0,rfl,ZB,?_,g4⟩);rw[g3,List.take_take];congr 1;omega
theorem YX {n:Nat}(hS:∀m,m<n->F6 m):Qb6c n:=by
 intro x F H w s N K hn ax h br aK hN hK;have bp:=x.size_eq;rw[St.ok_eq]at ax;obtain⟨kO,zH,cQ,Bc⟩:=ax;have Bp:=I3 (Jb kO);refine Qd BF Qa2e ?_;refine Zx ?_;refine Za ?_;refine Fk h aK ZB λs1 H1 h1 st1 ba=>?_;simp only[go_sem,Quw];refine Za ?_;refine Fk h1 (st1.ok _ aK) ZB λs2 H2 h2 st2 cp=>?_;have st2:=st1.trans st2;simp only[go_sem,Qux];refine Za ?_;refine Fk h2 (st2.ok _ aK) ZB λs3 H3 h3 st3 o8=>?_;have st3:=st2.trans st3;simp only[go_sem,Quy];refine Za ?_;refine EW (next:=[(s.blocks.length:Int)]) (N:=0) h3 (st3.at_ br) ZB λs4 H4 h4 st4=>?_;have Bo:=st4.bl;have st4:=st3.trans st4;refine Qa ?_;simp only[go_sem,kO,Da,GD _ _ kO,Ex.cD,Ex.bv,Ex.az];refine⟨ZB,?_⟩;refine Mj _ x.args[0] F H4 w s4 _ _ (Je _) (Ia zH _ (Jb kO)) h4 (st4.at_ br) (st4.ok _ aK) ZB λv s5 H5 h5 st5=>?_;have Bn:=st5.bl;have st5:=st4.trans st5;simp only[go_sem,Sm];refine Za ?_;refine EW (next:=[(s1.blocks.length:Int),(s2.blocks.length:Int)]) (N:=0) h5 (st5.at_ br) ZB λs6 H6 h6 st6=>?_;have Bm:=st6.bl;have st6:=st5.trans st6;refine Za ?_;refine hS (Q9 x.body) ZB x.body _ F H6 w s6 _ _ (Je _) cQ h6 (st6.at_ br) (st6.ok _ aK) ZB λs7 H7 h7 st7=>?_;have Bl:=st7.bl;have st7:=st6.trans st7;refine Zh ?_;refine EW (next:=[(s.blocks.length:Int)]) (N:=0) h7 (st7.at_ br) ZB λs8 H8 h8 st8=>?_;have st8:=st7.trans st8;simp only[Q4,BE,Cp];exact⟨ZD,hK s8 H8 h8 (st8.mono ZB)⟩
theorem VL {n:Nat}(hS:∀m,m<n->F6 m):Mn n:=by
 intro x F H w s N K hn ax h br aK hN hK;have qI:=ax;have bp:=x.size_eq;rw[St.ok_eq]at ax;obtain⟨kO,zH,cQ,Bc⟩:=ax;refine Qd BF Qa2f ?_;have retn:∀(e:Env) (s':LS) (H':Heap) (q:X),(q=.nrm\/q=.ret)->LInv F H' w s'->LStep s s' (10 * x.size)->Q4 Cp K q e H':=by
  intro e s' H' q hq a1 a2;rcases hq with rfl|rfl <;> exact⟨by simp[Cp],hK s' H' a1 a2⟩
 refine Zx ?_;refine Wa ?_;refine Wu ?_ ?_
 ·intro hc;refine Za ?_;rw[<-x.aG];refine YX hS x F H w s N _ hn qI h br aK hN λs1 H1 h1 st1=>?_;simp only[HJ];refine Zi ?_;exact retn _ s1 H1 _ (.inr rfl) h1 st1
 intro dd;refine Zd ?_;refine Wj ?_;refine Qh (Qe (Qw (λn e1 H1=>∃(i:Nat) (ars:List Int) (c:C) (Lg:Ul) (s':LS),n=x.args.length-i/\i<=x.args.length/\ars.length=i/\Gr Lg 1 (Qb ars) c/\LInv F H1 w s'/\Kn F H1 [] (s'.L w++Lg)/\
  LStep s s' (10 * BZ (x.args.take i))/\e1=[(0,Up w),(3,.c (.pp [Ui x.op,.str x.name,.sl false 4 (BW x.args),.sl false 5 (BO x.body),.sl false 5 (BO x.els)])),(4,.c c),(5,Uv i)]) x.args.length ?_ ?_))
 ·exact⟨0,[],_,[],s,ZB,ZB,rfl,.nil 1,h,by simpa using h.kn,(LStep.refl s).mono ZB,rfl⟩
 ·rintro n e1 H1 ⟨i,ars,c,Lg,s1,cO,hi,uO,aq,h1,kn,st1,rfl⟩;refine Q1 (Qa ?_);simp only[go_sem,Da];intro hl;simp only[LIM]at hl;refine Wu ?_ ?_
  ·intro hc;have af:i<x.args.length:=ZE
   have hm:=I3 (Jb af);have bF:=TH af;have nI:=Vy x.args (i+1);refine Zd ?_;refine Qh (Qe (Qp ?_));simp only[go_sem,af,Da,GD _ _ af,Ex.cD,Ex.bv,Ex.az];obtain⟨F',hf,back⟩:=h1.beside kn aq;refine Mj _ _ F' H1 w s1 _ _ (Je _) (Ia zH _ (Jb af)) hf (st1.at_ br) (st1.ok _ aK) ZB λv s2 H2 h2 st2=>?_;obtain⟨h2,kn⟩:=back s2 H2 h2;simp only[go_sem,Qu1];refine kn.grow (new:=Qb [v]) aq (.mk' _ _ _ _) (Qq _) (by simp only[Qc,uO,Jk,Jn,LIM];omega) λy' H3 kn=>?_;simp only[go_sem,Qu0];refine Zg ?_;refine⟨Qs,x.args.length-(i+1),ZB,i+1,ars++[v],_,_,s2,rfl,ZB,by simp[uO],.mk y' 1 (Qb (ars++[v])) (n:=(Qb ars).length+(Qb [v]).length) Zaq,h2.re kn.drop,by rw[D8];exact kn,(st1.trans st2).mono (by rw[bF];omega),Zaq⟩
  ·intro hc;have bh:x.args.length<=i:=ZE
   have cM:i=x.args.length:=ZB
   rw[Jd bh]at st1;have kN:0<ars.length:=ZB
   refine Zb ?_;refine Q1 ?_;obtain⟨S,H2,f1,f2,kn2⟩:=aq.freeze kn (Qq _);have h2:=h1.re kn2;refine c_gh (E7 S (λt=>?_) f2) (e':=[(0,Up w),(3,.c (.pp [Ui x.op,.str x.name,.sl false 4 (BW x.args),.sl false 5 (BO x.body),.sl false 5 (BO x.els)])),(4,.c (.sl false 1 (Qb ars)))]) ?_
   ·simp only[lk];split
    ·exact .c _ _ (.same _ rfl)
    ·split
     ·exact .c _ _ (.same _ rfl)
     ·split
      ·exact .c _ _ f1
      ·exact .unk _
   have dz:=st1.ok _ aK;have kM:=st1.at_ br;have lN:=h2.hw;refine Za ?_;refine Wq ?_;refine Wv ?_ ?_
   ·
    intro hc;refine Qa ?_;simp only[go_sem,lN,LS.o];refine Ej h2 kM dz ZB λs3 H3 h3 st3=>?_;have sZ:=h3.hw;have lO:=h3.gv.ai;have lV:=st3.ok _ dz;have st3:=st1.trans st3;simp only[go_sem];refine BM ?_;simp only[go_sem,sZ,LS.o,lO];refine h3.addVar ⟨x.name,s3.next,0,rfl⟩ (by have:=lV.v1;simp only[LIM];omega) λy H4 sY cont=>?_;simp only[go_sem,Qu2,sY,LS.o];intro H5 h5;have wb:=cont H5 h5;have wI:=wb.hw;refine Qp ?_;have cC:=lV.n0;have cO:=lV.n1;simp only[go_sem,wI,LS.o];refine⟨Qs,λH6 h6=>?_⟩;have h6':=wb.setw (s':={ s3 with vc:=.ah y 3 0 (s3.vars.length+1),lv:=[(y,.vec 3 (s3.vars++[[C.str x.name,C.int IntKind.i64 s3.next,C.int IntKind.i64 0]]))],vars:=s3.vars++[[C.str x.name,C.int IntKind.i64 s3.next,C.int IntKind.i64 0]],next:=s3.next+1 }) h6 rfl rfl rfl rfl wb.gv wb.rv;refine retn _ _ H6 _ (.inl rfl) h6' ⟨st3.bl,λM hM=>?_,?_,st3.at_,st3.fn⟩
    ·have q:=st3.ok M hM;refine⟨q.r0,?_,?_,?_,?_,λb hb=>?_,?_⟩
     ·have:=q.r1;show s3.ae<=_;omega
     ·have:=q.n0;show 0<=s3.next+1;omega
     ·have:=q.n1;show s3.next+1<=_;omega
     ·have:=q.b1;show s3.blocks.length<=_;omega
     ·have:=q.i1 b hb;omega
     ·have:=q.v1;simp;omega
    ·have:=st3.vl;simp;omega
   intro bH;refine Za ?_;refine Wv ?_ ?_
   ·
    intro hc;refine Zh ?_;refine Mf h2 λv=>?_;simp only[go_sem,Qu3];refine Ej h2 kM dz ZB λs3 H3 h3 st3=>?_;exact retn _ _ H3 _ (.inl rfl) h3 ((st1.trans st3).mono ZB)
   intro aD;refine Za ?_;refine Wv ?_ ?_
   ·intro hc;refine Zh ?_;refine Ej h2 kM dz ZB λs3 H3 h3 st3=>?_;exact retn _ _ H3 _ (.inl rfl) h3 ((st1.trans st3).mono ZB)
   intro bA;refine Za ?_;refine Wv ?_ ?_
   ·intro hc;refine Zh ?_;refine Ej h2 kM dz ZB λs3 H3 h3 st3=>?_;exact retn _ _ H3 _ (.inl rfl) h3 ((st1.trans st3).mono ZB)
   intro ef;refine Za ?_;refine Wv ?_ ?_
   ·
    intro hc;refine BY ?_;simp only[go_sem,kN,Qc,Qk _ _ kN];refine⟨ZB,?_⟩;refine Fk h2 dz ZB λs3 H3 h3 st3 o8=>?_;have st3:=st1.trans st3;simp only[go_sem,Qo1,kN,Qc,Qk _ _ kN];refine⟨ZB,?_⟩;refine EW (next:=[]) (N:=0) h3 (st3.at_ br) ZB λs4 H4 h4 st4=>?_;exact retn _ _ H4 _ (.inl rfl) h4 ((st3.trans st4).mono ZB)
   intro jh;refine Za ?_;refine Wv ?_ ?_
   ·
    intro hc;refine Za ?_;refine Fk h2 dz ZB λs3 H3 h3 st3 o8=>?_;have st3:=st1.trans st3;simp only[go_sem,Qo2];refine Za ?_;refine Fk h3 (st3.ok _ aK) ZB λs4 H4 h4 st4 Bo=>?_;have st4:=st3.trans st4;simp only[go_sem,Qo3];refine Za ?_;refine Fk h4 (st4.ok _ aK) ZB λs5 H5 h5 st5 Bn=>?_;have st5:=st4.trans st5;simp only[go_sem,Qo4];refine Qa ?_;simp only[go_sem,kN,Qc,Qk _ _ kN];refine⟨ZB,?_⟩;refine EW (next:=[(s1.blocks.length:Int),(s3.blocks.length:Int)]) (N:=0) h5 (st5.at_ br) ZB λs6 H6 h6 st6=>?_;have Bm:=st6.bl;have st6:=st5.trans st6;refine Za ?_;refine hS (Q9 x.body) ZB x.body _ F H6 w s6 _ _ (Je _) cQ h6 (st6.at_ br) (st6.ok _ aK) ZB λs7 H7 h7 st7=>?_;have Bl:=st7.bl;have st7:=st6.trans st7;refine Za ?_;refine EW (next:=[(s4.blocks.length:Int)]) (N:=0) h7 (st7.at_ br) ZB λs8 H8 h8 st8=>?_;have hb8:=st8.bl;have st8:=st7.trans st8;refine Za ?_;refine hS (Q9 x.els) ZB x.els _ F H8 w s8 _ _ (Je _) Bc h8 (st8.at_ br) (st8.ok _ aK) ZB λs9 H9 h9 st9=>?_;have hb9:=st9.bl;have st9:=st8.trans st9;refine Zh ?_;refine EW (next:=[(s4.blocks.length:Int)]) (N:=0) h9 (st9.at_ br) ZB λs10 H10 db st10=>?_;exact retn _ _ H10 _ (.inl rfl) db ((st9.trans st10).mono ZB)
   ·intro Bi;refine Zd ?_;exact retn _ _ H2 _ (.inl rfl) h2 (st1.mono ZB)
theorem Qb53 (n:Nat):F6 n:=by
 induction n using Nat.strongRecOn with
 |ind n ih=>exact Qbu0 (VL ih)
end Go.AE.Y
