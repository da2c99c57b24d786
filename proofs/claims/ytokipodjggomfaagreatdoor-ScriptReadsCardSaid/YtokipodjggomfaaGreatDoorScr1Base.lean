/- A part of the proof of ScriptReads: 1Base. Conditions: those of each theorem. -/
import Derived.Test.YtokipodjggomfaaGreatDoorScr1Shelf
import Derived.Test.YtokipodjggomfaaGreatDoorTxt3
import Derived.KernelRfl
noncomputable section
set_option linter.unusedVariables false
set_option linter.unusedSimpArgs false
namespace Go.Proofs.YtokipodjggomfaaGreatDoor
open Go.Proofs.YtokipodjggomfaaGreatDoor.Txt
noncomputable def kU:Abs.cA:=⟨⟨125,21,151,43,54,0,3,5,169,1,2,75,139,8⟩,⟨106,25⟩,⟨112,9⟩,⟨128,29⟩,⟨114,101⟩,⟨91,26⟩,⟨127,6⟩,⟨144,19⟩,⟨113,54⟩,⟨92,51⟩,⟨109,52⟩,⟨62,16⟩,⟨129,19⟩,⟨110,16⟩,⟨107,28⟩,⟨108,40⟩,⟨111,25⟩,⟨68,67⟩,⟨24,22⟩,⟨51,29⟩,⟨23,58⟩,⟨8,90⟩,⟨80,45⟩,⟨82,56⟩,⟨75,15⟩,⟨76,132⟩,⟨98,22⟩,⟨78,62⟩,⟨99,57⟩,⟨134,18⟩,⟨77,153⟩,⟨100,54⟩,⟨121,14⟩,⟨122,23⟩,⟨79,21⟩,⟨83,31⟩,⟨84,50⟩,⟨81,27⟩,⟨56,69⟩,⟨123,125⟩,⟨85,21⟩,⟨86,42⟩,⟨30,36⟩,⟨55,23⟩,⟨26,24⟩,⟨29,50⟩,⟨28,60⟩,⟨9,94⟩,22,5,73,24,26,108,104,90⟩
noncomputable abbrev ag:TypeId:=24
noncomputable def kC:Abs.EG:=⟨53,115,129,22,24,3,27,8,17,38,19⟩
noncomputable def kQ:Abs.PQ:={ all:=(Bh ag (iS true (PT true) (PR true) [125])),acd:=(qW (iS true (PT true) (PR true) [125])),acb:=(pQ ag (λl=>cT true l [125])),a6d:=(iP ag (λl=>cT true l [125])),amg:=(xV ag),aca:=nL,ab9:=(pP ag),a6c:=(jH ag),cpl:=om,a78:=mf,a1d:=iz,a4p:=nK,a5X:=iN,dec:=ux,abu:=(hK (jr true (PR true))),a0F:=(jq ag (jr true (PR true))),abt:=(pO ag),a5S:=(iM ag),hex:=vl,idf:=zw,aa2:=pM,«is»:=iy,isN:=cY,itm:=(vk ag),aa0:=(ly ag),aaZ:=(lv ag),a5O:=(gI ag),lst:=(jq ag (gJ (PT true) (PR true))),aaT:=(hK (gJ (PT true) (PR true))),aaS:=(qH ag (b5 true)),a5K:=(ku ag (b5 true)),ltr:=vj,aaR:=oF,mk2:=(h9 ag),mkl:=(CP ag),aaN:=(oE ag),ngd:=vR,aaM:=lu,zB:=zu,aaL:=oD,nmd:=(fM ag),aaK:=dH,noR:=lW,aaI:=fg,num:=eu,a7i:=bU,own:=(rN ag),aaB:=(ec ag),pln:=jG,a3e:=et,aay:=bp,aax:=oC,aaw:=me,aav:=gW,aau:=(oB ag),aat:=(mc ag),prt:=(Bg ag),aas:=(pL ag),aar:=(pK ag),a5D:=(km ag),qq:=lV,qqN:=gy,a61:=dp,quo:=h4,rd:=(Eu ag),rdN:=lU,rfn:=(jq ag Aq),aai:=(cK ag Aq),rls:=(jq ag zn),aah:=(cK ag zn),aag:=(qH ag kJ),a5z:=(ft ag kJ),rtm:=(jq ag (PT false)),a98:=(cK ag (PT false)),sml:=zr,a9Y:=oA,trm:=(jq ag (PT true)),a9W:=(hK (PT true)),wds:=(vQ ag),a9M:=(nJ ag),win:=rL,a9K:=jB,wrd:=ll,a9J:=s3 }
noncomputable def kK:TypeId->List Abs.Kd:=Abs.aA (Abs.iD Tryz.prog (λ_=>false) [])
noncomputable def kB:Nat:=40000
noncomputable section
noncomputable abbrev rP(p:Abs.PD)(l:List Nat):Abs.Fact:=.rel "" false p (l.map .var)
noncomputable abbrev rM(p:Abs.PD)(l:List Nat):Abs.Fact:=.rel "" true p (l.map .var)
noncomputable abbrev rR(p:Abs.PD)(l:List Abs.SE):Abs.Fact:=.rel "" false p l
noncomputable abbrev rQ(p:Abs.PD)(l:List Abs.SE):Abs.Fact:=.rel "" true p l
noncomputable abbrev fT:Abs.SE->Abs.Fact:=.tr
noncomputable abbrev fF:Abs.SE->Abs.Fact:=.fl
noncomputable abbrev fI:Abs.SE->Abs.SE->Abs.Fact:=.inr
noncomputable abbrev v(n:Nat):Abs.SE:=.var n
noncomputable abbrev i6(n:Int):Abs.SE:=.int .i64 n
noncomputable abbrev u8(n:Int):Abs.SE:=.int .u8 n
noncomputable abbrev pl(a b:Abs.SE):Abs.SE:=.a2 (.bin .add) a b
noncomputable abbrev mi(a b:Abs.SE):Abs.SE:=.a2 (.bin .sub) a b
noncomputable abbrev eq(a b:Abs.SE):Abs.SE:=.a2 (.bin .eql) a b
noncomputable abbrev lq(a b:Abs.SE):Abs.SE:=.a2 (.bin .leq) a b
noncomputable abbrev lt(a b:Abs.SE):Abs.SE:=.a2 (.bin .lss) a b
noncomputable abbrev ne(a b:Abs.SE):Abs.SE:=.a2 (.bin .neq) a b
noncomputable abbrev gq(a b:Abs.SE):Abs.SE:=.a2 (.bin .geq) a b
noncomputable abbrev gt(a b:Abs.SE):Abs.SE:=.a2 (.bin .gtr) a b
noncomputable abbrev qu(a b:Abs.SE):Abs.SE:=.a2 (.bin .quo) a b
noncomputable abbrev re(a b:Abs.SE):Abs.SE:=.a2 (.bin .rem) a b
noncomputable abbrev mu(a b:Abs.SE):Abs.SE:=.a2 (.bin .mul) a b
noncomputable abbrev ix(a b:Abs.SE):Abs.SE:=.a2 .idx a b
noncomputable abbrev sn(a b:Abs.SE):Abs.SE:=.a2 .sn a b
noncomputable abbrev s4(x a b c d:Abs.SE):Abs.SE:=.a2 .sn (.a2 .sn (.a2 .sn (.a2 .sn x a) b) c) d
noncomputable abbrev tk(n:Nat)(a b:Abs.SE):Abs.SE:=.a2 (.tk n) a b
noncomputable abbrev ln1(a:Abs.SE):Abs.SE:=.a1 .len a
noncomputable abbrev n4:Abs.SE:=.a1 (.nl [.int .i64,.int .i64,.str,.sl ag]) (.bool true)
noncomputable abbrev ns:Abs.SE:=.a1 (.ns ag 4) (.bool true)
noncomputable abbrev ld(j:Nat)(a b:Abs.SE):Abs.SE:=.a1 (.ld j) (.a2 .el a b)
noncomputable abbrev aR(a b c:Abs.SE):Abs.SE:=.a3 .sub a b c
noncomputable abbrev cX:Abs.SE:=.str []
noncomputable abbrev aG:Abs.SE:=.int .i64 0
noncomputable abbrev aw:Abs.SE:=.int .i64 1
noncomputable abbrev xX:Abs.SE:=.int .i64 10
noncomputable abbrev rj:Abs.SE:=.int .i64 10000
noncomputable abbrev aQ:Abs.SE:=.int .i64 1073741824
noncomputable abbrev aa4:Abs.SE:=.int .i64 16
noncomputable abbrev fZ:Abs.SE:=.int .i64 2
noncomputable abbrev aa3:Abs.SE:=.int .i64 20
noncomputable abbrev ri:Abs.SE:=.int .i64 20000
noncomputable abbrev i_3:Abs.SE:=.int .i64 3
noncomputable abbrev i_4:Abs.SE:=.int .i64 4
noncomputable abbrev Pu:Abs.SE:=.int .i64 40
noncomputable abbrev Mp:Abs.SE:=.int .i64 4000
noncomputable abbrev aE:Abs.SE:=.int .i64 4200
noncomputable abbrev Qs:Abs.SE:=.int .i64 5
noncomputable abbrev bV:Abs.SE:=.int .i64 576460752303423487
noncomputable abbrev i_6:Abs.SE:=.int .i64 6
noncomputable abbrev tj:Abs.SE:=.int .i64 64
noncomputable abbrev i_7:Abs.SE:=.int .i64 7
noncomputable abbrev tV:Abs.SE:=.int .i64 8
noncomputable abbrev vf:Abs.SE:=.int .i64 9
noncomputable abbrev Sa:Abs.SE:=.int .i64 (.ofNat 0)
noncomputable abbrev kE:Abs.SE:=.int .i64 (.ofNat 1)
noncomputable abbrev BR:Abs.SE:=.int .i64 (.ofNat 1073741824)
noncomputable abbrev uP:Abs.SE:=.int .i64 (.ofNat 1073741825)
noncomputable abbrev j_2:Abs.SE:=.int .i64 (.ofNat 2)
noncomputable abbrev j_3:Abs.SE:=.int .i64 (.ofNat 3)
noncomputable abbrev j_4:Abs.SE:=.int .i64 (.ofNat 4)
noncomputable abbrev j_5:Abs.SE:=.int .i64 (.ofNat 5)
noncomputable abbrev nQ:Abs.SE:=.int .i64 (.ofNat 576460752303423487)
noncomputable abbrev j_6:Abs.SE:=.int .i64 (.ofNat 6)
noncomputable abbrev a3O:Abs.SE:=.int .i64 (.ofNat 64)
noncomputable abbrev a3N:Abs.SE:=.int .i64 (.ofNat 65536)
noncomputable abbrev j_7:Abs.SE:=.int .i64 (.ofNat 7)
noncomputable abbrev j_8:Abs.SE:=.int .i64 (.ofNat 8)
noncomputable abbrev j_9:Abs.SE:=.int .i64 (.ofNat 9)
noncomputable abbrev fv:Abs.SE:=ln1 (v 10)
noncomputable abbrev bz:Abs.SE:=ln1 (v 11)
noncomputable abbrev iB:Abs.SE:=ln1 (v 12)
noncomputable abbrev WC:Abs.SE:=ln1 (v 13)
noncomputable abbrev acO:Abs.SE:=ln1 (v 15)
noncomputable abbrev a0p:Abs.SE:=ln1 (v 16)
noncomputable abbrev hO:Abs.SE:=ln1 (v 17)
noncomputable abbrev ju:Abs.SE:=ln1 (v 18)
noncomputable abbrev EA:Abs.SE:=ln1 (v 19)
noncomputable abbrev Ez:Abs.SE:=ln1 (v 22)
noncomputable abbrev xW:Abs.SE:=ln1 (v 23)
noncomputable abbrev Pk:Abs.SE:=ln1 (v 24)
noncomputable abbrev a0o:Abs.SE:=ln1 (v 25)
noncomputable abbrev Mi:Abs.SE:=ln1 (v 26)
noncomputable abbrev a7u:Abs.SE:=ln1 (v 27)
noncomputable abbrev a7t:Abs.SE:=ln1 (v 28)
noncomputable abbrev a7s:Abs.SE:=ln1 (v 29)
noncomputable abbrev WB:Abs.SE:=ln1 (v 30)
noncomputable abbrev aaX:Abs.SE:=ln1 (v 31)
noncomputable abbrev aaW:Abs.SE:=ln1 (v 32)
noncomputable abbrev a3M:Abs.SE:=ln1 (v 33)
noncomputable abbrev a0n:Abs.SE:=ln1 (v 34)
noncomputable abbrev aaV:Abs.SE:=ln1 (v 35)
noncomputable abbrev eR:Abs.SE:=ln1 (v 8)
noncomputable abbrev cj:Abs.SE:=ln1 (v 9)
noncomputable abbrev bo:Abs.SE:=pl (v 10) (i6 1)
noncomputable abbrev dz:Abs.SE:=pl (v 11) (i6 1)
noncomputable abbrev bK:Abs.SE:=pl (v 12) (i6 1)
noncomputable abbrev lY:Abs.SE:=pl (v 13) (i6 1)
noncomputable abbrev ca:Abs.SE:=pl (v 14) (i6 1)
noncomputable abbrev kL:Abs.SE:=pl (v 15) (i6 1)
noncomputable abbrev acK:Abs.SE:=pl (v 17) (i6 1)
noncomputable abbrev lB:Abs.SE:=pl (v 18) (i6 1)
noncomputable abbrev eK:Abs.SE:=pl (v 19) (i6 1)
noncomputable abbrev oX:Abs.SE:=pl (v 20) (i6 1)
noncomputable abbrev lX:Abs.SE:=pl (v 23) (i6 1)
noncomputable abbrev p_8:Abs.SE:=pl (v 8) (i6 1)
noncomputable abbrev V8:Abs.SE:=pl (v 9) (i6 1)
noncomputable abbrev aaq:Abs.SE:=pl (v 10) (.int .i64 (.ofNat 1))
noncomputable abbrev a27:Abs.SE:=pl (v 13) (.int .i64 (.ofNat 1))
noncomputable abbrev a26:Abs.SE:=pl (v 17) (.int .i64 (.ofNat 1))
noncomputable abbrev u_0:Abs.SE:=.int .u8 0
noncomputable abbrev Jj:Abs.SE:=.int .u8 1
noncomputable abbrev a2o:Abs.SE:=.int .u8 10
noncomputable abbrev a5w:Abs.SE:=.int .u8 102
noncomputable abbrev Tu:Abs.SE:=.int .u8 120
noncomputable abbrev Dz:Abs.SE:=.int .u8 122
noncomputable abbrev a5v:Abs.SE:=.int .u8 123
noncomputable abbrev Tt:Abs.SE:=.int .u8 126
noncomputable abbrev Em:Abs.SE:=.int .u8 15
noncomputable abbrev xR:Abs.SE:=.int .u8 16
noncomputable abbrev Iq:Abs.SE:=.int .u8 32
noncomputable abbrev sT:Abs.SE:=.int .u8 39
noncomputable abbrev El:Abs.SE:=.int .u8 45
noncomputable abbrev oP:Abs.SE:=.int .u8 48
noncomputable abbrev AU:Abs.SE:=.int .u8 57
noncomputable abbrev a9V:Abs.SE:=.int .u8 60
noncomputable abbrev a2n:Abs.SE:=.int .u8 64
noncomputable abbrev a2m:Abs.SE:=.int .u8 65
noncomputable abbrev a2l:Abs.SE:=.int .u8 90
noncomputable abbrev a9U:Abs.SE:=.int .u8 91
noncomputable abbrev vi:Abs.SE:=.int .u8 92
noncomputable abbrev a2k:Abs.SE:=.int .u8 95
noncomputable abbrev FX:Abs.SE:=.int .u8 97
noncomputable abbrev af:Abs.SE:=.var 10
noncomputable abbrev aj:Abs.SE:=.var 11
noncomputable abbrev ar:Abs.SE:=.var 12
noncomputable abbrev aq:Abs.SE:=.var 13
noncomputable abbrev au:Abs.SE:=.var 14
noncomputable abbrev aT:Abs.SE:=.var 15
noncomputable abbrev aB:Abs.SE:=.var 16
noncomputable abbrev aK:Abs.SE:=.var 17
noncomputable abbrev aY:Abs.SE:=.var 18
noncomputable abbrev bI:Abs.SE:=.var 19
noncomputable abbrev bC:Abs.SE:=.var 20
noncomputable abbrev dG:Abs.SE:=.var 21
noncomputable abbrev bT:Abs.SE:=.var 22
noncomputable abbrev cQ:Abs.SE:=.var 23
noncomputable abbrev cG:Abs.SE:=.var 24
noncomputable abbrev cW:Abs.SE:=.var 25
noncomputable abbrev di:Abs.SE:=.var 26
noncomputable abbrev er:Abs.SE:=.var 27
noncomputable abbrev eJ:Abs.SE:=.var 28
noncomputable abbrev gj:Abs.SE:=.var 29
noncomputable abbrev fq:Abs.SE:=.var 30
noncomputable abbrev oj:Abs.SE:=.var 31
noncomputable abbrev oi:Abs.SE:=.var 32
noncomputable abbrev FV:Abs.SE:=.var 33
noncomputable abbrev jo:Abs.SE:=.var 34
noncomputable abbrev zd:Abs.SE:=.var 35
noncomputable abbrev FU:Abs.SE:=.var 36
noncomputable abbrev KV:Abs.SE:=.var 37
noncomputable abbrev FT:Abs.SE:=.var 38
noncomputable abbrev a9P:Abs.SE:=.var 39
noncomputable abbrev aX:Abs.SE:=.var 8
noncomputable abbrev aH:Abs.SE:=.var 9
noncomputable abbrev fE:Abs.PD:=Abs.CU (.int .i64)
noncomputable abbrev kdU:Abs.PD:=Abs.CU (.int .u8)
noncomputable abbrev iE:Abs.PD:=Abs.CU .str
noncomputable abbrev cZ:=Abs.pTr
noncomputable abbrev eC:=Abs.Wb
noncomputable abbrev eQ:=Abs.Rv
noncomputable abbrev cJ:=Abs.LL
noncomputable abbrev eS:=Abs.OG
noncomputable abbrev sN:=Abs.Wc
noncomputable abbrev sM:=Abs.LM
noncomputable abbrev qD:=Abs.Zw
noncomputable abbrev Ao:=Abs.a68
end
theorem kN:kK ag=kT ag:=by kernel_rfl
noncomputable def kX:List (FuncId×Abs.Ext):=[(89,.index 0),(90,.BI),(135,.indexByte)]
set_option maxRecDepth 100000 in
theorem acR:Abs.a1Z Tryz.prog kX:=⟨⟨⟨_,Tryz.func89⟩,λs sub m w a b=>Tryz.strings_Index s sub m w a b⟩,⟨_,(by kernel_rfl:Tryz.prog.funcs[90]? =some (Tryz.prog.funcs[90]?.getD default)),by kernel_rfl,by kernel_rfl,by kernel_rfl,by kernel_rfl⟩,⟨_,(by kernel_rfl:Tryz.prog.funcs[135]? =some (Tryz.prog.funcs[135]?.getD default)),by kernel_rfl,by kernel_rfl,by kernel_rfl,by kernel_rfl⟩,eI⟩
set_option maxRecDepth 100000 in
theorem a7v:Abs.KT Tryz.prog=true:=by kernel_rfl
set_option maxRecDepth 100000 in
theorem acP:Abs.G0 Tryz.prog.funcs.toList=true:=by kernel_rfl
theorem zH:Tryz.prog.follows .mixedOrders=true:=by kernel_rfl
noncomputable def BQ(K L:List Abs.bX):Abs.Ctx:=Abs.iD Tryz.prog (λ_=>false) kX K L
theorem Hf{K L:List Abs.bX}(a:∀c∈L,Abs.j3 Tryz.prog c)(b:∀c∈K,Abs.fy Tryz.prog c):Abs.Good (BQ K L):=Abs.a0B a b a7v acP (Abs.UN acR)
theorem kBe:kB=40000:=rfl
end Go.Proofs.YtokipodjggomfaaGreatDoor
