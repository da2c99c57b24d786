/- Part 2 of the plain laws of the texts of the statement. Conditions: those of each theorem. -/
import Derived.Test.YtokipodjggomfaaGreatDoorTxt1
noncomputable section
set_option linter.unusedVariables false
set_option linter.unusedSimpArgs false
namespace Go.Proofs.YtokipodjggomfaaGreatDoor.Abs
structure jJ where
 f:Nat
 nt:Nat
structure cA where
 L:jy
 is_:jJ
 sml:jJ
 ltr:jJ
 num:jJ
 pln:jJ
 plF:jJ
 idf:jJ
 cpl:jJ
 quo:jJ
 cqu:jJ
 mkl:jJ
 bck:jJ
 zB:jJ
 all:jJ
 lst:jJ
 a0F:jJ
 trm:jJ
 rd:jJ
 itm:jJ
 nmd:jJ
 prs:jJ
 sts:jJ
 eat:jJ
 win:jJ
 a6W:jJ
 dec:jJ
 aac:jJ
 aaz:jJ
 wrd:jJ
 a99:jJ
 acF:jJ
 ac8:jJ
 mk2:jJ
 ngd:jJ
 amg:jJ
 aaf:jJ
 acy:jJ
 acx:jJ
 own:jJ
 prt:jJ
 wds:jJ
 rdR:jJ
 itR:jJ
 a4p:jJ
 noR:jJ
 spn:jJ
 acI:jJ
 tL:Nat
 tB:Nat
 tBu:Nat
 tT:Nat
 tD:Nat
 acq:Nat
 tF:Nat
 tRd:Nat
structure PQ where
 all:PD
 acd:PD
 acb:PD
 a6d:PD
 amg:PD
 aca:PD
 ab9:PD
 a6c:PD
 cpl:PD
 a78:PD
 a1d:PD
 a4p:PD
 a5X:PD
 dec:PD
 abu:PD
 a0F:PD
 abt:PD
 a5S:PD
 hex:PD
 idf:PD
 aa2:PD
 is:PD
 isN:PD
 itm:PD
 aa0:PD
 aaZ:PD
 a5O:PD
 lst:PD
 aaT:PD
 aaS:PD
 a5K:PD
 ltr:PD
 aaR:PD
 mk2:PD
 mkl:PD
 aaN:PD
 ngd:PD
 aaM:PD
 zB:PD
 aaL:PD
 nmd:PD
 aaK:PD
 noR:PD
 aaI:PD
 num:PD
 a7i:PD
 own:PD
 aaB:PD
 pln:PD
 a3e:PD
 aay:PD
 aax:PD
 aaw:PD
 aav:PD
 aau:PD
 aat:PD
 prt:PD
 aas:PD
 aar:PD
 a5D:PD
 qq:PD
 qqN:PD
 a61:PD
 quo:PD
 rd:PD
 rdN:PD
 rfn:PD
 aai:PD
 rls:PD
 aah:PD
 aag:PD
 a5z:PD
 rtm:PD
 a98:PD
 sml:PD
 a9Y:PD
 trm:PD
 a9W:PD
 wds:PD
 a9M:PD
 win:PD
 a9K:PD
 wrd:PD
 a9J:PD
def nv(n:Nat):AV:=.cE (.int .i64) (.var n)
def o6(n:Nat):AV:=.cE .str (.var n)
def vs(l:List Nat):List SE:=l.map .var
def rl(p:PD)(l:List Nat):Fact:=.rel "" false p (vs l)
def gm(u:jy):List (Nat×CB):=[So u.F2 u.vm,Pz u.En u.I2,Pz u.En u.I3,a0D u.Vz u.Mv]
def cur(u:cA)(b:Nat)(s p:Nat):Nat×CB:=(b,.cells u.acq [o6 s,nv p] 0 false false)
def Cx(u:cA)(b:Nat)(s p:Nat)(bad:Bool):Nat×CB:=(b,.cells u.tRd [o6 s,nv p,.bool bad] 0 false false)
def Pf(s:Nat):SE:=.a2 (.bin .add) (.a1 .len (.var s)) (.int .i64 (.ofNat 1))
def short(s:Nat):Fact:=.tr (.a2 (.bin .leq) (.a1 .len (.var s)) (.int .i64 (.ofNat 4200)))
def place(s p:Nat):Fact:=.inr (.var p) (Pf s)
def vT(s p:Nat):Fact:=.inr (.var p) (.a2 (.bin .add) (.a1 .len (.var s)) (.int .i64 (.ofNat 2)))
def xC(a:Nat):SE:=.a2 (.bin .sub) (.var a) (.int .i64 (.ofNat 1))
def Hb(a b:Nat):Fact:=.tr (.a2 (.bin .leq) (.var a) (.var b))
def most(a n:Nat):Fact:=.tr (.a2 (.bin .leq) (.a1 .len (.var a)) (.int .i64 (.ofNat n)))
def fault(u:cA):AV:=.iface u.tF (.agg [])
def a1A(n:Nat):AV:=.agg [.int .i64 2,.int .i64 0,o6 n,.dq]
def vC(u:cA)(n:Nat):AV:=.agg [nv n,nv (n+1),o6 (n+2),.cE (.sl u.tT) (.var (n+3))]
def a9g:AV:=.agg [.int .i64 0,.int .i64 0,.str [],.dq]
def S5:AV:=.agg [.int .i64 0,.int .i64 0,.str [],.int .i64 0,.int .i64 0,.str [],.dq,.dq]
def Cm(u:cA)(b:Nat):Nat×CB:=(b,.cells u.tT [.int .i64 0,.int .i64 0,.str [],.dq] 0 false false)
def P2(u:cA)(b n:Nat):Nat×CB:=(b,.cells u.tT [nv n,nv (n+1),o6 (n+2),.cE (.sl u.tT) (.var (n+3))] 0 false false)
def a50(u:cA)(b:Nat):Nat×CB:=(b,.cells u.tD [.int .i64 0,.int .i64 0,.str [],.int .i64 0,.int .i64 0,.str [],.dq,.dq] 0 false false)
def entry(P:Program)(f:jJ)(t:List (Nat×AV))(n:Nat)(pre:List (Nat×CB))(facts:List Fact)(outs:List ee):bX:={ fn:=f.f,nt:=f.nt,round:=none,t,todo:=Dm P f.f,n,pre,facts,outs }
def fx(P:Program)(f:jJ)(i:Nat)(t:List (Nat×AV))(n:Nat)(pre:List (Nat×CB))(facts:List Fact)(outs:List ee):bX:={ fn:=f.f,nt:=f.nt,round:=none,t,todo:=BK P f.f i,n,pre,facts,outs }
def xZ(l:List Nat)(a pN:PD):List ee:=[{ res:=.bool true,post:=[],facts:=[rl a l],m:=0 },{ res:=.bool false,post:=[],facts:=[rl pN l],m:=0 }]
def abA(P:Program)(u:cA)(q:PQ):bX:=
 let g:=u.L.nG
 entry P u.is_ [(0,.ptr g 0),(1,o6 (g+1))] (g+4) [cur u g (g+2) (g+3)] [short (g+2),place (g+2) (g+3)]
  [{ res:=.bool true,post:=[cur u g (g+2) (g+4)],facts:=[rl q.is [g+2,g+3,g+1,g+4],place (g+2) (g+4)],m:=1 },
   { res:=.bool false,post:=[cur u g (g+2) (g+3)],facts:=[rl q.isN [g+2,g+3,g+1]],m:=0 }]
def a8d(P:Program)(u:cA)(q:PQ):bX:=entry P u.sml [(0,.cE (.int .u8) (.var u.L.nG))] (u.L.nG+1) [] [] (xZ [u.L.nG] q.sml q.a9Y)
def a8q(P:Program)(u:cA)(q:PQ):bX:=entry P u.ltr [(0,.cE (.int .u8) (.var u.L.nG))] (u.L.nG+1) [] [] (xZ [u.L.nG] q.ltr q.aaR)
def Ue(u:cA)(q:PQ)(g n s p lo V:Nat):List ee:=
 [{ res:=nv n,post:=[cur u g s (n+1)],facts:=[rl q.num [s,p,lo,V,n+1,n],place s (n+1)],m:=2 },
  { res:=fault u,post:=[],facts:=[rl q.a7i [s,p,lo,V]],m:=0,gv:=true }]
def a8k(P:Program)(u:cA)(q:PQ):bX:=
 let g:=u.L.nG
 entry P u.num [(0,.ptr g 0),(1,nv (g+1)),(2,nv (g+2))] (g+5) (cur u g (g+3) (g+4)::gm u.L) [short (g+3),place (g+3) (g+4)] (Ue u q g (g+5) (g+3) (g+4) (g+1) (g+2))
def Fm(P:Program)(u:cA)(q:PQ)(x:PD):bX:=
 let g:=u.L.nG
 fx P u.num 0 [(0,.ptr g 0),(1,nv (g+1)),(2,nv (g+2)),(7,nv (g+5))] (g+6) (cur u g (g+3) (g+4)::gm u.L)
  [short (g+3),place (g+3) (g+4),place (g+3) (g+5),Hb (g+5) (g+4),rl x [g+3,g+5,g+4]] (Ue u q g (g+6) (g+3) (g+5) (g+1) (g+2))
def a8i(P:Program)(u:cA)(q:PQ):bX:=entry P u.pln [(0,o6 u.L.nG)] (u.L.nG+1) (gm u.L) [short u.L.nG] (xZ [u.L.nG] q.pln q.a3e)
def Fu(P:Program)(u:cA)(q:PQ)(x:PD):bX:=
 let g:=u.L.nG
 fx P u.idf 0 [(0,.iI g (.var (g+2)) (.var (g+3))),(1,.fn (.func u.plF.f) [] []),(6,.iI g (.var (g+2)) (.var (g+3))),(7,nv (g+2)),(8,nv (g+4))] (g+5)
  [(g,.vec u.tB (.var (g+1)))] [rl x [g+1,g+2,g+4]]
  [{ res:=.int .i64 (.negSucc 0),post:=[],facts:=[rl q.idf [g+1]],m:=0 },
    { res:=nv (g+5),post:=[],facts:=[rl q.aa2 [g+1],.tr (.a2 (.bin .geq) (.var (g+5)) (.int .i64 (.ofNat 0)))],m:=1 }]
def FD(u:cA)(g n:Nat)(s:Nat)(p:SE)(a pN:PD):List ee:=
 [{ res:=a1A n,post:=[cur u g s (n+1)],facts:=[.rel "" false a [.var s,p,.var (n+1),.var n],place s (n+1)],m:=2 },
  { res:=fault u,post:=[],facts:=[.rel "" false pN [.var s,p]],m:=0,gv:=true }]
def a8w(P:Program)(u:cA)(q:PQ):bX:=
 let g:=u.L.nG
 entry P u.cpl [(0,.ptr g 0)] (g+3) (cur u g (g+1) (g+2)::gm u.L) [short (g+1),place (g+1) (g+2)] (FD u g (g+3) (g+1) (.var (g+2)) q.cpl q.a78)
def Fy(P:Program)(u:cA)(q:PQ)(x:PD):bX:=
 let g:=u.L.nG
 fx P u.cpl 0 [(0,.ptr g 0),(2,.ptr (g+1) 0),(3,nv (g+4))] (g+5) (cur u g (g+2) (g+3)::Cm u (g+1)::gm u.L)
  [short (g+2),place (g+2) (g+3),place (g+2) (g+4),Hb (g+4) (g+3),rl x [g+2,g+4,g+3]] (FD u g (g+5) (g+2) (.var (g+4)) q.cpl q.a78)
def Lw(q:PQ)(n s:Nat):List ee:=[{ res:=o6 n,post:=[],facts:=[rl q.quo [s,n]],m:=1 }]
def a8g(P:Program)(u:cA)(q:PQ):bX:=entry P u.quo [(0,o6 u.L.nG)] (u.L.nG+1) [] [short u.L.nG] (Lw q (u.L.nG+1) u.L.nG)
def Fk(P:Program)(u:cA)(q:PQ)(x:PD):bX:=
 let g:=u.L.nG
 fx P u.quo 0 [(3,.ptr g 0),(7,o6 (g+3)),(8,.iI (g+1) (.var (g+4)) (.var (g+5))),(9,nv (g+4)),(10,nv (g+6))] (g+10)
  [(g,.cells u.tBu [.ptr g 0,.iI (g+2) (.var (g+7)) (.var (g+8))] 0 false false),(g+1,.vec u.tB (.a1 .sb (.var (g+3)))),(g+2,.vec u.tB (.var (g+9)))]
  [rl x [g+3,g+4,g+6,g+9,g+7]] (Lw q (g+10) (g+3))
def a8v(P:Program)(u:cA)(q:PQ):bX:=
 let g:=u.L.nG
 entry P u.cqu [(0,.ptr g 0)] (g+3) (cur u g (g+1) (g+2)::gm u.L)
  [short (g+1),place (g+1) (g+2),.inr (xC (g+2)) (Pf (g+1)),.tr (.a2 (.bin .leq) (xC (g+2)) (.var (g+2)))] (FD u g (g+3) (g+1) (xC (g+2)) q.qq q.qqN)
def Fx(P:Program)(u:cA)(q:PQ)(x:PD):bX:=
 let g:=u.L.nG
 fx P u.cqu 0 [(0,.ptr g 0),(2,.ptr (g+1) 0),(3,nv (g+5)),(4,.iI (g+2) (.var (g+6)) (.var (g+7)))] (g+9) (cur u g (g+3) (g+4)::Cm u (g+1)::(g+2,.vec u.tB (.var (g+8)))::gm u.L)
  [short (g+3),place (g+3) (g+4),place (g+3) (g+5),Hb (g+5) (g+4),rl x [g+3,g+5,g+4,g+8,g+6]] (FD u g (g+9) (g+3) (.var (g+5)) q.qq q.qqN)
def a8p(P:Program)(u:cA)(q:PQ)(x:PD):bX:=
 let g:=u.L.nG
 entry P u.mkl [(0,.iI g (.var (g+1)) (.var (g+2))),(1,vC u (g+4))] (g+8) [(g,.vec u.tT (.var (g+3)))] [rl x [g+1,g+3,g+4,g+5,g+6,g+7]]
  [{ res:=vC u (g+8),post:=[],facts:=[rl q.mkl [g+1,g+3,g+4,g+5,g+6,g+7,g+8,g+9,g+10,g+11]],m:=4 }]
def aaO(P:Program)(u:cA)(g n:Nat):List (Nat×CB):=
 [(g,.loop .ready none u.mkl.f u.mkl.nt [(4,.ptr (g+1) 0),(3,.ptr (g+4) 0)] [9,10] (j8 P u.mkl.f 0).1 (j8 P u.mkl.f 0).2 (g+12)),(g+12,.fV []),Cm u (g+1),P2 u (g+4) n]
def Fq(P:Program)(u:cA)(q:PQ)(x:PD):bX:=
 let g:=u.L.nG
 fx P u.bck 0 [(0,.yield g),(1,.ptr (g+2) 0),(3,nv (g+5))] (g+17)
  ((g+2,.cells u.tL [.iI (g+3) (.var (g+6)) (.var (g+7))] 0 false false)::(g+3,.vec u.tT (.var (g+8)))::aaO P u g (g+13))
  [rl x [g+6,g+8,g+5,g+13,g+14,g+15,g+16]]
  [{ res:=.ji [],post:=aaO P u g (g+17),facts:=[rl q.aaN [g+8,g+5,g+13,g+14,g+15,g+16,g+17,g+18,g+19,g+20]],m:=4 }]
def a8n(P:Program)(u:cA)(q:PQ):bX:=
 let g:=u.L.nG
 entry P u.zB [(0,.ptr g 0),(1,nv (g+1)),(2,o6 (g+2))] (g+5) (cur u g (g+3) (g+4)::gm u.L) [short (g+3),place (g+3) (g+4)]
  [{ res:=.agg [nv (g+1),nv (g+5),.str [],.dq],post:=[cur u g (g+3) (g+6)],facts:=[rl q.zB [g+3,g+4,g+2,g+6,g+5],place (g+3) (g+6)],m:=2 },
   { res:=fault u,post:=[],facts:=[rl q.aaL [g+3,g+4,g+2]],m:=0,gv:=true }]
def Vj(u:cA)(g n s p:Nat)(a:List Nat)(b pN:PD):List ee:=
 [{ res:=.cE (.sl u.tT) (.var n),post:=[cur u g s (n+1)],facts:=[rl b ([s,p]++a++[n+1,n]),place s (n+1)],m:=2 },
  { res:=fault u,post:=[],facts:=[rl pN ([s,p]++a)],m:=0,gv:=true }]
def AW(u:cA)(g n s p:Nat)(a:List Nat)(b pN:PD):List ee:=
 [{ res:=vC u n,post:=[cur u g s (n+4)],facts:=[rl b ([s,p]++a++[n+4,n,n+1,n+2,n+3]),place s (n+4)],m:=5 },
  { res:=fault u,post:=[],facts:=[rl pN ([s,p]++a)],m:=0,gv:=true }]
def zV(P:Program)(u:cA)(f:jJ)(t:List (Nat×AV))(m:PD)(outs:Nat->List ee):bX:=
 let g:=u.L.nG
 entry P f ((0,.ptr g 0)::t) (g+3) (cur u g (g+1) (g+2)::gm u.L) [short (g+1),place (g+1) (g+2),rl m [g+1,g+2]] (outs g)
def a8x(P:Program)(u:cA)(q:PQ)(m:PD):bX:=zV P u u.all [(1,.str [125])] m λg=>Vj u g (g+3) (g+1) (g+2) [] q.all q.acd
def FA(P:Program)(u:cA)(q:PQ)(x:PD):bX:=
 let g:=u.L.nG
 fx P u.all 0 [(0,.ptr g 0),(1,.str [125]),(5,.iI (g+1) (.var (g+4)) (.var (g+5)))] (g+7) (cur u g (g+2) (g+3)::(g+1,.vec u.tT (.var (g+6)))::gm u.L)
  [short (g+2),place (g+2) (g+3),rl x [g+2,g+3,g+4,g+6]] (Vj u g (g+7) (g+2) (g+3) [g+4,g+6] q.acb q.a6d)
def a8r(P:Program)(u:cA)(q:PQ)(m:PD):bX:=zV P u u.lst [] m λg=>AW u g (g+3) (g+1) (g+2) [] q.lst q.aaT
def Fs(P:Program)(u:cA)(q:PQ)(x:PD):bX:=
 let g:=u.L.nG
 fx P u.lst 0 [(0,.ptr g 0),(2,.ptr (g+1) 0),(3,.ptr (g+2) 0),(4,.iI (g+3) (.var (g+6)) (.var (g+7)))] (g+9)
  (cur u g (g+4) (g+5)::Cm u (g+1)::(g+2,.cells u.tT [.int .i64 8,.int .i64 0,.str [],.dq] 0 false false)::(g+3,.vec u.tT (.var (g+8)))::gm u.L)
  [short (g+4),place (g+4) (g+5),rl x [g+4,g+5,g+6,g+8]] (AW u g (g+9) (g+4) (g+5) [g+6,g+8] q.aaS q.a5K)
def a8t(P:Program)(u:cA)(q:PQ)(m:PD):bX:=zV P u u.a0F [] m λg=>AW u g (g+3) (g+1) (g+2) [] q.a0F q.abu
def Fv(P:Program)(u:cA)(q:PQ)(x:PD):bX:=
 let g:=u.L.nG
 fx P u.a0F 0 [(0,.ptr g 0),(2,.ptr (g+1) 0),(3,.ptr (g+2) 0)] (g+10)
  (cur u g (g+4) (g+5)::Cm u (g+1)::(g+2,.cells u.tT [.int .i64 5,nv (g+9),.str [],.iI (g+3) (.var (g+6)) (.var (g+7))] 0 false false)::(g+3,.vec u.tT (.var (g+8)))::gm u.L)
  [short (g+4),place (g+4) (g+5),rl x [g+4,g+5,g+6,g+8]] (AW u g (g+10) (g+4) (g+5) [g+9,g+6,g+8] q.abt q.a5S)
def ML(P:Program)(u:cA)(q:PQ)(m:PD):bX:=zV P u u.trm [] m λg=>AW u g (g+3) (g+1) (g+2) [] q.trm q.a9W
def Zc(u:cA)(q:PQ):List ee:=
 let g:=u.L.nG
 [{ res:=.ji [vC u (g+1),.int .i64 0],post:=[],facts:=[rl q.rd [g,g+1,g+2,g+3,g+4]],m:=4 },
  { res:=.ji [a9g,.int .i64 4],post:=[],facts:=[rl q.rdN [g]],m:=0 }]
def abz(P:Program)(u:cA)(q:PQ):bX:=entry P u.rd [(0,o6 u.L.nG)] (u.L.nG+1) (gm u.L) [short u.L.nG] (Zc u q)
def UB(u:cA)(q:PQ)(n:Nat)(a:List Nat)(b pN:PD):List ee:=
 [{ res:=.ji [.cE (.sl u.tT) (.var n),.bool true],post:=[],facts:=[rl b (a++[n])],m:=1 },
  { res:=.ji [.cE (.sl u.tT) (.var n),.bool false],post:=[],facts:=[rl pN a],m:=1 }]
def a1g(P:Program)(u:cA)(f:jJ)(q:PQ)(x:PD):bX:=
 let g:=u.L.nG
 entry P f [(0,vC u g)] (g+4) [] [rl x [g,g+1,g+2,g+3]] (UB u q (g+4) [g,g+1,g+2,g+3] q.itm q.aa0)
def Ch(P:Program)(u:cA)(f:jJ)(q:PQ)(x:PD):bX:=
 let g:=u.L.nG
 fx P f 0 [(1,.ptr g 0),(2,.dq),(3,.bool false),(4,.iI (g+1) (.var (g+6)) (.var (g+7)))] (g+9) [P2 u g (g+2),(g+1,.vec u.tT (.var (g+8)))]
  [rl x [g+2,g+3,g+4,g+5,g+6,g+8]] (UB u q (g+9) [g+2,g+3,g+4,g+5,g+6,g+8] q.aaZ q.a5O)
def E9(u:cA)(q:PQ)(n s:Nat):List ee:=
 [{ res:=.ji [.agg [.int .i64 1,.int .i64 0,o6 n,.int .i64 0,.int .i64 0,.str [],.dq,.cE (.sl u.tT) (.var (n+1))],.bool true],post:=[],facts:=[rl q.nmd [s,n,n+1]],m:=2 },
  { res:=.ji [S5,.bool false],post:=[],facts:=[rl q.aaK [s]],m:=0 }]
def a8m(P:Program)(u:cA)(q:PQ):bX:=entry P u.nmd [(0,o6 u.L.nG)] (u.L.nG+1) (gm u.L) [short u.L.nG] (E9 u q (u.L.nG+1) u.L.nG)
def Fp(P:Program)(u:cA)(q:PQ)(x:PD):bX:=
 let g:=u.L.nG
 fx P u.nmd 0 [(0,o6 (g+1)),(2,.ptr g 0),(3,.bool false),(11,o6 (g+1)),(12,.cE (.int .i64) (.a1 .len (.var (g+1)))),(13,nv (g+2))] (g+3) (a50 u g::gm u.L)
  [short (g+1),place (g+1) (g+2),rl x [g+1,g+2]] (E9 u q (g+3) (g+1))
def a8c(P:Program)(u:cA)(q:PQ):bX:=entry P u.spn [(0,o6 u.L.nG)] (u.L.nG+1) [] [short u.L.nG] (E9 u q (u.L.nG+1) u.L.nG)
def Fh(P:Program)(u:cA)(q:PQ)(x:PD):bX:=
 let g:=u.L.nG
 fx P u.spn 0 [(0,o6 (g+1)),(2,.ptr g 0),(3,.bool false),(4,nv (g+2))] (g+3) [a50 u g] [short (g+1),place (g+1) (g+2),rl x [g+1,g+2]] (E9 u q (g+3) (g+1))
def T7(u:cA)(q:PQ):List ee:=
 let s:=u.L.nG
 let n:=u.L.nG+1
 [{ res:=.ji [S5,.int .i64 3],post:=[],facts:=[rl q.aax [s]],m:=0 },{ res:=.ji [S5,.int .i64 6],post:=[],facts:=[rl q.aaw [s]],m:=0 },{ res:=.ji [S5,.int .i64 4],post:=[],facts:=[rl q.aay [s]],m:=0 },
  { res:=.ji [.agg [.int .i64 1,.int .i64 0,o6 n,.int .i64 0,.int .i64 0,.str [],.dq,.cE (.sl u.tT) (.var (n+1))],.int .i64 0],post:=[],facts:=[rl q.aau [s,n,n+1]],m:=2 },
  { res:=.ji [.agg [nv n,nv (n+1),.str [],.int .i64 0,.int .i64 0,.str [],.dq,.dq],.int .i64 0],post:=[],facts:=[rl q.aav [s,n,n+1]],m:=2 },
  { res:=.ji [.agg [nv n,nv (n+1),.str [],nv (n+2),nv (n+3),o6 (n+4),.cE (.sl u.tT) (.var (n+5)),.dq],.int .i64 0],post:=[],facts:=[rl q.aat [s,n,n+1,n+2,n+3,n+4,n+5]],m:=6 }]
def a8h(P:Program)(u:cA)(q:PQ):bX:=entry P u.prs [(0,o6 u.L.nG)] (u.L.nG+1) (gm u.L) [short u.L.nG] (T7 u q)
def a4v(P:Program)(u:cA)(q:PQ):bX:=entry P u.acI [(0,o6 u.L.nG)] (u.L.nG+1) [] [short u.L.nG] (T7 u q)
def a8b(P:Program)(u:cA)(q:PQ):bX:=
 let g:=u.L.nG
 entry P u.sts [(0,.ptr g 0),(1,o6 (g+1))] (g+4) [Cx u g (g+2) (g+3) false] [short (g+2),place (g+2) (g+3)]
  [{ res:=.bool true,post:=[Cx u g (g+2) (g+3) false],facts:=[.rel "" false q.is [.var (g+2),.var (g+3),.var (g+1),.a2 (.bin .add) (.var (g+3)) (.a1 .len (.var (g+1)))]],m:=0 },
   { res:=.bool false,post:=[Cx u g (g+2) (g+3) false],facts:=[rl q.isN [g+2,g+3,g+1]],m:=0 }]
def a8u(P:Program)(u:cA)(q:PQ):bX:=
 let g:=u.L.nG
 entry P u.eat [(0,.ptr g 0),(1,o6 (g+1))] (g+4) [Cx u g (g+2) (g+3) false] [short (g+2),place (g+2) (g+3)]
  [{ res:=.ji [],post:=[Cx u g (g+2) (g+4) false],facts:=[rl q.is [g+2,g+3,g+1,g+4],place (g+2) (g+4)],m:=1 },
   { res:=.ji [],post:=[Cx u g (g+2) (g+4) true],facts:=[rl q.isN [g+2,g+3,g+1]],m:=1 }]
def a8a(P:Program)(u:cA)(q:PQ):bX:=
 let g:=u.L.nG
 entry P u.win [(0,.cE (.int .u8) (.var g)),(1,.cE (.int .u8) (.var (g+1))),(2,.cE (.int .u8) (.var (g+2)))] (g+3) [] [] (xZ [g,g+1,g+2] q.win q.a9K)
def Gi(u:cA)(q:PQ)(g n s p lo V:Nat):List ee:=
 [{ res:=nv n,post:=[Cx u g s (n+1) false],facts:=[rl q.num [s,p,lo,V,n+1,n],place s (n+1)],m:=2 },
  { res:=.int .i64 0,post:=[Cx u g s n true],facts:=[rl q.a7i [s,p,lo,V]],m:=1 }]
def a4s(P:Program)(u:cA)(q:PQ)(x:PD):bX:=
 let g:=u.L.nG
 entry P u.a6W [(0,.ptr g 0),(1,nv (g+1)),(2,nv (g+2))] (g+5) [Cx u g (g+3) (g+4) false] [short (g+3),place (g+3) (g+4),rl x [g+1,g+2]] (Gi u q g (g+5) (g+3) (g+4) (g+1) (g+2))
def Cd(P:Program)(u:cA)(q:PQ)(x:PD):bX:=
 let g:=u.L.nG
 fx P u.a6W 0 [(0,.ptr g 0),(1,nv (g+1)),(2,nv (g+2)),(6,.int .i64 0),(7,nv (g+5))] (g+6) [Cx u g (g+3) (g+4) false]
  [short (g+3),place (g+3) (g+4),place (g+3) (g+5),Hb (g+5) (g+4),rl x [g+3,g+5,g+4,g+1,g+2]] (Gi u q g (g+6) (g+3) (g+5) (g+1) (g+2))
def wF(P:Program)(u:cA)(q:PQ)(less:Bool)(x:PD):bX:=
 let g:=u.L.nG
 fx P u.a6W 1 [(0,.ptr g 0),(1,nv (g+1)),(2,nv (g+2)),(6,.int .i64 0),(7,nv (g+5)),(8,.bool less),(9,nv (g+6)),(10,nv (g+7))] (g+8) [Cx u g (g+3) (g+4) false]
  [short (g+3),place (g+3) (g+4),place (g+3) (g+5),place (g+3) (g+7),Hb (g+5) (g+4),Hb (g+7) (g+4),rl x [g+3,g+5,g+4,g+7,g+6,g+1,g+2]] (Gi u q g (g+8) (g+3) (g+5) (g+1) (g+2))
def MR(P:Program)(u:cA)(q:PQ)(x:PD):bX:=
 let g:=u.L.nG
 entry P u.dec [(0,nv g)] (g+1) [] [rl x [g]] [{ res:=o6 (g+1),post:=[],facts:=[rl q.dec [g,g+1],most (g+1) 40],m:=1 }]
def Bf(u:cA)(g n:Nat)(s p:Nat)(a pN:PD):List ee:=
 [{ res:=a1A n,post:=[Cx u g s (n+1) false],facts:=[rl a [s,p,n+1,n],place s (n+1)],m:=2 },
  { res:=a1A n,post:=[Cx u g s (n+1) true],facts:=[rl pN [s,p,n]],m:=2 }]
def a4r(P:Program)(u:cA)(q:PQ):bX:=
 let g:=u.L.nG
 entry P u.aac [(0,.ptr g 0)] (g+3) [Cx u g (g+1) (g+2) false] [short (g+1),place (g+1) (g+2)] (Bf u g (g+3) (g+1) (g+2) q.cpl q.a1d)
def Cc(P:Program)(u:cA)(q:PQ)(x:PD):bX:=
 let g:=u.L.nG
 fx P u.aac 0 [(0,.ptr g 0),(2,.ptr (g+1) 0),(3,nv (g+4))] (g+5) [Cx u g (g+2) (g+3) false,Cm u (g+1)]
  [short (g+2),place (g+2) (g+3),place (g+2) (g+4),Hb (g+4) (g+3),rl x [g+2,g+4,g+3]] (Bf u g (g+5) (g+2) (g+4) q.cpl q.a1d)
def a4w(P:Program)(u:cA)(q:PQ):bX:=entry P u.aaz [(0,o6 u.L.nG)] (u.L.nG+1) [] [short u.L.nG] (xZ [u.L.nG] q.pln q.a3e)
def Cf(P:Program)(u:cA)(q:PQ)(x:PD):bX:=
 let g:=u.L.nG
 fx P u.aaz 0 [(0,o6 g),(2,.bool false),(3,nv (g+1))] (g+2) [] [short g,place g (g+1),rl x [g,g+1]] (xZ [g] q.pln q.a3e)
def a79(P:Program)(u:cA)(q:PQ):bX:=entry P u.wrd [(0,o6 u.L.nG)] (u.L.nG+1) [] [] (xZ [u.L.nG] q.wrd q.a9J)
def a8Y(s p c:Nat):Fact:=.tr (.a2 (.bin .eql) (.a2 .idx (.var s) (.var p)) (.int .u8 (.ofNat c)))
def a4q(P:Program)(u:cA)(q:PQ):bX:=
 let g:=u.L.nG
 entry P u.a99 [(0,.ptr g 0)] (g+3) [Cx u g (g+1) (g+2) false] [short (g+1),place (g+1) (g+2),a8Y (g+1) (g+2) 39] (Bf u g (g+3) (g+1) (g+2) q.qq q.a61)
def Cb(P:Program)(u:cA)(q:PQ)(x:PD):bX:=
 let g:=u.L.nG
 fx P u.a99 0 [(0,.ptr g 0),(2,.ptr (g+1) 0),(3,nv (g+5)),(4,.iI (g+2) (.var (g+6)) (.var (g+7)))] (g+9) [Cx u g (g+3) (g+4) false,Cm u (g+1),(g+2,.vec u.tB (.var (g+8)))]
  [short (g+3),vT (g+3) (g+4),place (g+3) (g+5),Hb (g+5) (g+4),rl x [g+3,g+5,g+4,g+8,g+6]] (Bf u g (g+9) (g+3) (g+5) q.qq q.a61)
def Fj(P:Program)(u:cA)(q:PQ)(x:PD):bX:=
 let g:=u.L.nG
 fx P u.acF 0 [(0,o6 g),(2,.str []),(3,o6 (g+1)),(4,nv (g+2))] (g+3) [] [short g,place g (g+2),most (g+1) 20000,rl x [g,g+1,g+2]] (Lw q (g+3) g)
def a8s(P:Program)(u:cA)(q:PQ):bX:=
 let g:=u.L.nG
 entry P u.ac8 [(0,.cE (.int .u8) (.var g))] (g+1) [] [] [{ res:=nv (g+1),post:=[],facts:=[rl q.hex [g,g+1]],m:=1 }]
def MQ(P:Program)(u:cA)(q:PQ)(x:PD):bX:=
 let g:=u.L.nG
 fx P u.mk2 0 [(0,.cE (.sl u.tT) (.var (g+2))),(4,.ptr g 0),(5,.ptr (g+1) 0),(6,nv (g+3))] (g+8) [Cm u g,P2 u (g+1) (g+4)]
  [.tr (.a2 (.bin .lss) (.var (g+3)) (.a1 .len (.var (g+2)))),rl x [g+2,g+3,g+4,g+5,g+6,g+7]]
  [{ res:=vC u (g+8),post:=[],facts:=[rl q.mk2 [g+2,g+3,g+4,g+5,g+6,g+7,g+8,g+9,g+10,g+11]],m:=4 }]
def a8o(P:Program)(u:cA)(q:PQ):bX:=
 let g:=u.L.nG
 entry P u.ngd [(0,.ptr g 0),(1,nv (g+1)),(2,o6 (g+2)),(3,o6 (g+3))] (g+6) [Cx u g (g+4) (g+5) false] [short (g+4),place (g+4) (g+5)]
  [{ res:=.agg [nv (g+1),nv (g+6),.str [],.dq],post:=[Cx u g (g+4) (g+7) false],facts:=[rl q.ngd [g+4,g+5,g+2,g+3,g+7,g+6],place (g+4) (g+7)],m:=2 },
   { res:=.agg [nv (g+1),nv (g+6),.str [],.dq],post:=[Cx u g (g+4) (g+7) true],facts:=[rl q.aaM [g+4,g+5,g+2,g+3,g+6]],m:=2 }]
def Vi(u:cA)(g n s p:Nat)(a:List Nat)(b pN:PD):List ee:=
 [{ res:=.cE (.sl u.tT) (.var n),post:=[Cx u g s (n+1) false],facts:=[rl b ([s,p]++a++[n+1,n]),place s (n+1)],m:=2 },
  { res:=.dq,post:=[Cx u g s n true],facts:=[rl pN ([s,p]++a)],m:=1 }]
def A7(u:cA)(g n s p:Nat)(a:List Nat)(b pN:PD):List ee:=
 [{ res:=vC u n,post:=[Cx u g s (n+4) false],facts:=[rl b ([s,p]++a++[n+4,n,n+1,n+2,n+3]),place s (n+4)],m:=5 },
  { res:=vC u n,post:=[Cx u g s (n+4) true],facts:=[rl pN ([s,p]++a++[n,n+1,n+2,n+3])],m:=5 }]
def Dn(P:Program)(u:cA)(f:jJ)(m:PD)(a:List Fact)(outs:Nat->List ee):bX:=
 let g:=u.L.nG
 entry P f [(0,.ptr g 0)] (g+3) [Cx u g (g+1) (g+2) false] ([short (g+1),place (g+1) (g+2),rl m [g+1,g+2]]++a) (outs g)
def MS(P:Program)(u:cA)(q:PQ)(m:PD):bX:=
 let g:=u.L.nG
 entry P u.amg [(0,.ptr g 0),(1,o6 (g+3))] (g+4) [Cx u g (g+1) (g+2) false] [short (g+1),place (g+1) (g+2),rl m [g+1,g+2,g+3]] (Vi u g (g+4) (g+1) (g+2) [g+3] q.amg q.aca)
def Fz(P:Program)(u:cA)(q:PQ)(x:PD):bX:=
 let g:=u.L.nG
 fx P u.amg 0 [(0,.ptr g 0),(1,o6 (g+7)),(5,.iI (g+1) (.var (g+4)) (.var (g+5)))] (g+8) [Cx u g (g+2) (g+3) false,(g+1,.vec u.tT (.var (g+6)))]
  [short (g+2),place (g+2) (g+3),rl x [g+2,g+3,g+7,g+4,g+6]] (Vi u g (g+8) (g+2) (g+3) [g+7,g+4,g+6] q.ab9 q.a6c)
def a4t(P:Program)(u:cA)(q:PQ)(m:PD):bX:=Dn P u u.aaf m [] λg=>A7 u g (g+3) (g+1) (g+2) [] q.rls q.aah
def Ce(P:Program)(u:cA)(q:PQ)(x:PD):bX:=
 let g:=u.L.nG
 fx P u.aaf 0 [(0,.ptr g 0),(2,.ptr (g+1) 0),(3,.iI (g+3) (.var (g+6)) (.var (g+7))),(4,.ptr (g+2) 0)] (g+9)
  [Cx u g (g+4) (g+5) false,Cm u (g+1),(g+2,.cells u.tT [.int .i64 8,.int .i64 0,.str [],.dq] 0 false false),(g+3,.vec u.tT (.var (g+8)))]
  [short (g+4),place (g+4) (g+5),rl x [g+4,g+5,g+6,g+8]] (A7 u g (g+9) (g+4) (g+5) [g+6,g+8] q.aag q.a5z)
def a4u(P:Program)(u:cA)(q:PQ)(m:PD):bX:=Dn P u u.acy m [] λg=>A7 u g (g+3) (g+1) (g+2) [] q.rfn q.aai
def Fi(P:Program)(u:cA)(q:PQ)(m:PD):bX:=Dn P u u.acx m [] λg=>A7 u g (g+3) (g+1) (g+2) [] q.rtm q.a98
def a8j(P:Program)(u:cA)(q:PQ)(x:PD):bX:=
 let g:=u.L.nG
 entry P u.own [(0,vC u g)] (g+4) [] [rl x [g,g+1,g+2,g+3]] (xZ [g,g+1,g+2,g+3] q.own q.aaB)
def MP(P:Program)(u:cA)(q:PQ)(x:PD):bX:=
 let g:=u.L.nG
 entry P u.prt [(0,vC u g)] (g+4) [] [rl x [g,g+1,g+2,g+3]] (xZ [g,g+1,g+2,g+3] q.prt q.aas)
def Fl(P:Program)(u:cA)(q:PQ)(x:PD):bX:=
 let g:=u.L.nG
 fx P u.prt 0 [(1,.ptr g 0),(3,nv (g+5))] (g+6) [P2 u g (g+1)] [place (g+4) (g+5),rl x [g+1,g+2,g+3,g+4,g+5]] (xZ [g+1,g+2,g+3,g+4,g+5] q.aar q.a5D)
def MK(P:Program)(u:cA)(q:PQ)(x:PD):bX:=
 let g:=u.L.nG
 entry P u.wds [(0,vC u g)] (g+4) [] [rl x [g,g+1,g+2,g+3]]
  [{ res:=nv (g+4),post:=[],facts:=[rl q.wds [g,g+1,g+2,g+3,g+4],.tr (.a2 (.bin .leq) (.var (g+4)) (.int .i64 (.ofNat 10000)))],m:=1 }]
def Fg(P:Program)(u:cA)(q:PQ)(x:PD):bX:=
 let g:=u.L.nG
 fx P u.wds 0 [(1,.ptr g 0),(3,nv (g+5)),(4,nv (g+6))] (g+7) [P2 u g (g+1)] [place (g+4) (g+6),rl x [g+1,g+2,g+3,g+4,g+5,g+6]]
  [{ res:=nv (g+7),post:=[],facts:=[rl q.a9M [g+1,g+2,g+3,g+4,g+5,g+6,g+7],.tr (.a2 (.bin .leq) (.var (g+7)) (.int .i64 (.ofNat 10000)))],m:=1 }]
def a8f(P:Program)(u:cA)(q:PQ):bX:=entry P u.rdR [(0,o6 u.L.nG)] (u.L.nG+1) [] [short u.L.nG] (Zc u q)
def Fw(P:Program)(u:cA)(q:PQ)(x:PD):bX:=
 let g:=u.L.nG
 fx P u.a4p 0 [(0,o6 g),(2,.str []),(3,.str []),(4,.bool false),(5,nv (g+1))] (g+2) [] [short g,place g (g+1),rl x [g,g+1]]
  [{ res:=.ji [o6 (g+2),o6 (g+3),.bool true],post:=[],facts:=[rl q.a4p [g,g+2,g+3]],m:=2 },
    { res:=.ji [o6 g,.str [],.bool false],post:=[],facts:=[rl q.a5X [g]],m:=0 }]
def Uh(q:PQ)(n s:Nat):List ee:=
 [{ res:=.ji [nv n,.bool true],post:=[],facts:=[rl q.noR [s,n]],m:=1 },{ res:=.ji [nv n,.bool false],post:=[],facts:=[rl q.aaI [s]],m:=1 }]
def a8l(P:Program)(u:cA)(q:PQ):bX:=entry P u.noR [(0,o6 u.L.nG)] (u.L.nG+1) [] [short u.L.nG] (Uh q (u.L.nG+1) u.L.nG)
def Fo(P:Program)(u:cA)(q:PQ)(x:PD):bX:=
 let g:=u.L.nG
 fx P u.noR 0 [(0,o6 g),(2,.int .i64 0),(3,.bool false),(4,nv (g+1)),(5,nv (g+2))] (g+3) [] [short g,place g (g+2),rl x [g,g+1,g+2]] (Uh q (g+3) g)
end Go.Proofs.YtokipodjggomfaaGreatDoor.Abs
namespace Go.Proofs.YtokipodjggomfaaGreatDoor.Txt
open Go.Proofs.YtokipodjggomfaaGreatDoor.Abs Go.Lib
abbrev dr(S:B)(p:Int):B:=S.drop p.toNat
abbrev sb(S:B)(f p:Int):B:=(S.take p.toNat).drop f.toNat
def Nk(n:Int):Prop:=97<=n/\n<=122
def Uq(n:Int):Prop:=(97<=n/\n<=122)\/(65<=n/\n<=90)\/(48<=n/\n<=57)\/n=95\/n=64
def iy:PD:=pS [.s,.i,.s,.i] λS p X p'=>p'=p+X.length/\must X (dr S p)=some (dr S p')
def cY:PD:=pS [.s,.i,.s] λS p X=>must X (dr S p)=none
def zr:PD:=pS [.u] Nk
def oA:PD:=pS [.u] λn=>¬Nk n
def vj:PD:=pS [.u] Uq
def oF:PD:=pS [.u] λn=>¬Uq n
def rL:PD:=pS [.u,.u,.u] λn a b=>a<=n/\n<=b
def jB:PD:=pS [.u,.u,.u] λn a b=>¬(a<=n/\n<=b)
def eu:PD:=pS [.s,.i,.i,.i,.i,.i] λS p lo V p' n=>eE lo V (dr S p)=some (n,dr S p')
def bU:PD:=pS [.s,.i,.i,.i] λS p lo V=>eE lo V (dr S p)=none
def pB(N:Nat):PD:=pS [.s,.i,.i] λS f p=>0<=f/\jy S f.toNat p.toNat/\S.length-p<N
def xQ:PD:=pS [.i,.i] λlo V=>dX<=lo/\V<=fc
def za(N:Nat):PD:=pS [.s,.i,.i,.i,.i] λS f p lo V=>0<=f/\jy S f.toNat p.toNat/\p<=f+20/\dX<=lo/\V<=fc/\S.length-p<N
def sgn(less:Bool)(S:B)(f p:Int):Prop:=if less then f<p/\S[f.toNat]? =some 45 else f=p\/S[f.toNat]? ≠some 45
def mz(less:Bool)(N:Nat):PD:=pS [.s,.i,.i,.i,.i,.i,.i] λS f p i n lo V=>0<=f/\l5 S f.toNat p.toNat i.toNat n/\EF S f.toNat p.toNat/\sgn less S f p/\dX<=lo/\V<=fc/\p-i<N
def vy(N:Nat):PD:=pS [.i] λn=> -9223372036854775807<=n/\n<=9223372036854775807/\(if n<0 then 22 else(itoa n).length)<N
def ux:PD:=pS [.i,.s] λn r=>r=itoa n
def jG:PD:=pS [.s] λS=>plain S=true
def et:PD:=pS [.s] λS=>plain S=false
def zw:PD:=pS [.c] λS=>S.all letter=true
def pM:PD:=pS [.c] λS=>S.all letter=false
def qR(N:Nat):PD:=pS [.c,.i,.i] λS n i=>n=S.length/\S.length<=5000/\0<=i/\i<=n/\(S.take i.toNat).all letter=true/\n-i<N
def om:PD:=pS [.s,.i,.i,.s] λS p p' w=>iA (dr S p)=some (.mk 2 0 w [],dr S p')
def mf:PD:=pS [.s,.i] λS p=>iA (dr S p)=none
def ma(N:Nat):PD:=pS [.s,.i,.i] λS f p=>0<=f/\EH S f.toNat p.toNat/\S.length-p<N
def l8(N:Nat):PD:=pS [.s,.i] λS i=>eG S=true/\S.length<=64/\(S.take i.toNat).all letter=true/\S.length-i<N
def ll:PD:=pS [.s] λS=>words.contains S=true
def s3:PD:=pS [.s] λS=>words.contains S=false
def lV:PD:=pS [.s,.i,.i,.s] λS p p' w=>cy (dr S p)=some (.mk 2 0 w [],dr S p')
def iz:PD:=pS [.s,.i,.s] λS p _=>iA (dr S p)=none
def dp:PD:=pS [.s,.i,.s] λS p _=>cy (dr S p)=none
def gy:PD:=pS [.s,.i] λS p=>cy (dr S p)=none
def ks(N:Nat):PD:=pS [.s,.i,.i,.c,.i] λS f p a m=>0<=f/\fS S f.toNat p.toNat a/\m=a.length/\a.length<=p/\S.length-p<N
def jz(N:Nat):PD:=pS [.s,.i,.i,.c,.i] λS f p a m=>0<=f/\wP S f.toNat p.toNat a/\m=a.length/\a.length+f+1<=p/\S.length+2-p<N
def h4:PD:=pS [.s,.s] λS r=>r=quote S
def l7(N:Nat):PD:=pS [.s,.i,.i,.c,.i] λS n i a m=>n=S.length/\S.length<=4200/\0<=i/\i<=n/\a=39::qs (S.take i.toNat)/\m=a.length/\n-i<N
def k9(N:Nat):PD:=pS [.s,.s,.i] λS a i=>a=39::qs (S.take i.toNat)/\S.length-i<N
def vl:PD:=pS [.u,.i] λc n=>n=if 48<=c/\c<=57 then c-48 else if 97<=c/\c<=102 then c-87 else -1
def zB(e s:B):Option (Int×B):=
 match eE 0 bF s with
 |some (n,r)=>(must e r).map λr2=>(n,r2)
 |none=>none
def zu:PD:=pS [.s,.i,.s,.i,.i] λS p e p' n=>zB e (dr S p)=some (n,dr S p')
def oD:PD:=pS [.s,.i,.s] λS p e=>zB e (dr S p)=none
def vR:PD:=pS [.s,.i,.s,.s,.i,.i] λS p a e p' n=>(must a (dr S p)).bind (zB e)=some (n,dr S p')
def lu:PD:=pS [.s,.i,.s,.s,.i] λS p a e _=>(must a (dr S p)).bind (zB e)=none
def kT(T:TypeId):List Kd:=[.int .i64,.int .i64,.str,.sl T]
section
variable(T:TypeId)
def iu(l:List Tm)(d:Dt):Prop:=∃(a:Option Addr)(c:Nat)(J:List Dt),d=.sl (.slice a l.length c) T 4 J/\(a=none->l.length=0/\c=0)/\gr T l J
def ff(l:List Tm)(m:Int)(d:Dt):Prop:=∃J,d=.ls (kT T) J/\m=l.length/\gr T l J
def ms(N:Nat):PD:=pS [.s,.i] λS p=>S.length-p<N
def Uk(N:Nat):PD:=pS [.s,.i,.s] λS p e=>S.length-p<N/\(e=[125]\/e=[62])
def jq(f:B->Option (Tm×B)):PD:=pS [.s,.i,.i,.i,.i,.s,.d] λS p p' k n w d=>∃t,en T t [iv k,iv n,sv w,d]/\f (dr S p)=some (t,dr S p')
def hK(f:B->Option (Tm×B)):PD:=pS [.s,.i] λS p=>f (dr S p)=none
def cK(f:B->Option (Tm×B)):PD:=pS [.s,.i,.i,.i,.s,.d] λS p k n w d=>f (dr S p)=none/\∃t,en T t [iv k,iv n,sv w,d]
def Bh(f:B->Option (List Tm×B)):PD:=pS [.s,.i,.i,.d] λS p p' d=>∃l,iu T l d/\f (dr S p)=some (l,dr S p')
def qW(f:B->Option (List Tm×B)):PD:=pS [.s,.i] λS p=>f (dr S p)=none
def nI(N:Nat):PD:=pS [.s,.i,.i,.d] λS p m e=>0<=m/\m<=p/\S.length-p<N/\∃l,ff T l m e
def pQ(f:List Tm->B->Option (List Tm×B)):PD:=pS [.s,.i,.i,.d,.i,.d] λS p m e p' d=>∃l O,ff T l m e/\iu T O d/\f l (dr S p)=some (O,dr S p')
def iP(f:List Tm->B->Option (List Tm×B)):PD:=pS [.s,.i,.i,.d] λS p m e=>∃l,ff T l m e/\f l (dr S p)=none
def qH(f:List Tm->B->Option (Tm×B)):PD:=pS [.s,.i,.i,.d,.i,.i,.i,.s,.d] λS p m e p' k n w d=>∃l t,ff T l m e/\en T t [iv k,iv n,sv w,d]/\f l (dr S p)=some (t,dr S p')
def ku(f:List Tm->B->Option (Tm×B)):PD:=pS [.s,.i,.i,.d] λS p m e=>∃l,ff T l m e/\f l (dr S p)=none
def ft(f:List Tm->B->Option (Tm×B)):PD:=pS [.s,.i,.i,.d,.i,.i,.s,.d] λS p m e k n w d=>(∃l,ff T l m e/\f l (dr S p)=none)/\∃t,en T t [iv k,iv n,sv w,d]
def pO:PD:=pS [.s,.i,.i,.i,.d,.i,.i,.i,.s,.d] λS p v m e p' k n w d=>∃l t,ff T l m e/\en T t [iv k,iv n,sv w,d]/\eT true v l (dr S p)=some (t,dr S p')
def iM:PD:=pS [.s,.i,.i,.i,.d] λS p v m e=>∃l,ff T l m e/\eT true v l (dr S p)=none
def CE:PD:=pS [.i,.d,.i,.i,.s,.d] λm e k n w d=>0<=m/\m<=10000/\∃l t,ff T l m e/\en T t [iv k,iv n,sv w,d]
def CP:PD:=pS [.i,.d,.i,.i,.s,.d,.i,.i,.s,.d] λm e k n w d k' n' M d'=>∃l t,ff T l m e/\en T t [iv k,iv n,sv w,d]/\en T (cz l t) [iv k',iv n',sv M,d']
def pD(N:Nat):PD:=pS [.i,.d,.i,.i,.i,.s,.d] λm e i k n w d=> -1<=i/\i<m/\m<=10000/\i+1<N/\∃l t,ff T l m e/\en T t [iv k,iv n,sv w,d]
def oE:PD:=pS [.d,.i,.i,.i,.s,.d,.i,.i,.s,.d] λe i k n w d k' n' M d'=>∃l t m,ff T l m e/\en T t [iv k,iv n,sv w,d]/\en T (cz (l.take (i+1).toNat) t) [iv k',iv n',sv M,d']
def eM(N:Nat):PD:=pS [.d,.i,.i,.i,.s,.d] λe i k n w d=> -1<=i/\i<=10000/\i+1<N/\∃l t,iu T l e/\en T t [iv k,iv n,sv w,d]/\i<l.length
def h9:PD:=pS [.d,.i,.i,.i,.s,.d,.i,.i,.s,.d] λe i k n w d k' n' M d'=>∃l t,iu T l e/\en T t [iv k,iv n,sv w,d]/\en T (cz (l.take (i+1).toNat) t) [iv k',iv n',sv M,d']
def Aq(X:B):Option (Tm×B):=(must pH X).bind (jr false (PR false))
def zn(X:B):Option (Tm×B):=(must [91] X).bind (gJ (PT false) (PR false))
def kJ(l:List Tm)(X:B):Option (Tm×B):=
 match PT false X with
 |some (t,r)=>b5 false (l++[t]) r
 |none=>none
def Cp(e:B)(l:List Tm)(X:B):Option (List Tm×B):=
 match PT false X with
 |some (t,r)=>cT false (l++[t]) e r
 |none=>none
def xV:PD:=pS [.s,.i,.s,.i,.d] λS p e p' d=>∃l,iu T l d/\iS false (PT false) (PR false) e (dr S p)=some (l,dr S p')
def nL:PD:=pS [.s,.i,.s] λS p e=>iS false (PT false) (PR false) e (dr S p)=none
def qS(N:Nat):PD:=pS [.s,.i,.s,.i,.d] λS p e m d=>0<=m/\m<=p/\S.length-p<N/\(e=[125]\/e=[62])/\∃l,ff T l m d
def pP:PD:=pS [.s,.i,.s,.i,.d,.i,.d] λS p e m d p' r=>∃l O,ff T l m d/\iu T O r/\Cp e l (dr S p)=some (O,dr S p')
def jH:PD:=pS [.s,.i,.s,.i,.d] λS p e m d=>∃l,ff T l m d/\Cp e l (dr S p)=none
def Eu:PD:=pS [.s,.i,.i,.s,.d] λS k n w d=>∃t,en T t [iv k,iv n,sv w,d]/\rd S=some t
def lU:PD:=pS [.s] λS=>rd S=none
def sR:PD:=pS [.i,.i,.s,.d] λk n w d=>∃t,en T t [iv k,iv n,sv w,d]/\t.wf/\t.words<=10000
def l6(N:Nat):PD:=pS [.i,.i,.s,.d] λk n w d=>∃t,en T t [iv k,iv n,sv w,d]/\t.wf/\t.words<=10000/\t.size<N
def vk:PD:=pS [.i,.i,.s,.d,.d] λk n w d r=>∃l,en T (cz l uI) [iv k,iv n,sv w,d]/\iu T l r
def ly:PD:=pS [.i,.i,.s,.d] λk n w d=>∃t,en T t [iv k,iv n,sv w,d]/\∀l,t≠cz l uI
def l9(N:Nat):PD:=pS [.i,.i,.s,.d,.i,.d] λk n w d m e=>0<=m/\m<=10000/\∃t l,en T t [iv k,iv n,sv w,d]/\t.wf/\ff T l m e/\m+t.size<=10000/\t.size<N
def lv:PD:=pS [.i,.i,.s,.d,.i,.d,.d] λk n w d m e r=>∃l O,en T (cz O uI) [iv k,iv n,sv w,d]/\ff T l m e/\iu T (l++O) r
def gI:PD:=pS [.i,.i,.s,.d,.i,.d] λk n w d m e=>∃t,en T t [iv k,iv n,sv w,d]/\∀l,t≠cz l uI
def D3(t:Tm):Prop:=t.k=9\/t.l.length<=64
def rN:PD:=pS [.i,.i,.s,.d] λk n w d=>∃t,en T t [iv k,iv n,sv w,d]/\D3 t
def ec:PD:=pS [.i,.i,.s,.d] λk n w d=>∃t,en T t [iv k,iv n,sv w,d]/\¬D3 t
def Bg:PD:=pS [.i,.i,.s,.d] λk n w d=>∃t,en T t [iv k,iv n,sv w,d]/\t.fits=true
def pL:PD:=pS [.i,.i,.s,.d] λk n w d=>∃t,en T t [iv k,iv n,sv w,d]/\t.fits=false
def qQ(N M:Nat):PD:=pS [.i,.i,.s,.d,.i] λk n w d i=>∃t,en T t [iv k,iv n,sv w,d]/\t.wf/\t.words<=10000/\t.size<N+1/\D3 t/\e9 (t.l.take i.toNat)=true/\t.l.length-i<M
def pK:PD:=pS [.i,.i,.s,.d,.i] λk n w d _=>∃t,en T t [iv k,iv n,sv w,d]/\t.fits=true
def km:PD:=pS [.i,.i,.s,.d,.i] λk n w d _=>∃t,en T t [iv k,iv n,sv w,d]/\t.fits=false
def vQ:PD:=pS [.i,.i,.s,.d,.i] λk n w d r=>∃t,en T t [iv k,iv n,sv w,d]/\r=t.words
def ov(N M:Nat):PD:=pS [.i,.i,.s,.d,.i,.i] λk n w d r i=>∃t,en T t [iv k,iv n,sv w,d]/\t.wf/\t.words<=10000/\t.size<N+1/\r=(if t.k=7\/t.k=5 then 2 else 1)+dF (t.l.take i.toNat)/\t.l.length-i<M
def nJ:PD:=pS [.i,.i,.s,.d,.i,.i,.i] λk n w d _ _ r=>∃t,en T t [iv k,iv n,sv w,d]/\r=t.words
end
def nK:PD:=pS [.s,.s,.s] λS a b=>cut S [32]=(a,b,true)
def iN:PD:=pS [.s] λS=>cut S [32]=(S,[],false)
def oz(N:Nat):PD:=pS [.s,.i] λS i=>Nb S i.toNat/\S.length-i<N
def lW:PD:=pS [.s,.i] λS n=>tQ S=some n
def fg:PD:=pS [.s] λS=>tQ S=none
def pC(N:Nat):PD:=pS [.s,.i,.i] λS n i=>S≠[]/\S.length<=10/\(S.length=1\/S[0]? ≠some 48)/\(∀c∈S.take i.toNat,digit c=true)/\n=val (S.take i.toNat)/\0<=n/\n<=9999999999/\S.length-i<N
def fW(N:Nat):PD:=pS [.s,.i] λS p=>ef S p.toNat/\S.length-p<N
def dH:PD:=pS [.s] λS=>ef S S.length
def tf:List B:=[[115,112,97,119,110],[115,116,101,112],[115,101,110,100],[101,120,105,116],[99,111,108,108,101,99,116],[112,97,115,115],[114,111,117,110,100],[114,117,110],[115,101,116,116,108,101]]
def lw(S:B):Nat:=match tf.idxOf? (cut S [32]).1 with|some i=>i+1|none=>0
def lr(S:B):B:=(cut S [32]).2.1
def lm(S:B):Bool:=(cut S [32]).2.2
def oC:PD:=pS [.s] λS=>4000<S.length
def me:PD:=pS [.s] λS=>S.length<=4000/\lw S=0
def wh(u:B):Prop:=(cut u [32]).2.2=false\/tQ (cut u [32]).1=none\/rd (cut u [32]).2.1=none
def bp:PD:=pS [.s] λS=>S.length<=4000/\lw S≠0/\(lm S=false\/(lw S=1/\ef (lr S) (lr S).length)\/((lw S=3\/lw S=4)/\wh (lr S))\/(lw S≠1/\lw S≠3/\lw S≠4/\tQ (lr S)=none))
def gW:PD:=pS [.s,.i,.i] λS k n=>S.length<=4000/\lw S=k.toNat/\k=lw S/\lw S≠0/\lw S≠1/\lw S≠3/\lw S≠4/\lm S=true/\tQ (lr S)=some n
section
variable(T:TypeId)
def fM:PD:=pS [.s,.s,.d] λS a d=>∃l,iu T l d/\lO S a l
def oB:PD:=pS [.s,.s,.d] λS a d=>S.length<=4000/\lw S=1/\lm S=true/\∃l,iu T l d/\lO (lr S) a l
def mc:PD:=pS [.s,.i,.i,.i,.i,.s,.d] λS k n k' n' w d=>S.length<=4000/\k=lw S/\(lw S=3\/lw S=4)/\lm S=true/\(cut (lr S) [32]).2.2=true/\tQ (cut (lr S) [32]).1=some n/\∃t,en T t [iv k',iv n',sv w,d]/\rd (cut (lr S) [32]).2.1=some t
end
def qJ{α:Type}(c:Prop)(o:Option α):Option α:=open Classical in if c then o else none
section
variable{α j:Type}{c:Prop}{o:Option α}{x y:α}
theorem yH:qJ True o=o:=aJ trivial
theorem oK(h:c):qJ c o=o:=aJ h
theorem jY{f:α->Option j}:(qJ c o).bind f=qJ c (o.bind f):=by by_cases h:c<;>simp[qJ,h]
theorem a7L:(qJ c o=some y)=(c/\o=some y):=by by_cases h:c<;>simp[qJ,h]
theorem jX{α:Type}{x y:α}{c:Prop}:(qJ c (some x)=some y)=(c/\x=y):=by rw[a7L];simp
theorem Iu{c:Prop}{n:Int}:tI (qJ c (some (iv n)))=c:=by by_cases h:c<;>simp[qJ,h,tI,iO]
theorem Is{c:Prop}{n:Int}:tU (qJ c (some (uv n)))=c:=by by_cases h:c<;>simp[qJ,h,tU,iO]
theorem It{c:Prop}{s:B}:tS (qJ c (some (sv s)))=c:=by by_cases h:c<;>simp[qJ,h,tS,sO]
theorem Iv{c:Prop}{s:B}:tC (qJ c (some (bd s)))=c:=by by_cases h:c<;>simp[qJ,h,tC,Co]
end
def wr(n:Int):Int:=IntKind.i64.wrap n
def wu(n:Int):Int:=IntKind.u8.wrap n
theorem eF{n:Int}(h: -9223372036854775808<=n/\n<=9223372036854775807):wr n=n:=gh h.1 h.2
theorem X7(n:Int):wu n=n%256:=by grind[wu,IntKind.wrap,IntKind.signed,IntKind.bits]
theorem yg{a b:Int}:e2 (.bin .add) (iv a) (iv b)=some (iv (wr (a+b))):=by simp only[e2,fj,bS,bc,bM,okV];rfl
theorem x5{a b:Int}:e2 (.bin .sub) (iv a) (iv b)=some (iv (wr (a-b))):=by simp only[e2,fj,bS,bc,bM,okV];rfl
theorem yd{a b:Int}:e2 (.bin .mul) (iv a) (iv b)=some (iv (wr (a*b))):=by simp only[e2,fj,bS,bc,bM,okV];rfl
theorem rE{a b:Int}:e2 (.bin .sub) (uv a) (uv b)=some (uv (wu (a-b))):=by simp only[e2,fj,bS,bc,bM,okV];rfl
theorem pF{a b:Int}:e2 (.bin .add) (uv a) (uv b)=some (uv (wu (a+b))):=by simp only[e2,fj,bS,bc,bM,okV];rfl
theorem yf{x y:B}:e2 (.bin .add) (sv x) (sv y)=qJ (x.length+y.length<=1099511627776) (some (sv (x++y))):=by
 by_cases h:x.length+y.length<=1099511627776
 .rw[oK h];exact a7g h
 .have:Nat.ble (Nat.add x.length y.length) 1099511627776=false:=by
    cases a:Nat.ble (Nat.add x.length y.length) 1099511627776 with
    |false=>rfl
    |true=>rw[Nat.ble_eq]at a;exact absurd a h
  simp only[e2,fj,mb,this,qJ,av h];rfl
def bt(S:B)(p:Int):Int:=((S[p.toNat]?).getD 0).toNat
theorem ye{S:B}{k:IntKind}{p:Int}:e2 .idx (sv S) (.val (.int k p))=qJ (0<=p/\p<S.length) (some (uv (bt S p))):=by
 cases p with
 |ofNat n=>
  show(S[n]?).map (λb=>Dt.val (.int .u8 b.toNat))=_;by_cases h:n<S.length
  .grind[oK,bt]
  .grind[qJ]
 |negSucc n=>
  unfold qJ;rw[av]
  .rfl
  .rintro⟨I, -⟩;exact absurd I (by omega)
theorem a4L{S:B}{p:Int}(h:0<=p/\p<S.length):∃b:UInt8,S[p.toNat]? =some b/\bt S p=b.toNat/\bt S p<256:=by
 have a:p.toNat<S.length:=by omega
 refine⟨S[p.toNat],dV a,?_,?_⟩
 .grind[bt]
 .have:=(S[p.toNat]).toNat_lt;unfold bt;rw[dV a];simp only[hE];omega
theorem x4{l:B}{k:IntKind}{n:Int}:e2 (.tk 1) (bd l) (.val (.int k n))=qJ (0<=n/\n<=l.length) (some (bd (l.take n.toNat))):=by
 cases n with
 |ofNat n=>
  have h:=aaE (l:=l) (k:=k) (n:=n);have h:e2 (.tk 1) (bd l) (.val (.int k (Int.ofNat n)))=if n<=l.length then some (bd (l.take n))else none:=h
  rw[h];by_cases a:n<=l.length
  .grind[oK]
  .grind[qJ]
 |negSucc n=>
  unfold qJ;rw[av]
  .rfl
  .rintro⟨I, -⟩;exact absurd I (by omega)
theorem x9{l:B}{S:B}{p:Int}:e2 .sn (bd l) (uv (bt S p))=some (bd (l++[(S[p.toNat]?).getD 0])):=by rw[a5I];exact fo some (Ve rfl)
theorem x8{l:B}{n:Int}(h:0<=n/\n<256):e2 .sn (bd l) (uv n)=some (bd (l++[UInt8.ofNat n.toNat])):=by rw[a5I];refine fo some (Ve ?_);rw[UInt8.toNat_ofNat'];omega
theorem pE{l:B}{k q:IntKind}{lo V:Int}:e3 .sub (sv l) (.val (.int k lo)) (.val (.int q V))=some (sv ((l.take V.toNat).drop lo.toNat)):=rfl
theorem IZ{a b:Int}:(uv a=uv b)=(a=b):=by simp
theorem yD{a b:Int}:(iv a=iv b)=(a=b):=by simp
theorem I0:(some (Dt.val (.bool true))=some (.val (.bool true)))=True:=by simp
theorem yE{c:Prop}[Decidable c]:(some (Dt.val (.bool (decide c)))=some (.val (.bool true)))=c:=by simp
theorem sd{c:Prop}[Decidable c]:(some (Dt.val (.bool (decide c)))=some (.val (.bool false)))=¬c:=by simp
theorem r9{c:Prop}[Decidable c]:(some (Dt.val (.bool (!decide c)))=some (.val (.bool true)))=¬c:=by simp
theorem nq{c:Prop}[Decidable c]:(some (Dt.val (.bool (!decide c)))=some (.val (.bool false)))=c:=by simp
theorem rY{α j:Type}{x:α}{f:α->Option j}:(some x).bind f=f x:=rfl
section
variable{S X a b:B}{p p' f i n lo V m:Int}
theorem abx(h:0<=p)(k:Nat):(dr S p).drop k=dr S (p+k):=by grind[List.drop_drop]
theorem dU(a:0<=p)(I:p<S.length):∃c:UInt8,S[p.toNat]? =some c/\bt S p=c.toNat:=by grind[a4L]
theorem Eh{c:UInt8}(h:S[p.toNat]? =some c):bt S p=c.toNat:=by unfold bt;rw[h]<;>rfl
theorem a9C(a:0<=p)(h:(dr S p).take X.length=X):must X (dr S p)=some (dr S (p+X.length)):=by grind[Wq,abx]
theorem XS(h:(dr S p).length<X.length):must X (dr S p)=none:=xA λe=>by
 have:=fo List.length e;rw[c8]at this;omega
theorem XR(h:(dr S p).take X.length≠X):must X (dr S p)=none:=xA h
theorem XI{c:UInt8}(a:0<=p)(h:S[p.toNat]? =some c):must [c] (dr S p)=some (dr S (p+1)):=by show must [c] (S.drop p.toNat)=some (S.drop (p+1).toNat);rw[cH h,JW,show(p+1).toNat=p.toNat+1 by omega]
theorem vc{d:UInt8}{l:B}(h:S.length<=p):must (d::l) (dr S p)=none:=by grind[must,tw,xA]
theorem FK{d:UInt8}(h:must [d] (dr S p)=some X):S[p.toNat]? =some d:=by
 have e:=td h;have:(S.drop p.toNat)[0]? =some d:=by show(dr S p)[0]? =some d;rw[e]<;>rfl
 rwa [tX,iF]at this
theorem Kz{d:UInt8}(h:must [d] (dr S p)=none)(a:0<=p)(I:p<S.length):bt S p≠d.toNat:=by obtain⟨c,b,e⟩:=dU a I;intro Y;have:c=d:=hD.1 (by omega);subst this;rw[XI a b]at h;cases h
def noD(S:B)(p:Int):Prop:=S.length<=p\/bt S p<48\/57<bt S p
theorem G1(f:0<=p)(h:noD S p):∀c,S[p.toNat]? =some c->digit c=false:=by
 intro c a;have b:=mo a;have e:=Eh a;cases d:digit c with
 |false=>rfl
 |true=>have:=gf.1 d;rcases h with h|h|h<;>omega
theorem XM(a:0<=p)(I:p<=S.length)(h:must [45] (dr S p)=none):jy S p.toNat p.toNat:=by grind[O0,XI]
theorem XL(a:0<=p)(h:must [45] (dr S p)=some X):jy S p.toNat (p+1).toNat:=by rw[show(p+1).toNat=p.toNat+1 by omega];exact OZ (FK h)
theorem XJ(a:jy S f.toNat p.toNat)(b:0<=p)(I:p<S.length)(Y:48<=bt S p)(W:bt S p<=57):jy S f.toNat (p+1).toNat:=by obtain⟨c,d,e⟩:=dU b I;rw[show(p+1).toNat=p.toNat+1 by omega];exact Wn a d (gf.2 (by omega))
theorem a6s(a:jy S f.toNat p.toNat)(b:0<=p)(c:noD S p)(d:atoiAll (sb S f p)=.ok n)(e:itoa n=sb S f p)(I:lo<=n)(Y:n<=V):eE lo V (dr S f)=some (n,dr S p):=C2 a (G1 b c) d e I Y
theorem XK(a:jy S f.toNat p.toNat)(b:0<=p)(c:noD S p)(h:∀n,atoiAll (sb S f p)=.ok n->itoa n=sb S f p->lo<=n->n<=V->False):eE lo V (dr S f)=none:=a7h a (G1 b c) h
theorem a3p(h:eE lo V (dr S p)=some (n,dr S p'))(a:0<=p)(I:p'<=S.length):p<p':=by have:=nN h;rw[eV,eV]at this;omega
theorem Jw{c:UInt8}:small c=true↔Nk c.toNat:=by simp[small,Nk];omega
theorem mG{c:UInt8}:letter c=true↔Uq c.toNat:=by grind[letter,Uq,small,digit]
theorem ni(h:S≠[]):eG S=true↔Nk (bt S 0):=by
 cases S with
 |nil=>exact absurd rfl h
 |cons c r=>show small c=true↔Nk (bt (c::r) 0);rw[Eh (S:=c::r) (p:=0) (c:=c) rfl];exact Jw
theorem XT(h:(S.take i.toNat).all letter=true)(a:0<=i)(I:i<S.length)(Y:Uq (bt S i)):(S.take (i+1).toNat).all letter=true:=by obtain⟨c,b,e⟩:=dU a I;rw[show(i+1).toNat=i.toNat+1 by omega,sV b,List.all_append,h];rw[e]at Y;simp[mG.2 Y]
theorem QG(h:(S.take i.toNat).all letter=true)(I:S.length<=i):S.all letter=true:=by
 rwa [gp (by omega)]at h
theorem XU(a:0<=i)(I:i<S.length)(Y:¬Uq (bt S i)):S.all letter=false:=by
 obtain⟨c,b,e⟩:=dU a I;cases d:S.all letter with
 |false=>rfl
 |true=>rw[e]at Y;exact absurd (mG.1 (qP.1 d c (mV b))) Y
theorem Te:plain []=false:=rfl
theorem Td(h:64<S.length):plain S=false:=by grind[plain]
theorem Tc(a:S≠[])(h:¬Nk (bt S 0)):plain S=false:=by grind[plain,ni]
theorem a19(a:S≠[])(h:contains eg ([32]++S++[32])=true):plain S=false:=Oq (by simpa using h) a
theorem Tb(h:S.all letter=false):plain S=false:=by grind[plain]
theorem a6r(a:S≠[])(I:S.length<=64)(Y:Nk (bt S 0))(W:S.all letter=true)(U:contains eg ([32]++S++[32])=false):plain S=true:=
 VY ((ni a).2 Y) I W (by simpa using U) a
theorem a17(a:S≠[])(I:S.length<=64)(Y:Nk (bt S 0))(W:S.all letter=true)(U:words.contains S=false):plain S=true:=
 xn.2 ⟨(ni a).2 Y,I,W,U⟩
theorem a18(h:words.contains S=true):plain S=false:=by grind[plain]
theorem X3(a:0<=p)(I:p<=S.length):EH S p.toNat p.toNat:=RZ (by omega)
theorem X1(h:EH S f.toNat p.toNat)(a:0<=p)(I:p<S.length)(Y:Uq (bt S p)):EH S f.toNat (p+1).toNat:=by obtain⟨c,b,e⟩:=dU a I;rw[show(p+1).toNat=p.toNat+1 by omega];rw[e]at Y;exact Wx h b (mG.2 Y)
def noL(S:B)(p:Int):Prop:=S.length<=p\/¬Uq (bt S p)
theorem O4(f:0<=p)(h:noL S p):∀c,S[p.toNat]? =some c->letter c=false:=by
 intro c a;have b:=mo a;have e:=Eh a;cases d:letter c with
 |false=>rfl
 |true=>
  have:=mG.1 d;rcases h with h|h
  .omega
  .rw[e]at h;exact absurd this h
theorem X0(h:EH S f.toNat p.toNat)(a:0<=p)(b:noL S p)(c:plain (sb S f p)=true):iA (dr S f)=some (.mk 2 0 (sb S f p) [],dr S p):=Zs h (O4 a b) c
theorem X2(h:EH S f.toNat p.toNat)(a:0<=p)(b:noL S p)(c:plain (sb S f p)=false):iA (dr S f)=none:=Zt h (O4 a b) c
theorem XY(b:0<=i)(I:i<S.length):∃c:UInt8,bt S i=c.toNat/\(S[i.toNat]?).getD 0=c/\qs (S.take (i+1).toNat)=qs (S.take i.toNat)++zU c:=by obtain⟨c,a,e⟩:=dU b I;exact⟨c,e,by rw[a]<;>rfl,by rw[show(i+1).toNat=i.toNat+1 by omega];exact a0U a⟩
theorem XX(a:0<=i)(I:i<S.length)(h:bt S i=39\/bt S i=92):qs (S.take (i+1).toNat)=qs (S.take i.toNat)++[92]++[(S[i.toNat]?).getD 0]:=by grind[e2,e3,XY,zU]
theorem XW(a:0<=i)(I:i<S.length)(h:bt S i<32\/126<bt S i):qs (S.take (i+1).toNat)=qs (S.take i.toNat)++[92,120,o0 ((bt S i).toNat/16),o0 ((bt S i).toNat%16)]:=by grind[e2,e3,XY,zU]
theorem XV(a:0<=i)(I:i<S.length)(h:bt S i≠39)(Y:bt S i≠92)(W:32<=bt S i)(U:bt S i<=126):qs (S.take (i+1).toNat)=qs (S.take i.toNat)++[(S[i.toNat]?).getD 0]:=by grind[e2,e3,XY,zU]
theorem XF(h:S.length<=i):39::qs (S.take i.toNat)++[39]=quote S:=by rw[gp (by omega)]<;>rfl
theorem Kk:(qs (S.take i.toNat)).length<=4*S.length:=by grind[UR]
end
section
variable{S X a b w:B}{p p' f i n lo V m:Int}
theorem a9r(a:0<=p)(I:p<S.length):fS S p.toNat (p+1).toNat []:=by rw[show(p+1).toNat=p.toNat+1 by omega];exact VV (by omega)
theorem a5f(q:fS S f.toNat p.toNat a)(d:0<=p)(I:p<S.length)(Y:bt S p≠39)(W:bt S p≠92):fS S f.toNat (p+1).toNat (a++[(S[p.toNat]?).getD 0]):=by obtain⟨c,b,e⟩:=dU d I;rw[show(p+1).toNat=p.toNat+1 by omega,b,hE];exact a2Y q b (by omega) (by omega)
theorem Ta(q:fS S f.toNat p.toNat a)(b:0<=p)(I:p<S.length)(Y:bt S p=92){d:UInt8}(g:d=39\/d=92)(h:must [d] (dr S (p+1))=some X):fS S f.toNat (p+1+1).toNat (a++[d]):=by obtain⟨c,i,e⟩:=dU b I;have Z:=FK h;rw[show(p+1).toNat=p.toNat+1 by omega]at Z;rw[show(p+1+1).toNat=p.toNat+2 by omega];exact a2X q i (by omega) Z (by rcases g with rfl|rfl<;>simp)
theorem a5e(q:fS S f.toNat p.toNat a)(g:0<=f)(b:0<=p)(I:p<S.length)(Y:bt S p=39)(W:a.length<=64)(U:plain a=false)(h5:quote a=sb S f (p+1)):cy (dr S f)=some (.mk 2 0 a [],dr S (p+1)):=by obtain⟨c,d,e⟩:=dU b I;have h:=q.1;have:=T3 q d (by omega);have h5:quote a=(S.take (p+1).toNat).drop f.toNat:=h5;show cy (S.drop f.toNat)=some (_,S.drop (p+1).toNat);rw[show(p+1).toNat=p.toNat+1 by omega]at h5 ⊢;exact Ls (by omega) (by omega) this W U h5
theorem XH(q:fS S f.toNat p.toNat a)(I:S.length<=p):cy (dr S f)=none:=Lt (Zg q (by omega))
theorem a6q(q:fS S f.toNat p.toNat a)(b:0<=p)(I:p<S.length)(Y:bt S p=39)(h:a.length<=64->plain a=false->quote a=sb S f (p+1)->False):cy (dr S f)=none:=by obtain⟨c,d,e⟩:=dU b I;have g:=q.1;have e1:=T3 q d (by omega);refine a2Z (p:=p.toNat+1) (by omega) (by omega) e1 ?_;rw[show p.toNat+1=(p+1).toNat by omega];exact h
theorem XG(q:fS S f.toNat p.toNat a)(i:0<=p)(I:p<S.length)(Y:bt S p=92)(j:must [39] (dr S (p+1))=none)(k:must [92] (dr S (p+1))=none)(l:must [120] (dr S (p+1))=none):cy (dr S f)=none:=by
 obtain⟨c,b,e⟩:=dU i I;refine Lt ?_;rcases Int.lt_or_le (p+1) S.length with h|h
 .obtain⟨d,g,e2⟩:=dU (S:=S) (p:=p+1) (by omega) h;have g1:=Kz j (by omega) h;have g2:=Kz k (by omega) h;have g3:=Kz l (by omega) h;rw[show(p+1).toNat=p.toNat+1 by omega]at g;refine a23 q b (by omega) g (λe=>g1 ?_) (λe=>g2 ?_) (λe=>g3 ?_)
  all_goals rw[e2,e]<;>rfl
 .exact VU q b (by omega) (by omega)
theorem a6p(q:fS S f.toNat p.toNat a)(b:0<=p)(I:p<S.length)(Y:bt S p=92)(d:must [120] (dr S (p+1))=some X)(h:S.length<p+4):cy (dr S f)=none:=by obtain⟨c,g,e⟩:=dU b I;have Z:=FK d;rw[show(p+1).toNat=p.toNat+1 by omega]at Z;exact Lt (VW q g (by omega) Z (by decide) (by omega))
theorem Mr{c:UInt8}(h:S[p.toNat]? =some c):indexByte fU (bt S p).toNat.toUInt8=indexByte fU c:=by rw[Eh h];congr 1;simp
theorem a6o(q:fS S f.toNat p.toNat a)(k:0<=p)(I:p<S.length)(Y:bt S p=92)(l:must [120] (dr S (p+1))=some X)(h:p+4<=S.length)
  (b:indexByte fU (bt S (p+1+1)).toNat.toUInt8<0\/indexByte fU (bt S (p+1+1+1)).toNat.toUInt8<0):cy (dr S f)=none:=by
 obtain⟨c,m,e⟩:=dU k I;have Z:=FK l;obtain⟨d,i,e2⟩:=dU (S:=S) (p:=p+1+1) (by omega) (by omega);obtain⟨g,j,e3⟩:=dU (S:=S) (p:=p+1+1+1) (by omega) (by omega);rw[Mr i,Mr j]at b;rw[show(p+1).toNat=p.toNat+1 by omega]at Z;rw[show(p+1+1).toNat=p.toNat+2 by omega]at i;rw[show(p+1+1+1).toNat=p.toNat+3 by omega]at j;refine Lt (VX q m (by omega) Z (by decide) i j ?_);rw[AR d,AR g];rcases b with b|b
 .left;rw[av (by omega)]
 .right;rw[av (by omega)]
theorem a9q(q:fS S f.toNat p.toNat a)(m:0<=p)(I:p<S.length)(Y:bt S p=92)(n:must [120] (dr S (p+1))=some X)(h:p+4<=S.length)
  (hh:0<=indexByte fU (bt S (p+1+1)).toNat.toUInt8) (j:0<=indexByte fU (bt S (p+1+1+1)).toNat.toUInt8):
  fS S f.toNat (p+4).toNat (a++[UInt8.ofNat (16*(indexByte fU (bt S (p+1+1)).toNat.toUInt8).toNat+(indexByte fU (bt S (p+1+1+1)).toNat.toUInt8).toNat)])/\
  indexByte fU (bt S (p+1+1)).toNat.toUInt8<16/\indexByte fU (bt S (p+1+1+1)).toNat.toUInt8<16:=by
 obtain⟨c,o,e⟩:=dU m I;have Z:=FK n;obtain⟨d,b,e2⟩:=dU (S:=S) (p:=p+1+1) (by omega) (by omega);obtain⟨g,i,e3⟩:=dU (S:=S) (p:=p+1+1+1) (by omega) (by omega);rw[Mr b]at hh ⊢;rw[Mr i]at j ⊢;have k:unhex d=some (indexByte fU d).toNat:=by rw[AR,aJ hh]
 have l:unhex g=some (indexByte fU g).toNat:=by rw[AR,aJ j]
 have r:=NB k;have s:=NB l;rw[show(p+1).toNat=p.toNat+1 by omega]at Z;rw[show(p+1+1).toNat=p.toNat+2 by omega]at b;rw[show(p+1+1+1).toNat=p.toNat+3 by omega]at i;refine⟨?_,by omega,by omega⟩;rw[show(p+4).toNat=p.toNat+4 by omega];exact a22 q o (by omega) Z (by decide) b i k l
theorem Dv(a:0<=p)(I:p<S.length):wP S p.toNat (p+1).toNat []:=by rw[show(p+1).toNat=p.toNat+1 by omega];exact VL (by omega)
theorem a47(q:wP S f.toNat p.toNat a)(d:0<=p)(I:p<S.length)(Y:bt S p≠39)(W:bt S p≠92):wP S f.toNat (p+1).toNat (a++[(S[p.toNat]?).getD 0]):=by obtain⟨c,b,e⟩:=dU d I;rw[show(p+1).toNat=p.toNat+1 by omega,b,hE];exact a2K q b (by omega) (by omega)
theorem a9k(q:wP S f.toNat p.toNat a)(g:0<=p)(I:p+1<S.length)(Y:bt S p=92)(W:bt S (p+1)≠120\/S.length<p+4):wP S f.toNat (p+2).toNat (a++[(S[(p+1).toNat]?).getD 0]):=by obtain⟨c,h,e⟩:=dU (S:=S) g (by omega);obtain⟨d,b,e2⟩:=dU (S:=S) (p:=p+1) (by omega) I;rw[b,hE];rw[show(p+1).toNat=p.toNat+1 by omega]at b;rw[show(p+2).toNat=p.toNat+2 by omega];exact a2J q h (by omega) b (by omega)
theorem a9j(q:wP S f.toNat p.toNat a)(b:0<=p)(I:p<S.length)(Y:bt S p=92)(W:S.length<=p+1):wP S f.toNat (p+2).toNat (a++[0]):=by obtain⟨c,d,e⟩:=dU b I;rw[show(p+2).toNat=p.toNat+2 by omega];exact YX q d (by omega) (by omega)
theorem a9i(q:wP S f.toNat p.toNat a)(i:0<=p)(I:p+4<=S.length)(Y:bt S p=92)(W:bt S (p+1)=120):wP S f.toNat (p+4).toNat (a++[HV ((S[(p+2).toNat]?).getD 0) ((S[(p+3).toNat]?).getD 0)]):=by obtain⟨c,j,e⟩:=dU (S:=S) i (by omega);obtain⟨d,h,e2⟩:=dU (S:=S) (p:=p+1) (by omega) (by omega);obtain⟨g,b,e3⟩:=dU (S:=S) (p:=p+2) (by omega) (by omega);obtain⟨k,hk,l⟩:=dU (S:=S) (p:=p+3) (by omega) (by omega);rw[b,hk,hE,hE];rw[show(p+1).toNat=p.toNat+1 by omega]at h;rw[show(p+2).toNat=p.toNat+2 by omega]at b;rw[show(p+3).toNat=p.toNat+3 by omega]at hk;rw[show(p+4).toNat=p.toNat+4 by omega];exact a2L q j (by omega) h (by omega) b hk
theorem a3X{c:UInt8}:Si c=if 48<=(c.toNat:Int)/\(c.toNat:Int)<=57 then(c.toNat:Int)-48 else if 97<=(c.toNat:Int)/\(c.toNat:Int)<=102 then(c.toNat:Int)-87 else -1:=by grind[Si,digit]
theorem a43(q:wP S f.toNat p.toNat a)(b:0<=p)(I:p<S.length)(Y:bt S p=39)(W:a.length<=64)(U:plain a=false)(h5:quote a=sb S f (p+1)):cy (dr S f)=some (.mk 2 0 a [],dr S (p+1)):=by obtain⟨c,d,e⟩:=dU b I;have h5:quote a=(S.take (p+1).toNat).drop f.toNat:=h5;show cy (S.drop f.toNat)=some (_,S.drop (p+1).toNat);rw[show(p+1).toNat=p.toNat+1 by omega]at h5 ⊢;exact aaa q d (by omega) W U h5
theorem a9h(q:wP S f.toNat p.toNat a)(b:0<=p)(I:p<S.length)(Y:bt S p=39)(c:a.length<=64->plain a=false->quote a=sb S f (p+1)->False):cy (dr S f)=none:=by grind[dU,aab]
theorem Xy(q:wP S f.toNat p.toNat a)(I:S.length<=p):cy (dr S f)=none:=a2H q (by omega)
theorem a9n(a:jy S f.toNat p.toNat)(b:0<=f)(c:p<=f+20):l5 S f.toNat p.toNat f.toNat 0:=YQ a (by omega)
theorem S7(a:0<=p)(h:noD S p\/p=f+20)(b:0<=f):EF S f.toNat p.toNat:=by
 rcases h with h|h
 .exact .inl (G1 a h)
 .exact .inr (by omega)
theorem a5b(h:l5 S f.toNat p.toNat i.toNat n)(a:0<=i)(V:i<p)(I:i<S.length)(Y:bt S i=45):l5 S f.toNat p.toNat (i+1).toNat n:=by obtain⟨c,b,e⟩:=dU a I;have:c=45:=hD.1 (by rw[show(45:UInt8).toNat=45 from rfl];omega);subst this;rw[show(i+1).toNat=i.toNat+1 by omega];exact YR h (by omega) b
theorem Li(h:l5 S f.toNat p.toNat i.toNat n)(a:0<=i)(V:i<p)(I:i<S.length)(Y:bt S i≠45):48<=bt S i/\bt S i<=57:=by
 obtain⟨c,b,e⟩:=dU a I;obtain⟨g1,g2,g3,g4,g5,g6⟩:=h;rcases a9O g1 g3 (show i.toNat<p.toNat by omega) b with⟨rfl, -⟩|d
 .exact absurd e (by simpa using Y)
 .have:=gf.1 d;omega
theorem a9l(h:l5 S f.toNat p.toNat i.toNat n)(a:0<=i)(V:i<p)(I:i<S.length)(Y:bt S i≠45)(b:dX<=10*n-(bt S i-48)):l5 S f.toNat p.toNat (i+1).toNat (10*n-(bt S i-48)):=by
 have g:=Li h a V I Y;obtain⟨c,d,e⟩:=dU a I;rw[show(i+1).toNat=i.toNat+1 by omega];have e2:bt S i-48=(c.toNat-48:Nat):=by omega
 rw[e2]at b ⊢;exact YT h (by omega) d (λe3=>Y (by rw[e,e3]<;>rfl)) b
theorem a9m{H:Int}(h:l5 S f.toNat p.toNat i.toNat n)(a:0<=i)(V:i<p)(I:i<S.length)(Y:bt S i≠45)(d:dX<=lo)(g:H<=fc)(b:10*n-(bt S i-48)<dX):eE lo H (dr S f)=none:=by
 have k:=Li h a V I Y;obtain⟨c,j,e⟩:=dU a I;have e2:bt S i-48=(c.toNat-48:Nat):=by omega
 rw[e2]at b;exact a2D h (by omega) j (λe3=>Y (by rw[e,e3]<;>rfl)) d g b
theorem a48{m H:Int}(h:l5 S f.toNat p.toNat i.toNat n)(V:i=p)(a:EF S f.toNat p.toNat)(b:itoa m=sb S f p)(I:lo<=m)(Y:m<=H)(c:dX<=lo)(d:H<=fc):eE lo H (dr S f)=some (m,dr S p):=by grind[a96]
theorem a5a{m H:Int}{less:Bool}(h:l5 S f.toNat p.toNat i.toNat n)(V:i=p)(b:EF S f.toNat p.toNat)(j:0<=f)(a:sgn less S f p)(em:m=if less then n else -n)(c:dX<=lo)(d:H<=fc)(e:itoa m=sb S f p->lo<=m->m<=H->False):eE lo H (dr S f)=none:=by
 subst V;have g:=h.1.1;refine a97 h b ?_ c d e;unfold sgn at a;cases less with
 |true=>exact .inl ⟨by simp at a;omega,by simpa using a.2,by simpa using em⟩
 |false=>simp only[fa,br]at a em;exact .inr ⟨a.imp (λh=>by omega) id,em⟩
end
section
variable{X R R' e a:B}{n lo V:Int}{k:Int}{bH:Bool}{l ts:List Tm}{t:Tm}
theorem a5g(I:eE 0 bF X=some (n,R))(Y:must e R=some R'):zB e X=some (n,R'):=by unfold zB;rw[I];simp only[Y,cM]
theorem Tg(I:eE 0 bF X=none):zB e X=none:=by unfold zB;rw[I]
theorem Tf(I:eE 0 bF X=some (n,R))(Y:must e R=none):zB e X=none:=by unfold zB;rw[I];simp only[Y,Option.map_none]
theorem a9x(I:must a X=some R)(Y:zB e R=some (n,R')):(must a X).bind (zB e)=some (n,R'):=by rw[I];exact Y
theorem a2d(I:must a X=none):(must a X).bind (zB e)=none:=by rw[I]<;>rfl
theorem a2c(I:must a X=some R)(Y:zB e R=none):(must a X).bind (zB e)=none:=by rw[I];exact Y
theorem jt:kn k e X=(zB e X).map λx=>(.mk k x.1 [] [],x.2):=by
 unfold kn zB;cases eE 0 bF X with
 |none=>rfl
 |some y=>simp only;cases must e y.2<;>rfl
variable(I:must [123] X=none)(Y:must [91] X=none)(W:must [39] X=none)(U:must rI X=none)(h5:must uq X=none)(h6:must zk X=none)(h7:must pH X=none)
theorem a6m(h:must [123] X=some R)(a:iS bH (PT bH) (PR bH) [125] R=some (l,R')):PT bH X=some (.mk 7 0 [] l,R'):=by rw[H9 h,a]<;>rfl
theorem Xr(h:must [123] X=some R)(a:iS bH (PT bH) (PR bH) [125] R=none):PT bH X=none:=by rw[H9 h,a]<;>rfl
include I
theorem a15(h:must [91] X=some R):PT bH X=gJ (PT bH) (PR bH) R:=a4W I h
include Y
theorem a14(h:must [39] X=some R):PT bH X=cy X:=a9e I Y h
include W
theorem a6l(h:must rI X=some R)(a:zB [62] R=some (n,R')):PT bH X=some (.mk 3 n [] [],R'):=by rw[SZ I Y W h,jt,a]<;>rfl
theorem Xq(h:must rI X=some R)(a:zB [62] R=none):PT bH X=none:=by rw[SZ I Y W h,jt,a]<;>rfl
include U
theorem a6k(h:must uq X=some R)(a:zB [62] R=some (n,R')):PT bH X=some (.mk 4 n [] [],R'):=by rw[SY I Y W U h,jt,a]<;>rfl
theorem Xp(h:must uq X=some R)(a:zB [62] R=none):PT bH X=none:=by rw[SY I Y W U h,jt,a]<;>rfl
include h5
theorem a6j(h:must zk X=some R)(a:zB JC R=some (n,R')):PT bH X=some (.mk 6 n [] [],R'):=by rw[S0 I Y W U h5 h,jt,a]<;>rfl
theorem Xo(h:must zk X=some R)(a:zB JC R=none):PT bH X=none:=by rw[S0 I Y W U h5 h,jt,a]<;>rfl
include h6
theorem a6i(h:must pH X=some R):PT bH X=jr bH (PR bH) R:=a1X I Y W U h5 h6 h
include h7
theorem a13(h:eG X=true):PT bH X=iA X:=by rw[Vp I Y W U h5 h6 h7,aJ h]
theorem Qw(h:eG X=false):PT bH X=(eE dX fc X).map λx=>(.mk 1 x.1 [] [],x.2):=by rw[Vp I Y W U h5 h6 h7,av (by rw[h];exact Bool.false_ne_true)]
end
section
variable{S e:B}{p p' n v lo V:Int}{T:TypeId}{l ts:List Tm}{t:Tm}
theorem NS(a:0<=p)(I:p<S.length):eG (dr S p)=true↔Nk (bt S p):=by obtain⟨c,b,e⟩:=dU a I;show eG (S.drop p.toNat)=true↔_;rw[cH b,e];exact Jw
theorem Lb(I:S.length<=p):eG (dr S p)=false:=by grind[eG,tw]
theorem Jy(a:0<=p)(I:p<S.length)(h:¬Nk (bt S p)):eG (dr S p)=false:=by
 cases b:eG (dr S p)with
 |false=>rfl
 |true=>exact absurd ((NS a I).1 b) h
theorem a3q{c:UInt8}(h:S[p.toNat]? =some c)(d:UInt8)(l:B)(a:d≠c):must (d::l) (dr S p)=none:=by show must (d::l) (S.drop p.toNat)=none;rw[cH h];exact xA (by simp;intro e;exact absurd e.symm a)
theorem ew{d:UInt8}{l:B}(a:0<=p)(I:p<S.length)(h:bt S p≠d.toNat):must (d::l) (dr S p)=none:=by grind[dU,a3q,e2]
theorem Fa{d:UInt8}{l R:B}(a:0<=p)(I:p<S.length)(h:must (d::l) (dr S p)=some R):bt S p=d.toNat:=by grind[bt,ew]
theorem Qa{d:UInt8}(a:0<=p)(I:p<S.length)(h:bt S p=d.toNat):must [d] (dr S p)=some (dr S (p+1)):=by obtain⟨c,b,e⟩:=dU a I;have:c=d:=hD.1 (by omega);subst this;exact XI a b
theorem WG(n:Int):∃c r,itoa n=c::r/\(c.toNat=45\/(48<=c.toNat/\c.toNat<=57)):=by
 unfold itoa;split
 .exact⟨45,_,rfl,.inl rfl⟩
 .obtain⟨c,r,h,I,Y⟩:=B8 n.toNat;exact⟨c,r,h,.inr ⟨I,Y⟩⟩
theorem ZX(a:0<=p)(I:p<S.length)(h:bt S p≠45)(Y:bt S p<48\/57<bt S p):eE lo V (dr S p)=none:=by
 cases Z:eE lo V (dr S p)with
 |none=>rfl
 |some x=>obtain⟨n,r⟩:=x;obtain⟨g1, -⟩:=mE Z;obtain⟨c,q,e1,e2⟩:=WG n;obtain⟨d,b,e3⟩:=dU a I;have g1:S.drop p.toNat=itoa n++r:=g1;rw[cH b,e1]at g1;injection g1 with g1 _;subst g1;omega
theorem a3s(I:S.length<=p):eE lo V (dr S p)=none:=by
 cases Z:eE lo V (dr S p)with
 |none=>rfl
 |some x=>obtain⟨n,r⟩:=x;have:=nN Z;rw[eV]at this;omega
theorem TZ{bH:Bool}(a:0<=p)(I:p<S.length)(h:bt S p=45\/(48<=bt S p/\bt S p<=57)):PT bH (dr S p)=(eE dX fc (dr S p)).map λx=>(.mk 1 x.1 [] [],x.2):=by
 refine Qw (ew a I ?_) (ew a I ?_) (ew a I ?_) (ew a I ?_) (ew a I ?_) (ew a I ?_) (ew a I ?_) (Jy a I ?_)
 all_goals first|(simp;omega)|(unfold Nk;omega)
theorem TW{bH:Bool}(a:0<=p)(I:p<S.length)(h:bt S p=39):PT bH (dr S p)=cy (dr S p):=
 a14 (ew a I (by simp;omega)) (ew a I (by simp;omega)) (Qa a I (by simp;omega))
theorem TX{bH:Bool}(a:0<=p)(I:p<S.length)(h:97<=bt S p/\bt S p<=122):PT bH (dr S p)=iA (dr S p):=by
 refine a13 (ew a I ?_) (ew a I ?_) (ew a I ?_) (ew a I ?_) (ew a I ?_) (ew a I ?_) (ew a I ?_) ((NS a I).2 h)
 all_goals(simp;omega)
theorem TY{bH:Bool}(a:0<=p)(I:p<S.length)(h:bt S p=60):PT bH (dr S p)=((must zk (dr S p)).bind (zB JC)).map λx=>(.mk 6 x.1 [] [],x.2):=by
 have b:must [123] (dr S p)=none:=ew a I (by simp;omega);have c:must [91] (dr S p)=none:=ew a I (by simp;omega);have d:must [39] (dr S p)=none:=ew a I (by simp;omega);have e:must rI (dr S p)=none:=ew a I (by simp;omega);have f:must uq (dr S p)=none:=ew a I (by simp;omega);have i:must pH (dr S p)=none:=ew a I (by simp;omega);cases g:must zk (dr S p)with
 |some R=>rw[S0 b c d e f g,jt]<;>rfl
 |none=>rw[Qw b c d e f g i (Jy a I (by unfold Nk;omega))];have:eE dX fc (dr S p)=none:=ZX a I (by omega) (by omega);rw[this]<;>rfl
theorem TV{bH:Bool}{R:B}(a:0<=p)(I:p<S.length)(h:must rI (dr S p)=some R):PT bH (dr S p)=((must rI (dr S p)).bind (zB [62])).map λx=>(.mk 3 x.1 [] [],x.2):=by have e:=Fa a I h;rw[SZ (ew a I (by rw[e];decide)) (ew a I (by rw[e];decide)) (ew a I (by rw[e];decide)) h,jt,h];rfl
theorem TU{bH:Bool}{R:B}(a:0<=p)(I:p<S.length)(U:must rI (dr S p)=none)(h:must uq (dr S p)=some R):PT bH (dr S p)=((must uq (dr S p)).bind (zB [62])).map λx=>(.mk 4 x.1 [] [],x.2):=by have e:=Fa a I h;rw[SY (ew a I (by rw[e];decide)) (ew a I (by rw[e];decide)) (ew a I (by rw[e];decide)) U h,jt,h];rfl
theorem T1{R:B}(a:0<=p)(I:p<S.length)(U:must rI (dr S p)=none)(h5:must uq (dr S p)=none)(h:must pH (dr S p)=some R):PT false (dr S p)=Aq (dr S p):=by have e:=Fa a I h;rw[a1X (ew a I (by rw[e];decide)) (ew a I (by rw[e];decide)) (ew a I (by rw[e];decide)) U h5 (ew a I (by rw[e];decide)) h,Aq,h];rfl
theorem TT{bH:Bool}(a:0<=p)(I:p<S.length)(h:bt S p=123):PT bH (dr S p)=(iS bH (PT bH) (PR bH) [125] (dr S (p+1))).map λx=>(.mk 7 0 [] x.1,x.2):=H9 (Qa a I (by rw[h]<;>rfl))
theorem T0(a:0<=p)(I:p<S.length)(h:bt S p=91):PT false (dr S p)=zn (dr S p):=by have e:=Qa (d:=91) a I (by rw[h]<;>rfl);rw[a15 (ew a I (by rw[h];decide)) e,zn,e];rfl
theorem On{bH:Bool}(a:0<=p)(I:p<S.length)(b:bt S p≠45)(c:bt S p<48\/57<bt S p)(d:bt S p≠39)(h:bt S p<97\/122<bt S p)(e:bt S p≠60)(U:must rI (dr S p)=none)(h5:must uq (dr S p)=none)(h7:must pH (dr S p)=none)
  (f:bt S p≠123) (g:bt S p≠91):PT bH (dr S p)=none:=by
 rw[Qw (ew a I (by simpa using f)) (ew a I (by simpa using g)) (ew a I (by simpa using d)) U h5 (ew a I (by simpa using e)) h7 (Jy a I (by unfold Nk;omega)),ZX a I b c];rfl
theorem T2{bH:Bool}(I:S.length<=p):PT bH (dr S p)=none:=by rw[Qw (vc I) (vc I) (vc I) (vc I) (vc I) (vc I) (vc I) (Lb I),a3s I]<;>rfl
end
section
variable{bH:Bool}{X R R' R2 R3 e:B}{n:Int}{ts l:List Tm}{t:Tm}
theorem m44(h:must [44] X=some R):X=44::R:=td h
theorem a5s(h:must [44] X=some R)(a:PT bH R=some (t,R')):cT bH ts e X=cT bH (ts++[t]) e R':=by rw[m44 h];exact RY a
theorem X6(h:must [44] X=some R)(a:PT bH R=none):cT bH ts e X=none:=by rw[m44 h];exact RX a
theorem a5r(h:must [44] X=none)(Y:must e X=some R)(a:ml bH ts=true):cT bH ts e X=some (ts,R):=by rw[uK h,Y];simp only[a,bc]
theorem X5(h:must [44] X=none)(Y:must e X=none):cT bH ts e X=none:=by rw[uK h,Y]
theorem a6D(h:must [44] X=none)(Y:must e X=some R)(a:ml bH ts=false):cT bH ts e X=none:=by rw[uK h,Y];simp[a]
theorem a5j(h:must [44] X=some R)(a:PT bH R=some (t,R')):b5 bH ts X=b5 bH (ts++[t]) R':=by rw[m44 h];exact Pa a
theorem XO(h:must [44] X=some R)(a:PT bH R=none):b5 bH ts X=none:=by rw[m44 h];exact O9 a
theorem XN(h:must [44] X=none)(Y:must [124] X=some R)(a:PT bH R=some (t,R2))(hk:t.k≠9/\t.k≠8)(W:must [93] R2=some R3):b5 bH ts X=some (cz ts t,R3):=by grind[ie,xv]
theorem KB(h:must [44] X=none)(Y:must [124] X=some R)(a:PT bH R=none):b5 bH ts X=none:=by rw[ie h,xv Y,a]
theorem Ar(h:must [44] X=none)(Y:must [124] X=some R)(a:PT bH R=some (t,R2))(hk:t.k=9\/t.k=8):b5 bH ts X=none:=by grind[ie,xv]
theorem KA(h:must [44] X=none)(Y:must [124] X=some R)(a:PT bH R=some (t,R2))(W:must [93] R2=none):b5 bH ts X=none:=by grind[ie,xv]
theorem XP(h:must [44] X=none)(Y:must [124] X=none)(W:must [93] X=some R):b5 bH ts X=some (cz ts uI,R):=by rw[ie h,GF Y];simp only[W,cM];rfl
theorem QF(h:must [44] X=none)(Y:must [124] X=none)(W:must [93] X=none):b5 bH ts X=none:=by grind[ie,GF]
theorem Ti(h:must [44] X=some R)(a:PT bH R=some (t,R')):eT bH n ts X=eT bH n (ts++[t]) R':=by rw[m44 h];exact RW a
theorem FL(h:must [44] X=some R)(a:PT bH R=none):eT bH n ts X=none:=by rw[m44 h];exact RV a
theorem a5m(h:must [44] X=none)(Y:must [62] X=some R)(a:ml bH ts=true):eT bH n ts X=some (.mk 5 n [] ts,R):=by rw[uJ h,Y];simp only[a,bc]
theorem KD(h:must [44] X=none)(Y:must [62] X=none):eT bH n ts X=none:=by rw[uJ h,Y]
theorem a6x(h:must [44] X=none)(Y:must [62] X=some R)(a:ml bH ts=false):eT bH n ts X=none:=by rw[uJ h,Y];simp[a]
theorem Xw(a:PT false X=some (t,R))(h:must [44] R=some R2):kJ ts X=kJ (ts++[t]) R2:=by grind[kJ,PT,XO,a5j]
theorem a42(a:PT false X=none):kJ ts X=none:=by unfold kJ;rw[a]
theorem Nq(a:PT false X=some (t,R)):kJ ts X=b5 false (ts++[t]) R:=by unfold kJ;rw[a]
theorem a6B(a:PT false X=some (t,R)):Cp e ts X=cT false (ts++[t]) e R:=by unfold Cp;rw[a]
theorem a5p(a:PT false X=none):Cp e ts X=none:=by unfold Cp;rw[a]
theorem no44(a:e=[125]\/e=[62])(h:must e X=some R):must [44] X=none:=by grind[td,a3w]
theorem a5o(a:e=[125]\/e=[62])(b:PT false X=some (t,R))(h:must e R=some R2):Cp e ts X=some (ts++[t],R2):=by rw[a6B b];exact a5r (no44 a h) h rfl
theorem a5q(a:PT false X=some (t,R))(h:must [44] R=some R2):Cp e ts X=Cp e (ts++[t]) R2:=by grind[a6B,Cp,PT,X6,a5s]
theorem X4(a:PT false X=some (t,R))(h:must [44] R=none)(Y:must e R=none):Cp e ts X=none:=by rw[a6B a];exact X5 h Y
theorem a9H(h:must e X=none):iS false (PT false) (PR false) e X=Cp e [] X:=by grind[Cp,PT,LO,CV]
theorem a6n(h:must [91] X=some R)(Y:must [93] R=none):zn X=kJ [] R:=by grind[zn,kJ,gJ,PT,PR,OE,GI]
theorem a9p(h:must [91] X=some R)(Y:must [93] R=some R2):zn X=some (uI,R2):=by unfold zn;rw[h];exact JP Y
theorem a9o(h:must [91] X=none):zn X=none:=by unfold zn;rw[h]<;>rfl
theorem XD(h:must pH X=none):Aq X=none:=by unfold Aq;rw[h]<;>rfl
theorem QC(h:must pH X=some R)(I:eE 0 bF R=none):Aq X=none:=by unfold Aq;rw[h];exact Ua I
theorem XE(h:must pH X=some R)(I:eE 0 bF R=some (n,R'))(Y:must [44] R'=none)(W:must [62] R'=some R2):Aq X=some (.mk 5 n [] [],R2):=by unfold Aq;rw[h];show jr false (PR false) R=_;rw[ta I];exact a5m Y W rfl
theorem QE(h:must pH X=some R)(I:eE 0 bF R=some (n,R'))(Y:must [44] R'=none)(W:must [62] R'=none):Aq X=none:=by unfold Aq;rw[h];show jr false (PR false) R=_;rw[ta I];exact KD Y W
theorem Y1(I:eE 0 bF R=some (n,R'))(Y:must [44] R'=some R2)(W:must [62] R2=none):jr false (PR false) R=(iS false (PT false) (PR false) [62] R2).map λx=>(.mk 5 n [] x.1,x.2):=by
 rw[ta I];cases a:PT false R2 with
 |none=>rw[FL Y a,LO W a]<;>rfl
 |some y=>
  rw[Ti (t:=y.1) (R':=y.2) Y a,CV (t:=y.1) (r:=y.2) W a];unfold eT cT;cases PR false y.2 with
  |none=>rfl
  |some z=>
   simp only[fH];cases must [62] z.2 with
   |none=>rfl
   |some q=>simp[ml]
theorem ady(h:must [62] X=some R):PT false X=none:=by
 have e:X=62::R:=td h;have e2:X=dr X 0:=rfl;have b:bt X 0=62:=by rw[e]<;>rfl
 have a:(0:Int)<X.length:=by rw[e];simp
 rw[e2];exact On (Int.le_refl 0) a (by omega) (by omega) (by omega) (by omega) (by omega) (ew (Int.le_refl 0) a (by rw[b];decide)) (ew (Int.le_refl 0) a (by rw[b];decide)) (ew (Int.le_refl 0) a (by rw[b];decide)) (by omega) (by omega)
theorem a16(h:must pH X=some R)(I:eE 0 bF R=some (n,R'))(Y:must [44] R'=some R2)(W:iS false (PT false) (PR false) [62] R2=some (l,R3))(a:l.length≠0):Aq X=some (.mk 5 n [] l,R3):=by
 unfold Aq;rw[h];show jr false (PR false) R=_;cases b:must [62] R2 with
 |none=>rw[Y1 I Y b,W]<;>rfl
 |some y=>rw[Bx b]at W;simp only[aD,cB]at W;rw[<-W.1]at a;exact absurd rfl a
theorem Ky(h:must pH X=some R)(I:eE 0 bF R=some (n,R'))(Y:must [44] R'=some R2)(W:iS false (PT false) (PR false) [62] R2=some (l,R3))(a:l.length=0):Aq X=none:=by
 unfold Aq;rw[h];show jr false (PR false) R=_;cases b:must [62] R2 with
 |some y=>rw[ta I,FL Y (ady b)]
 |none=>
  rw[a9H b]at W;unfold Cp at W;cases c:PT false R2 with
  |none=>rw[c]at W;cases W
  |some y=>
   rw[c]at W;simp only[fH]at W;unfold cT at W;cases d:PR false y.2 with
   |none=>rw[d]at W;cases W
   |some z=>
    rw[d]at W;simp only at W;cases e:must [62] z.2 with
    |none=>rw[e]at W;cases W
    |some q=>rw[e]at W;simp only[ml,Bool.not_false,Bool.true_or,bc,aD,cB]at W;rw[<-W.1]at a;simp at a
theorem QB(h:must pH X=some R)(I:eE 0 bF R=some (n,R'))(Y:must [44] R'=some R2)(W:iS false (PT false) (PR false) [62] R2=none):Aq X=none:=by
 unfold Aq;rw[h];show jr false (PR false) R=_;cases a:must [62] R2 with
 |some y=>rw[Bx a]at W;cases W
 |none=>rw[Y1 I Y a,W]<;>rfl
end
theorem yz:∀(a b:List Tm)(e:Tm),cz (a++b) e=cz a (cz b e)
 | [],_,_=>rfl
 |t::a,b,e=>by simp only[kg,cz,yz a b e]
theorem O6{l:List Tm}{i:Nat}{t e:Tm}(h:l[i]? =some t):cz (l.take (i+1)) e=cz (l.take i) (.mk 9 0 [] [t,e]):=by rw[vt,h];exact yz _ _ _
section
section
variable{T:TypeId}{l ts:List Tm}{t:Tm}{e d:Dt}{n k v i:Int}{w:B}
def Qd(e:Dt)(n k v:Int)(w:B)(d:Dt):Option Dt:=((((e2 (.tk 4) e (iv n)).bind λu=>e2 .sn u (iv k)).bind λu=>e2 .sn u (iv v)).bind λu=>e2 .sn u (sv w)).bind λu=>e2 .sn u d
theorem yR:(((((e2 (.tk 4) e (iv n)).bind λu=>e2 .sn u (iv k)).bind λu=>e2 .sn u (iv v)).bind λu=>e2 .sn u (sv w)).bind λu=>e2 .sn u d)=Qd e n k v w d:=rfl
theorem a9X{J:List Dt}{x:Int}(h:J.length%4=0\/J.length%4=1):e2 .sn (.ls (kT T) J) (iv x)=some (.ls (kT T) (J++[iv x])):=by unfold e2;simp only;rw[aJ];refine⟨.int .i64,?_,x,rfl⟩;show(kT T)[J.length%4]? =_;rcases h with h|h<;>rw[h]<;>rfl
theorem acs{J:List Dt}{x:B}(h:J.length%4=2):e2 .sn (.ls (kT T) J) (sv x)=some (.ls (kT T) (J++[sv x])):=by unfold e2;simp only;rw[aJ];refine⟨.str,?_,_,rfl⟩;show(kT T)[J.length%4]? =_;rw[h]<;>rfl
theorem acu{J:List Dt}{a:Option Addr}{n c g:Nat}{q:List Dt}(h:J.length%4=3):e2 .sn (.ls (kT T) J) (.sl (.slice a n c) T g q)=some (.ls (kT T) (J++[.sl (.slice a n c) T g q])):=by unfold e2;simp only;rw[aJ];refine⟨.sl T,?_,a,n,c,g,q,rfl⟩;show(kT T)[J.length%4]? =_;rw[h]<;>rfl
theorem pI{w:B}(h:en T t [iv k,iv v,sv w,d]):t=.mk k v w t.l/\∃(a:Option Addr)(c:Nat)(J:List Dt),d=.sl (.slice a t.l.length c) T 4 J/\(a=none->t.l.length=0/\c=0)/\gr T t.l J:=by
 cases t with
 |mk k' n' F l=>unfold en at h;obtain⟨a,c,J,e,I,Y⟩:=h;injection e with e0 e;injection e with e1 e;injection e with e2 e;injection e with e3 _;simp only[Dt.val.injEq,kV,fp]at e0 e1;simp only[Dt.val.injEq,vv]at e2;injection e2 with e2;injection e2 with e2;subst e0;subst e1;subst e2;exact⟨rfl,a,c,J,e3,I,Y⟩
theorem pJ{w:B}(h:en T t [iv k,iv v,sv w,d]):iu T t.l d:=(pI h).2
theorem rK{w:B}(h:iu T l d):en T (.mk k v w l) [iv k,iv v,sv w,d]:=by obtain⟨a,c,J,rfl,I,Y⟩:=h;unfold en;exact⟨a,c,J,rfl,I,Y⟩
theorem sn4{J:List Dt}(h:en T t [iv k,iv v,sv w,d])(U:J.length%4=0):((((e2 .sn (.ls (kT T) J) (iv k)).bind λu=>e2 .sn u (iv v)).bind λu=>e2 .sn u (sv w)).bind λu=>e2 .sn u d)=some (.ls (kT T) (J++[iv k,iv v,sv w,d])):=by obtain⟨-,a,c,q,rfl, -, -⟩:=pI h;rw[a9X (.inl U)];simp only[bn];rw[a9X (.inr (by rw[cg];simp;omega))];simp only[bn];rw[acs (by simp;omega)];simp only[bn];rw[acu (by simp;omega)];simp
theorem ph(f:ff T l n e)(h:en T t [iv k,iv v,sv w,d]):∃a,Qd e n k v w d=some a/\ff T (l++[t]) (n+1) a:=by
 obtain⟨J,rfl,rfl,b⟩:=f;have c:=lj b;have g:e2 (.tk 4) (.ls (kT T) J) (iv l.length)=some (.ls (kT T) J):=by show(if l.length*4<=J.length then some (Dt.ls (kT T) (J.take (l.length*4)))else none)=_;rw[aJ (by omega),gp (by omega)]
 unfold Qd;rw[g];simp only[bn];refine⟨_,sn4 h (by omega),_,rfl,?_,VO b h⟩;rw[cg];simp
theorem a5n(h:en T t [iv k,iv v,sv w,d]):∃a,((((e2 .sn (.ls (kT T) []) (iv k)).bind λu=>e2 .sn u (iv v)).bind λu=>e2 .sn u (sv w)).bind λu=>e2 .sn u d)=some a/\ff T [t] 1 a:=by refine⟨_,sn4 h rfl,_,rfl,rfl,?_⟩;exact A9 h
def Xh(T:TypeId)(d e:Dt)(n:Int):Prop:=∃(a:Addr)(k c:Nat)(P:List Kd)(J:List Dt),d=.sl (.slice (some a) k c) T 4 (J.take (k*4))/\e=.ls P J/\n=k/\k*4<=J.length
theorem kr(i:Xh T d e n)(j:ff T l n e):iu T l d:=by
 obtain⟨a,k,c,P,J,rfl,m,rfl,hk⟩:=i;obtain⟨lS,e1,e2,f⟩:=j;rw[m]at e1;injection e1 with _ e1;subst e1;have g:=lj f;have b:k=l.length:=by omega
 subst b;exact⟨some a,c,_,rfl,(λh=>by cases h),by rw[gp (by omega)];exact f⟩
theorem sw:Rv T 4=pS [.d,.d,.i] (Xh T):=by
 funext l;apply propext;constructor
 .rintro⟨a,k,c,P,J,rfl,b⟩;exact⟨_,_,rfl,_,_,rfl,_,_,rfl,rfl,a,k,c,P,J,rfl,rfl,rfl,b⟩
 .rintro⟨_,_,rfl,_,_,rfl,_,_,rfl,rfl,a,k,c,P,J,rfl,rfl,rfl,b⟩;exact⟨a,k,c,P,J,rfl,b⟩
theorem jD:iu T [] (.sl (.slice none 0 0) T 4 []):=⟨none,0,[],rfl,λ_=>⟨rfl,rfl⟩,by unfold gr;rfl⟩
theorem Y6(h:iu T l d):e1 .len d=some (iv l.length):=by obtain⟨a,c,J,rfl, -, -⟩:=h;rfl
def gT(d:Dt)(i:Int)(j:Nat):Option Dt:=(e2 .el d (iv i)).bind (e1 (.ld j))
theorem I4{j:Nat}:((e2 .el d (iv i)).bind (e1 (.ld j)))=gT d i j:=rfl
theorem N8{c:List Dt}(h:en T t c):∃(k v:Int)(w:B)(d:Dt),c=[iv k,iv v,sv w,d]/\t=.mk k v w t.l:=by
 cases t with
 |mk k v w l=>unfold en at h;obtain⟨a,c,J,rfl, -, -⟩:=h;exact⟨k,v,w,_,rfl,rfl⟩
theorem a2e(h:iu T l d)(m:0<=i)(I:i<l.length):∃(t:Tm)(k v:Int)(w:B)(d':Dt),l[i.toNat]? =some t/\gT d i 0=some (iv k)/\gT d i 1=some (iv v)/\gT d i 2=some (sv w)/\gT d i 3=some d'/\en T t [iv k,iv v,sv w,d']:=by
 obtain⟨q,rfl⟩:=fK m;have f:q<l.length:=by omega
 obtain⟨a,c,J,rfl,n,o⟩:=h;have b:l[q]? =some l[q]:=dV f;obtain⟨cs,g,p⟩:=Gr o q l[q] b;obtain⟨k,v,w,d',rfl, -⟩:=N8 g;cases a with
 |none=>have:=(n rfl).1;omega
 |some a=>
  have key:∀j x,[iv k,iv v,sv w,d'][j]? =some x->gT (.sl (.slice (some a) l.length c) T 4 J) (q:Int) j=some x:=λj x r=>by
   have:=p j x r;unfold gT;have e:e2 .el (.sl (.slice (some a) l.length c) T 4 J) (iv (q:Int))=some (.pt (.pointer (some ⟨a.block,a.off+q*4,none⟩)) T 4 J (q*4) 0):=by show(if q<l.length then _ else none)=_;rw[aJ f]
   rw[e];show J[q*4+0+j]? =some x;rw[iF];exact this
  exact⟨l[q],k,v,w,d',b,key 0 _ rfl,key 1 _ rfl,key 2 _ rfl,key 3 _ rfl,g⟩
theorem acm(h:ff T l n e)(d:0<=i)(I:i<l.length):∃(t:Tm)(k v:Int)(w:B)(d':Dt),l[i.toNat]? =some t/\e2 (.at 4 0) e (iv i)=some (iv k)/\e2 (.at 4 1) e (iv i)=some (iv v)/\e2 (.at 4 2) e (iv i)=some (sv w)/\e2 (.at 4 3) e (iv i)=some d'/\en T t [iv k,iv v,sv w,d']:=by
 obtain⟨q,rfl⟩:=fK d;have f:q<l.length:=by omega
 obtain⟨J,rfl, -,g⟩:=h;have a:l[q]? =some l[q]:=dV f;obtain⟨cs,c,b⟩:=Gr g q l[q] a;obtain⟨k,v,w,d',rfl, -⟩:=N8 c;exact⟨l[q],k,v,w,d',a,b 0 _ rfl,b 1 _ rfl,b 2 _ rfl,b 3 _ rfl,c⟩
theorem ei{l O:List Tm}{m m':Int}(h:ff T l m e)(h':ff T O m' e):l=O:=by obtain⟨J,rfl, -,I⟩:=h;obtain⟨lS,e1, -,Y⟩:=h';injection e1 with _ e1;subst e1;exact Ba I Y
theorem gk{l O:List Tm}(h:iu T l d)(h':iu T O d):l=O:=by obtain⟨a,c,J,rfl, -,I⟩:=h;obtain⟨a',c',lS,e1, -,Y⟩:=h';injection e1 with _ _ _ e1;subst e1;exact Ba I Y
variable{K:TypeId->List Kd}
mutual
theorem Y4(b:K T=kT T):∀{t:Tm}{ds:List Dt}(j:Nat),en T t ds->Dt.lT K (kT T) (4*j) ds
 | .mk k n s l,ds,j,h=>by
   unfold en at h;obtain⟨a,c,J,rfl,f,d⟩:=h;have e:=Ll b 0 d;have m0:(kT T)[4*j%4]? =some (.int .i64):=by rw[show 4*j%4=0 by omega]<;>rfl
   have m1:(kT T)[(4*j+1)%4]? =some (.int .i64):=by rw[show(4*j+1)%4=1 by omega]<;>rfl
   have m2:(kT T)[(4*j+1+1)%4]? =some .str:=by rw[show(4*j+1+1)%4=2 by omega]<;>rfl
   have m3:(kT T)[(4*j+1+1+1)%4]? =some (.sl T):=by rw[show(4*j+1+1+1)%4=3 by omega]<;>rfl
   refine⟨⟨_,m0,k,rfl⟩,rfl,⟨_,m1,n,rfl⟩,rfl,⟨_,m2,_,rfl⟩,rfl,⟨_,m3,a,_,c,4,J,rfl⟩,?_,eI⟩;cases a with
   |none=>obtain⟨I,Y⟩:=f rfl;have W:=lj d;refine .inl ⟨by rw[I,Y],FN (by omega)⟩
   |some a=>exact .inr ⟨by rw[b]<;>rfl,⟨a,_,c,rfl,lj d⟩,by rw[b];exact e⟩
theorem Ll(a:K T=kT T):∀{l:List Tm}{J:List Dt}(j:Nat),gr T l J->Dt.lT K (kT T) (4*j) J
 | [],J,j,h=>by unfold gr at h;subst h;trivial
 |t::l,J,j,h=>by
  unfold gr at h;obtain⟨c,r,rfl,I,Y⟩:=h;have W:=Y4 a j I;have U:=Ll a (j+1) Y;have h5:=oU I
  match c,h5,W with
  | [f,g,i,k],_,W=>obtain⟨a0,b0,a1,b,a2,d,a3,e, -⟩:=W;refine⟨a0,b0,a1,b,a2,d,a3,e,?_⟩;rw[show 4*j+1+1+1+1=4*(j+1) by omega];exact U
end
end
section
variable{K:TypeId->List Kd}{T:TypeId}{b:Bool}{N:Nat}
theorem sz:Wc=pS [.s] λS=>S.length<4294967281:=by
 funext l;apply propext;constructor
 .rintro⟨s,rfl,h⟩;exact⟨s.data.toList,_,rfl,rfl,h⟩
 .rintro⟨S,_,rfl,rfl,h⟩;exact⟨⟨⟨S⟩⟩,rfl,h⟩
theorem fQ:Zx b=pS [.s,.s] λS X=>contains S X=b:=by
 funext l;apply propext;constructor
 .rintro⟨s,t,rfl,h⟩;exact⟨s.data.toList,_,rfl,t.data.toList,_,rfl,rfl,h⟩
 .rintro⟨S,_,rfl,X,_,rfl,rfl,h⟩;exact⟨⟨⟨S⟩⟩,⟨⟨X⟩⟩,rfl,h⟩
theorem nC:OJ=pS [.s,.s,.s,.s] λS X u v=>cut S X=(u,v,true):=by
 funext l;apply propext;constructor
 .rintro⟨s,t,u,v,rfl,h⟩;exact⟨s.data.toList,_,rfl,t.data.toList,_,rfl,u.data.toList,_,rfl,v.data.toList,_,rfl,rfl,h⟩
 .rintro⟨S,_,rfl,X,_,rfl,u,_,rfl,v,_,rfl,rfl,h⟩;exact⟨⟨⟨S⟩⟩,⟨⟨X⟩⟩,⟨⟨u⟩⟩,⟨⟨v⟩⟩,rfl,h⟩
theorem nD:OK=pS [.s,.s] λS X=>cut S X=(S,[],false):=by
 funext l;apply propext;constructor
 .rintro⟨s,t,rfl,h⟩;exact⟨s.data.toList,_,rfl,t.data.toList,_,rfl,rfl,h⟩
 .rintro⟨S,_,rfl,X,_,rfl,rfl,h⟩;exact⟨⟨⟨S⟩⟩,⟨⟨X⟩⟩,rfl,h⟩
theorem np:JQ=pS [.s,.u,.i] λS c n=>n=indexByte S c.toNat.toUInt8:=by
 funext l;apply propext;constructor
 .rintro⟨s,c,n,rfl,h⟩;exact⟨s.data.toList,_,rfl,c,_,rfl,n,_,rfl,rfl,h⟩
 .rintro⟨S,_,rfl,c,_,rfl,n,_,rfl,rfl,h⟩;exact⟨⟨⟨S⟩⟩,c,n,rfl,h⟩
theorem sk:a68=pS [.i] λn=> -9223372036854775808<=n/\n<=9223372036854775807:=by
 funext l;apply propext;constructor
 .rintro⟨n,rfl,h⟩;exact⟨n,_,rfl,rfl,h⟩
 .rintro⟨n,_,rfl,rfl,h⟩;exact⟨n,rfl,h⟩
theorem nn:Zw=pS [.i,.s] λn S=>S=itoa n:=by
 funext l;apply propext;constructor
 .rintro⟨n,s,rfl,h⟩;exact⟨n,_,rfl,s.data.toList,_,rfl,rfl,h⟩
 .rintro⟨n,_,rfl,S,_,rfl,rfl,h⟩;exact⟨n,⟨⟨S⟩⟩,rfl,h⟩
theorem nF:nO=pS [.s,.i] λS n=>atoiAll S=.ok n:=by
 funext l;apply propext;constructor
 .rintro⟨s,n,rfl,h⟩;exact⟨s.data.toList,_,rfl,n,_,rfl,rfl,h⟩
 .rintro⟨S,_,rfl,n,_,rfl,rfl,h⟩;exact⟨⟨⟨S⟩⟩,n,rfl,h⟩
theorem j0:iR=pS [.s] λS=>∀n,atoiAll S≠.ok n:=by
 funext l;apply propext;constructor
 .rintro⟨s,rfl,h⟩;exact⟨s.data.toList,_,rfl,rfl,h⟩
 .rintro⟨S,_,rfl,rfl,h⟩;exact⟨⟨⟨S⟩⟩,rfl,h⟩
def Yl(K:TypeId->List Kd)(T:TypeId)(N:Nat)(a b c d:Dt):Prop:=oG K T N [a,b,c,d]
theorem nd:oG K T N=pS [.d,.d,.d,.d] (Yl K T N):=by
 funext l;apply propext;constructor
 .intro h
  match l,h.1 with
  | [a,b,c,d],_=>exact⟨a,_,rfl,b,_,rfl,c,_,rfl,d,_,rfl,rfl,h⟩
 .rintro⟨a,_,rfl,b,_,rfl,c,_,rfl,d,_,rfl,rfl,h⟩;exact h
theorem jM:pY=pS [.d,.d,.d,.d] Cu:=by
 funext l;apply propext;constructor
 .rintro⟨a,b,c,d,rfl,h⟩;exact⟨a,_,rfl,b,_,rfl,c,_,rfl,d,_,rfl,rfl,h⟩
 .rintro⟨a,_,rfl,b,_,rfl,c,_,rfl,d,_,rfl,rfl,h⟩;exact⟨a,b,c,d,rfl,h⟩
theorem a1m{t:Tm}{k v:Int}{w:B}{d:Dt}(a:K T=kT T)(h:en T t [iv k,iv v,sv w,d])(b:4*t.words<N):Yl K T N (iv k) (iv v) (sv w) d:=
 Y5 h (by rw[a];exact Y4 a 0 h) b
end
section
variable{t:Tm}{l:List Tm}
theorem Hx:t.fits=true↔D3 t/\e9 t.l=true:=by
 cases t with
 |mk k n s l=>simp only[Tm.fits,D3,Tm.k,Tm.l,aM,il,rC]
theorem Sq{i:Nat}{u:Tm}(h:e9 (l.take i)=true)(c:l[i]? =some u)(d:u.fits=true):e9 (l.take (i+1))=true:=by
 rw[vt,c];have key:∀a b:List Tm,e9 (a++b)=(e9 a&&e9 b):=by
  intro a b;induction a with
  |nil=>rfl
  |cons x a e=>simp only[kg,e9,e,Bool.and_assoc]
 rw[key,h];simp[e9,d]
theorem a0J{i:Nat}{u:Tm}(a:l[i]? =some u)(b:u.fits=false):e9 l=false:=by
 induction l generalizing i with
 |nil=>cases a
 |cons x l c=>
  cases i with
  |zero=>simp only[dj,aD]at a;subst a;simp[e9,b]
  |succ i=>simp[e9,c (i:=i) (by simpa using a)]
theorem Ns{i:Nat}{u:Tm}(c:l[i]? =some u):dF (l.take (i+1))=dF (l.take i)+u.words:=by
 rw[vt,c];have key:∀a b:List Tm,dF (a++b)=dF a+dF b:=by
  intro a b;induction a with
  |nil=>simp[dF]
  |cons x a d=>simp only[kg,dF,d];omega
 rw[key];simp[dF]
theorem a6U:t.size=1+sizes t.l:=by cases t;rfl
theorem a9L(h:t.wf):lT t.l:=by cases t;unfold Tm.wf at h;exact h.2
theorem Vu{k n:Int}{s:B}{m:List Tm}(h:(Tm.mk k n s m).wf):wf1 k n s m.length:=by unfold Tm.wf at h;exact h.1
theorem zb:dF []=0:=rfl
theorem ZW{k n:Int}{s:B}{m:List Tm}(h:(Tm.mk k n s m).wf)(hk:k≠5/\k≠7/\k≠9):m=[]:=by have:=Vu h;unfold wf1 at this;exact FN (by omega)
end
section
variable{S:B}{i n p:Int}{nm:B}{l:List Tm}{t:Tm}
theorem XZ:Nb S 0:=λi h=>by omega
theorem a6z(h:Nb S i.toNat)(b:0<=i)(I:i<S.length)(Y:bt S i≠32):Nb S (i+1).toNat:=λj a=>by
 rw[show(i+1).toNat=i.toNat+1 by omega]at a;rcases ed j i.toNat with W|W
 .exact h j W
 .obtain rfl:j=i.toNat:=by omega
  intro e;exact Y (Eh e)
theorem a6y(h:Nb S i.toNat)(a:0<=i)(I:i<S.length)(Y:bt S i=32):cut S [32]=(S.take i.toNat,S.drop (i+1).toNat,true):=by obtain⟨c,b,e⟩:=dU a I;have:c=32:=hD.1 (by rw[show(32:UInt8).toNat=32 from rfl];omega);subst this;rw[show(i+1).toNat=i.toNat+1 by omega];exact a7Y h b
theorem a6A(h:Nb S i.toNat)(I:S.length<=i):cut S [32]=(S,[],false):=a1c λj a=>h j (by omega)
theorem a9v(h:∀c∈S.take i.toNat,digit c=true)(a:0<=i)(I:i<S.length)(Y:48<=bt S i)(W:bt S i<=57):(∀c∈S.take (i+1).toNat,digit c=true)/\(val (S.take (i+1).toNat):Int)=10*val (S.take i.toNat)+(bt S i-48):=by
 obtain⟨c,b,e⟩:=dU a I;rw[show(i+1).toNat=i.toNat+1 by omega,sV b,AQ];refine⟨λx Z=>?_,by omega⟩;rcases kR.1 Z with Z|Z
 .exact h x Z
 .obtain rfl:=List.mem_singleton.1 Z;exact gf.2 (by omega)
theorem a9w(a:0<=i)(I:i<S.length)(h:bt S i<48\/57<bt S i):tQ S=none:=by
 obtain⟨c,b,e⟩:=dU a I;cases Z:tQ S with
 |none=>rfl
 |some n=>have:=gf.1 ((s9 Z).2.1 c (mV b));omega
theorem a6w:tQ []=none:=by
 cases Z:tQ []with
 |none=>rfl
 |some n=>exact absurd rfl (s9 Z).1
theorem Yf:∀(l:B),(∀c∈l,digit c=true)->l[0]? ≠some 48->l≠[]->10^(l.length-1)<=val l:=by
 intro l g d b
 match l,b with
 |c::r,_=>
  have f:=g c bB;have j:=Tq r f (λe=>d (by simp[e]));have key:∀(r:B)(a m:Nat),10^m<=a->10^(m+r.length)<=r.foldl (λa c=>a*10+(c.toNat-48)) a:=by
   intro r;induction r with
   |nil=>intro a m h;simpa using h
   |cons x r i=>intro a m h;have:=i (a*10+(x.toNat-48)) (m+1) (by rw[Nat.pow_succ];omega);rw[cD,show m+(r.length+1)=m+1+r.length by omega];exact this
  have I:1<=0*10+(c.toNat-48):=by
   have:=gf.1 f;have:c.toNat≠48:=λe=>d (by simp only[dj];rw[show c=48 from hD.1 e])
   omega
  have:=key r (0*10+(c.toNat-48)) 0 (by simpa using I);simpa[val]using this
theorem a6v(h:10<S.length):tQ S=none:=by
 cases Z:tQ S with
 |none=>rfl
 |some n=>obtain⟨I,Y,W,U,h5⟩:=s9 Z;have h6:=Yf S Y (W.resolve_left (by omega)) I;have h7:10^10<=10^(S.length-1):=Nat.pow_le_pow_right (by decide) (by omega);unfold bF at h5;omega
theorem a6u(h:1<S.length)(Y:bt S 0=48):tQ S=none:=by
 obtain⟨c,a,e⟩:=dU (S:=S) (p:=0) (Int.le_refl 0) (by omega);cases Z:tQ S with
 |none=>rfl
 |some n=>have:=(s9 Z).2.2.1.resolve_left (by omega);refine absurd ?_ this;have:c=48:=hD.1 (by rw[show(48:UInt8).toNat=48 from rfl];omega);rw[<-this];exact a
theorem a9u(I:S≠[])(Y:∀c∈S.take i.toNat,digit c=true)(W:S.length=1\/S[0]? ≠some 48)(V:S.length<=i)(a:n=val (S.take i.toNat))(U:n<=bF):tQ S=some n:=by rw[gp (by omega)]at Y a;subst a;exact a3h I Y W U
theorem a6t(Y:∀c∈S.take i.toNat,digit c=true)(V:S.length<=i)(a:n=val (S.take i.toNat))(U:bF<n):tQ S=none:=by
 rw[gp (by omega)]at Y a;cases Z:tQ S with
 |none=>rfl
 |some m=>obtain⟨-, -, -,g1,g2⟩:=s9 Z;omega
theorem a41:ef S 0:=λi h=>by omega
theorem Xt(h:ef S i.toNat)(b:0<=i)(I:i<S.length)(Y:bt S i≠32):ef S (i+1).toNat:=by rw[show(i+1).toNat=i.toNat+1 by omega];exact BH h λnm l a=>Y (Eh a.1)
theorem S6(h:ef S i.toNat)(c:0<=i)(a:∀nm l,rd (S.take i.toNat)=some (.mk 2 0 nm [])->rd (S.drop (i+1).toNat)=some (cz l uI)->False):ef S (i+1).toNat:=by rw[show(i+1).toNat=i.toNat+1 by omega]at a ⊢;exact BH h λnm l b=>a nm l b.2.1 b.2.2
theorem Xs(h:ef S i.toNat)(a:0<=i)(I:i<S.length)(Y:bt S i=32)(W:rd (S.take i.toNat)=some (.mk 2 0 nm []))(U:rd (S.drop (i+1).toNat)=some (cz l uI)):lO S nm l:=by obtain⟨c,b,e⟩:=dU a I;have:c=32:=hD.1 (by rw[show(32:UInt8).toNat=32 from rfl];omega);subst this;rw[show(i+1).toNat=i.toNat+1 by omega]at U;exact⟨i.toNat,h,b,W,U⟩
theorem Xu(h:ef S i.toNat)(V:S.length<=i):ef S S.length:=λj a=>h j (by omega)
end
end
end Go.Proofs.YtokipodjggomfaaGreatDoor.Txt
