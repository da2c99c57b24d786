/- Part 2 of the plain laws of the texts that the statement speaks of, and of the contracts of its functions. Conditions: those of each theorem. -/
import Derived.Test.YtokipodjggomfaaGreatDoorTxt1
noncomputable section
set_option linter.unusedVariables false
set_option linter.unusedSimpArgs false
namespace Go.Proofs.YtokipodjggomfaaGreatDoor.Abs
open Go
structure kt where
 f:Nat
 nt:Nat
structure bP where
 L:h2
 is_:kt
 sml:kt
 ltr:kt
 num:kt
 pln:kt
 plF:kt
 idf:kt
 cpl:kt
 quo:kt
 cqu:kt
 mkl:kt
 bck:kt
 nmb:kt
 all:kt
 lst:kt
 V2:kt
 trm:kt
 rd:kt
 itm:kt
 nmd:kt
 prs:kt
 sts:kt
 eat:kt
 win:kt
 a2v:kt
 dec:kt
 a5A:kt
 a5N:kt
 wrd:kt
 a5x:kt
 a7E:kt
 a79:kt
 mk2:kt
 ngd:kt
 amg:kt
 a5D:kt
 a7x:kt
 a7w:kt
 own:kt
 prt:kt
 wds:kt
 rdR:kt
 itR:kt
 cutR:kt
 noR:kt
 spn:kt
 a7H:kt
 tL:Nat
 tB:Nat
 tBu:Nat
 tT:Nat
 tD:Nat
 a7q:Nat
 tF:Nat
 tRd:Nat
structure PQ where
 all:PD
 allN:PD
 allo:PD
 alloN:PD
 amg:PD
 amgN:PD
 amgo:PD
 amgoN:PD
 cpl:PD
 cplN:PD
 WB:PD
 cutR:PD
 cutRN:PD
 dec:PD
 funN:PD
 V2:PD
 funo:PD
 funoN:PD
 hex:PD
 idf:PD
 idfN:PD
 is:PD
 isN:PD
 itm:PD
 itmN:PD
 itmo:PD
 itmoN:PD
 lst:PD
 lstN:PD
 lsto:PD
 lstoN:PD
 ltr:PD
 ltrN:PD
 mk2:PD
 mkl:PD
 mklo:PD
 ngd:PD
 ngdN:PD
 nmb:PD
 nmbN:PD
 nmd:PD
 nmdN:PD
 noR:PD
 noRN:PD
 num:PD
 numN:PD
 own:PD
 ownN:PD
 pln:PD
 plnN:PD
 prsB:PD
 prsL:PD
 prsM:PD
 prsN:PD
 prsS:PD
 prsT:PD
 prt:PD
 prtN:PD
 prto:PD
 prtoN:PD
 qq:PD
 qqN:PD
 a2A:PD
 quo:PD
 rd:PD
 rdN:PD
 rfn:PD
 rfnN:PD
 rls:PD
 rlsN:PD
 rlso:PD
 rlsoN:PD
 rtm:PD
 rtmN:PD
 sml:PD
 smlN:PD
 trm:PD
 trmN:PD
 wds:PD
 wdso:PD
 win:PD
 winN:PD
 wrd:PD
 wrdN:PD
def nv(n:Nat):AV:=.bS (.int .i64) (.var n)
def nM(n:Nat):AV:=.bS .str (.var n)
def vs(l:List Nat):List SE:=l.map .var
def rl(nm:String)(p:PD)(l:List Nat):Fact:=.rel nm false p (vs l)
def eM(u:h2):List (Nat×CB):=[V0 u.IJ u.yn,Kv u.zo u.DN,Kv u.zo u.DO,VZ u.Q8 u.HB]
def cur(u:bP)(b:Nat)(s p:Nat):Nat×CB:=(b,.cells u.a7q [nM s,nv p] 0 false false)
def xI(u:bP)(b:Nat)(s p:Nat)(bad:Bool):Nat×CB:=(b,.cells u.tRd [nM s,nv p,.bool bad] 0 false false)
def VE(s:Nat):SE:=.a2 (.bin .add) (.a1 .len (.var s)) (.int .i64 (.ofNat 1))
def short(s:Nat):Fact:=.tr (.a2 (.bin .leq) (.a1 .len (.var s)) (.int .i64 (.ofNat 4200)))
def place(s p:Nat):Fact:=.inr (.var p) (VE s)
def UY(s p:Nat):Fact:=.inr (.var p) (.a2 (.bin .add) (.a1 .len (.var s)) (.int .i64 (.ofNat 2)))
def Av(a:Nat):SE:=.a2 (.bin .sub) (.var a) (.int .i64 (.ofNat 1))
def Ha(a b:Nat):Fact:=.tr (.a2 (.bin .leq) (.var a) (.var b))
def most(a n:Nat):Fact:=.tr (.a2 (.bin .leq) (.a1 .len (.var a)) (.int .i64 (.ofNat n)))
def fault(u:bP):AV:=.iface u.tF (.agg [])
def W8(n:Nat):AV:=.agg [.int .i64 2,.int .i64 0,nM n,.dh]
def qs(u:bP)(n:Nat):AV:=.agg [nv n,nv (n+1),nM (n+2),.bS (.sl u.tT) (.var (n+3))]
def a4L:AV:=.agg [.int .i64 0,.int .i64 0,.str [],.dh]
def NH:AV:=.agg [.int .i64 0,.int .i64 0,.str [],.int .i64 0,.int .i64 0,.str [],.dh,.dh]
def xy(u:bP)(b:Nat):Nat×CB:=(b,.cells u.tT [.int .i64 0,.int .i64 0,.str [],.dh] 0 false false)
def KP(u:bP)(b n:Nat):Nat×CB:=(b,.cells u.tT [nv n,nv (n+1),nM (n+2),.bS (.sl u.tT) (.var (n+3))] 0 false false)
def a1D(u:bP)(b:Nat):Nat×CB:=(b,.cells u.tD [.int .i64 0,.int .i64 0,.str [],.int .i64 0,.int .i64 0,.str [],.dh,.dh] 0 false false)
def entry(P:Program)(f:kt)(t:List (Nat×AV))(n:Nat)(pre:List (Nat×CB))(facts:List Fact)(outs:List de):bp:={ fn:=f.f,nt:=f.nt,round:=none,t,todo:=yr P f.f,n,pre,facts,outs }
def fm(P:Program)(f:kt)(i:Nat)(t:List (Nat×AV))(n:Nat)(pre:List (Nat×CB))(facts:List Fact)(outs:List de):bp:={ fn:=f.f,nt:=f.nt,round:=none,t,todo:=wR P f.f i,n,pre,facts,outs }
def sR(nm:String)(l:List Nat)(a pN:PD):List de:=[{ res:=.bool true,post:=[],facts:=[rl nm a l],m:=0 },{ res:=.bool false,post:=[],facts:=[rl (nm++ "N") pN l],m:=0 }]
def a6B(P:Program)(u:bP)(q:PQ):bp:=
 let g:=u.L.nG
 entry P u.is_ [(0,.ptr g 0),(1,nM (g+1))] (g+4) [cur u g (g+2) (g+3)] [short (g+2),place (g+2) (g+3)]
  [{ res:=.bool true,post:=[cur u g (g+2) (g+4)],facts:=[rl "is" q.is [g+2,g+3,g+1,g+4],place (g+2) (g+4)],m:=1 },
   { res:=.bool false,post:=[cur u g (g+2) (g+3)],facts:=[rl "isN" q.isN [g+2,g+3,g+1]],m:=0 }]
def a3L(P:Program)(u:bP)(q:PQ):bp:=entry P u.sml [(0,.bS (.int .u8) (.var u.L.nG))] (u.L.nG+1) [] [] (sR "sml" [u.L.nG] q.sml q.smlN)
def a3X(P:Program)(u:bP)(q:PQ):bp:=entry P u.ltr [(0,.bS (.int .u8) (.var u.L.nG))] (u.L.nG+1) [] [] (sR "ltr" [u.L.nG] q.ltr q.ltrN)
def O9(u:bP)(q:PQ)(g n s p lo V:Nat):List de:=
 [{ res:=nv n,post:=[cur u g s (n+1)],facts:=[rl "num" q.num [s,p,lo,V,n+1,n],place s (n+1)],m:=2 },
  { res:=fault u,post:=[],facts:=[rl "numN" q.numN [s,p,lo,V]],m:=0,eH:=true }]
def a3R(P:Program)(u:bP)(q:PQ):bp:=
 let g:=u.L.nG
 entry P u.num [(0,.ptr g 0),(1,nv (g+1)),(2,nv (g+2))] (g+5) (cur u g (g+3) (g+4)::eM u.L) [short (g+3),place (g+3) (g+4)] (O9 u q g (g+5) (g+3) (g+4) (g+1) (g+2))
def Qu(P:Program)(u:bP)(q:PQ)(x:PD):bp:=
 let g:=u.L.nG
 fm P u.num 0 [(0,.ptr g 0),(1,nv (g+1)),(2,nv (g+2)),(7,nv (g+5))] (g+6) (cur u g (g+3) (g+4)::eM u.L)
  [short (g+3),place (g+3) (g+4),place (g+3) (g+5),Ha (g+5) (g+4),rl "numL" x [g+3,g+5,g+4]] (O9 u q g (g+6) (g+3) (g+5) (g+1) (g+2))
def a3P(P:Program)(u:bP)(q:PQ):bp:=entry P u.pln [(0,nM u.L.nG)] (u.L.nG+1) (eM u.L) [short u.L.nG] (sR "pln" [u.L.nG] q.pln q.plnN)
def Qz(P:Program)(u:bP)(q:PQ)(x:PD):bp:=
 let g:=u.L.nG
 fm P u.idf 0 [(0,.gR g (.var (g+2)) (.var (g+3))),(1,.fn (.func u.plF.f) [] []),(6,.gR g (.var (g+2)) (.var (g+3))),(7,nv (g+2)),(8,nv (g+4))] (g+5)
  [(g,.vec u.tB (.var (g+1)))] [rl "idfL" x [g+1,g+2,g+4]]
  [{ res:=.int .i64 (.negSucc 0),post:=[],facts:=[rl "idf" q.idf [g+1]],m:=0 },
    { res:=nv (g+5),post:=[],facts:=[rl "idfN" q.idfN [g+1],.tr (.a2 (.bin .geq) (.var (g+5)) (.int .i64 (.ofNat 0)))],m:=1 }]
def AU(u:bP)(g n:Nat)(nm:String)(s:Nat)(p:SE)(a pN:PD):List de:=
 [{ res:=W8 n,post:=[cur u g s (n+1)],facts:=[.rel nm false a [.var s,p,.var (n+1),.var n],place s (n+1)],m:=2 },
  { res:=fault u,post:=[],facts:=[.rel (nm++ "N") false pN [.var s,p]],m:=0,eH:=true }]
def a34(P:Program)(u:bP)(q:PQ):bp:=
 let g:=u.L.nG
 entry P u.cpl [(0,.ptr g 0)] (g+3) (cur u g (g+1) (g+2)::eM u.L) [short (g+1),place (g+1) (g+2)] (AU u g (g+3) "cpl" (g+1) (.var (g+2)) q.cpl q.cplN)
def QE(P:Program)(u:bP)(q:PQ)(x:PD):bp:=
 let g:=u.L.nG
 fm P u.cpl 0 [(0,.ptr g 0),(2,.ptr (g+1) 0),(3,nv (g+4))] (g+5) (cur u g (g+2) (g+3)::xy u (g+1)::eM u.L)
  [short (g+2),place (g+2) (g+3),place (g+2) (g+4),Ha (g+4) (g+3),rl "cplL" x [g+2,g+4,g+3]] (AU u g (g+5) "cpl" (g+2) (.var (g+4)) q.cpl q.cplN)
def Gl(q:PQ)(n s:Nat):List de:=[{ res:=nM n,post:=[],facts:=[rl "quo" q.quo [s,n]],m:=1 }]
def a3O(P:Program)(u:bP)(q:PQ):bp:=entry P u.quo [(0,nM u.L.nG)] (u.L.nG+1) [] [short u.L.nG] (Gl q (u.L.nG+1) u.L.nG)
def Qr(P:Program)(u:bP)(q:PQ)(x:PD):bp:=
 let g:=u.L.nG
 fm P u.quo 0 [(3,.ptr g 0),(7,nM (g+3)),(8,.gR (g+1) (.var (g+4)) (.var (g+5))),(9,nv (g+4)),(10,nv (g+6))] (g+10)
  [(g,.cells u.tBu [.ptr g 0,.gR (g+2) (.var (g+7)) (.var (g+8))] 0 false false),(g+1,.vec u.tB (.a1 .sb (.var (g+3)))),(g+2,.vec u.tB (.var (g+9)))]
  [rl "quoL" x [g+3,g+4,g+6,g+9,g+7]] (Gl q (g+10) (g+3))
def a33(P:Program)(u:bP)(q:PQ):bp:=
 let g:=u.L.nG
 entry P u.cqu [(0,.ptr g 0)] (g+3) (cur u g (g+1) (g+2)::eM u.L)
  [short (g+1),place (g+1) (g+2),.inr (Av (g+2)) (VE (g+1)),.tr (.a2 (.bin .leq) (Av (g+2)) (.var (g+2)))] (AU u g (g+3) "qq" (g+1) (Av (g+2)) q.qq q.qqN)
def QC(P:Program)(u:bP)(q:PQ)(x:PD):bp:=
 let g:=u.L.nG
 fm P u.cqu 0 [(0,.ptr g 0),(2,.ptr (g+1) 0),(3,nv (g+5)),(4,.gR (g+2) (.var (g+6)) (.var (g+7)))] (g+9) (cur u g (g+3) (g+4)::xy u (g+1)::(g+2,.vec u.tB (.var (g+8)))::eM u.L)
  [short (g+3),place (g+3) (g+4),place (g+3) (g+5),Ha (g+5) (g+4),rl "cquL" x [g+3,g+5,g+4,g+8,g+6]] (AU u g (g+9) "qq" (g+3) (.var (g+5)) q.qq q.qqN)
def a3W(P:Program)(u:bP)(q:PQ)(x:PD):bp:=
 let g:=u.L.nG
 entry P u.mkl [(0,.gR g (.var (g+1)) (.var (g+2))),(1,qs u (g+4))] (g+8) [(g,.vec u.tT (.var (g+3)))] [rl "mklM" x [g+1,g+3,g+4,g+5,g+6,g+7]]
  [{ res:=qs u (g+8),post:=[],facts:=[rl "mkl" q.mkl [g+1,g+3,g+4,g+5,g+6,g+7,g+8,g+9,g+10,g+11]],m:=4 }]
def a5Y(P:Program)(u:bP)(g n:Nat):List (Nat×CB):=
 [(g,.loop .ready none u.mkl.f u.mkl.nt [(4,.ptr (g+1) 0),(3,.ptr (g+4) 0)] [9,10] (j5 P u.mkl.f 0).1 (j5 P u.mkl.f 0).2 (g+12)),(g+12,.eC []),xy u (g+1),KP u (g+4) n]
def Qx(P:Program)(u:bP)(q:PQ)(x:PD):bp:=
 let g:=u.L.nG
 fm P u.bck 0 [(0,.yield g),(1,.ptr (g+2) 0),(3,nv (g+5))] (g+17)
  ((g+2,.cells u.tL [.gR (g+3) (.var (g+6)) (.var (g+7))] 0 false false)::(g+3,.vec u.tT (.var (g+8)))::a5Y P u g (g+13))
  [rl "mklL" x [g+6,g+8,g+5,g+13,g+14,g+15,g+16]]
  [{ res:=.jy [],post:=a5Y P u g (g+17),facts:=[rl "mklo" q.mklo [g+8,g+5,g+13,g+14,g+15,g+16,g+17,g+18,g+19,g+20]],m:=4 }]
def a3U(P:Program)(u:bP)(q:PQ):bp:=
 let g:=u.L.nG
 entry P u.nmb [(0,.ptr g 0),(1,nv (g+1)),(2,nM (g+2))] (g+5) (cur u g (g+3) (g+4)::eM u.L) [short (g+3),place (g+3) (g+4)]
  [{ res:=.agg [nv (g+1),nv (g+5),.str [],.dh],post:=[cur u g (g+3) (g+6)],facts:=[rl "nmb" q.nmb [g+3,g+4,g+2,g+6,g+5],place (g+3) (g+6)],m:=2 },
   { res:=fault u,post:=[],facts:=[rl "nmbN" q.nmbN [g+3,g+4,g+2]],m:=0,eH:=true }]
def QR(u:bP)(g n s p:Nat)(a:List Nat)(nm:String)(b pN:PD):List de:=
 [{ res:=.bS (.sl u.tT) (.var n),post:=[cur u g s (n+1)],facts:=[rl nm b ([s,p]++a++[n+1,n]),place s (n+1)],m:=2 },
  { res:=fault u,post:=[],facts:=[rl (nm++ "N") pN ([s,p]++a)],m:=0,eH:=true }]
def vJ(u:bP)(g n s p:Nat)(a:List Nat)(nm:String)(b pN:PD):List de:=
 [{ res:=qs u n,post:=[cur u g s (n+4)],facts:=[rl nm b ([s,p]++a++[n+4,n,n+1,n+2,n+3]),place s (n+4)],m:=5 },
  { res:=fault u,post:=[],facts:=[rl (nm++ "N") pN ([s,p]++a)],m:=0,eH:=true }]
def CP(P:Program)(u:bP)(f:kt)(t:List (Nat×AV))(m:PD)(outs:Nat->List de):bp:=
 let g:=u.L.nG
 entry P f ((0,.ptr g 0)::t) (g+3) (cur u g (g+1) (g+2)::eM u.L) [short (g+1),place (g+1) (g+2),rl "ms" m [g+1,g+2]] (outs g)
def a35(P:Program)(u:bP)(q:PQ)(m:PD):bp:=CP P u u.all [(1,.str [125])] m λg=>QR u g (g+3) (g+1) (g+2) [] "all" q.all q.allN
def QG(P:Program)(u:bP)(q:PQ)(x:PD):bp:=
 let g:=u.L.nG
 fm P u.all 0 [(0,.ptr g 0),(1,.str [125]),(5,.gR (g+1) (.var (g+4)) (.var (g+5)))] (g+7) (cur u g (g+2) (g+3)::(g+1,.vec u.tT (.var (g+6)))::eM u.L)
  [short (g+2),place (g+2) (g+3),rl "seqL" x [g+2,g+3,g+4,g+6]] (QR u g (g+7) (g+2) (g+3) [g+4,g+6] "allo" q.allo q.alloN)
def a3Y(P:Program)(u:bP)(q:PQ)(m:PD):bp:=CP P u u.lst [] m λg=>vJ u g (g+3) (g+1) (g+2) [] "lst" q.lst q.lstN
def Qy(P:Program)(u:bP)(q:PQ)(x:PD):bp:=
 let g:=u.L.nG
 fm P u.lst 0 [(0,.ptr g 0),(2,.ptr (g+1) 0),(3,.ptr (g+2) 0),(4,.gR (g+3) (.var (g+6)) (.var (g+7)))] (g+9)
  (cur u g (g+4) (g+5)::xy u (g+1)::(g+2,.cells u.tT [.int .i64 8,.int .i64 0,.str [],.dh] 0 false false)::(g+3,.vec u.tT (.var (g+8)))::eM u.L)
  [short (g+4),place (g+4) (g+5),rl "seqL" x [g+4,g+5,g+6,g+8]] (vJ u g (g+9) (g+4) (g+5) [g+6,g+8] "lsto" q.lsto q.lstoN)
def a30(P:Program)(u:bP)(q:PQ)(m:PD):bp:=CP P u u.V2 [] m λg=>vJ u g (g+3) (g+1) (g+2) [] "fun" q.V2 q.funN
def QA(P:Program)(u:bP)(q:PQ)(x:PD):bp:=
 let g:=u.L.nG
 fm P u.V2 0 [(0,.ptr g 0),(2,.ptr (g+1) 0),(3,.ptr (g+2) 0)] (g+10)
  (cur u g (g+4) (g+5)::xy u (g+1)::(g+2,.cells u.tT [.int .i64 5,nv (g+9),.str [],.gR (g+3) (.var (g+6)) (.var (g+7))] 0 false false)::(g+3,.vec u.tT (.var (g+8)))::eM u.L)
  [short (g+4),place (g+4) (g+5),rl "seqL" x [g+4,g+5,g+6,g+8]] (vJ u g (g+10) (g+4) (g+5) [g+9,g+6,g+8] "funo" q.funo q.funoN)
def WD(P:Program)(u:bP)(q:PQ)(m:PD):bp:=CP P u u.trm [] m λg=>vJ u g (g+3) (g+1) (g+2) [] "trm" q.trm q.trmN
def UK(u:bP)(q:PQ):List de:=
 let g:=u.L.nG
 [{ res:=.jy [qs u (g+1),.int .i64 0],post:=[],facts:=[rl "rd" q.rd [g,g+1,g+2,g+3,g+4]],m:=4 },
  { res:=.jy [a4L,.int .i64 4],post:=[],facts:=[rl "rdN" q.rdN [g]],m:=0 }]
def a6A(P:Program)(u:bP)(q:PQ):bp:=entry P u.rd [(0,nM u.L.nG)] (u.L.nG+1) (eM u.L) [short u.L.nG] (UK u q)
def Pw(u:bP)(q:PQ)(n:Nat)(a:List Nat)(nm:String)(b pN:PD):List de:=
 [{ res:=.jy [.bS (.sl u.tT) (.var n),.bool true],post:=[],facts:=[rl nm b (a++[n])],m:=1 },
  { res:=.jy [.bS (.sl u.tT) (.var n),.bool false],post:=[],facts:=[rl (nm++ "N") pN a],m:=1 }]
def WK(P:Program)(u:bP)(f:kt)(q:PQ)(x:PD):bp:=
 let g:=u.L.nG
 entry P f [(0,qs u g)] (g+4) [] [rl "rep" x [g,g+1,g+2,g+3]] (Pw u q (g+4) [g,g+1,g+2,g+3] "itm" q.itm q.itmN)
def HZ(P:Program)(u:bP)(f:kt)(q:PQ)(x:PD):bp:=
 let g:=u.L.nG
 fm P f 0 [(1,.ptr g 0),(2,.dh),(3,.bool false),(4,.gR (g+1) (.var (g+6)) (.var (g+7)))] (g+9) [KP u g (g+2),(g+1,.vec u.tT (.var (g+8)))]
  [rl "itmL" x [g+2,g+3,g+4,g+5,g+6,g+8]] (Pw u q (g+9) [g+2,g+3,g+4,g+5,g+6,g+8] "itmo" q.itmo q.itmoN)
def Ar(u:bP)(q:PQ)(n s:Nat):List de:=
 [{ res:=.jy [.agg [.int .i64 1,.int .i64 0,nM n,.int .i64 0,.int .i64 0,.str [],.dh,.bS (.sl u.tT) (.var (n+1))],.bool true],post:=[],facts:=[rl "nmd" q.nmd [s,n,n+1]],m:=2 },
  { res:=.jy [NH,.bool false],post:=[],facts:=[rl "nmdN" q.nmdN [s]],m:=0 }]
def a3T(P:Program)(u:bP)(q:PQ):bp:=entry P u.nmd [(0,nM u.L.nG)] (u.L.nG+1) (eM u.L) [short u.L.nG] (Ar u q (u.L.nG+1) u.L.nG)
def Qw(P:Program)(u:bP)(q:PQ)(x:PD):bp:=
 let g:=u.L.nG
 fm P u.nmd 0 [(0,nM (g+1)),(2,.ptr g 0),(3,.bool false),(11,nM (g+1)),(12,.bS (.int .i64) (.a1 .len (.var (g+1)))),(13,nv (g+2))] (g+3) (a1D u g::eM u.L)
  [short (g+1),place (g+1) (g+2),rl "nmdL" x [g+1,g+2]] (Ar u q (g+3) (g+1))
def a3K(P:Program)(u:bP)(q:PQ):bp:=entry P u.spn [(0,nM u.L.nG)] (u.L.nG+1) [] [short u.L.nG] (Ar u q (u.L.nG+1) u.L.nG)
def Qn(P:Program)(u:bP)(q:PQ)(x:PD):bp:=
 let g:=u.L.nG
 fm P u.spn 0 [(0,nM (g+1)),(2,.ptr g 0),(3,.bool false),(4,nv (g+2))] (g+3) [a1D u g] [short (g+1),place (g+1) (g+2),rl "nmdL" x [g+1,g+2]] (Ar u q (g+3) (g+1))
def OP(u:bP)(q:PQ):List de:=
 let s:=u.L.nG
 let n:=u.L.nG+1
 [{ res:=.jy [NH,.int .i64 3],post:=[],facts:=[rl "prsL" q.prsL [s]],m:=0 },{ res:=.jy [NH,.int .i64 6],post:=[],facts:=[rl "prsM" q.prsM [s]],m:=0 },{ res:=.jy [NH,.int .i64 4],post:=[],facts:=[rl "prsB" q.prsB [s]],m:=0 },
  { res:=.jy [.agg [.int .i64 1,.int .i64 0,nM n,.int .i64 0,.int .i64 0,.str [],.dh,.bS (.sl u.tT) (.var (n+1))],.int .i64 0],post:=[],facts:=[rl "prsS" q.prsS [s,n,n+1]],m:=2 },
  { res:=.jy [.agg [nv n,nv (n+1),.str [],.int .i64 0,.int .i64 0,.str [],.dh,.dh],.int .i64 0],post:=[],facts:=[rl "prsN" q.prsN [s,n,n+1]],m:=2 },
  { res:=.jy [.agg [nv n,nv (n+1),.str [],nv (n+2),nv (n+3),nM (n+4),.bS (.sl u.tT) (.var (n+5)),.dh],.int .i64 0],post:=[],facts:=[rl "prsT" q.prsT [s,n,n+1,n+2,n+3,n+4,n+5]],m:=6 }]
def WG(P:Program)(u:bP)(q:PQ):bp:=entry P u.prs [(0,nM u.L.nG)] (u.L.nG+1) (eM u.L) [short u.L.nG] (OP u q)
def Qt(P:Program)(u:bP)(q:PQ):bp:=entry P u.a7H [(0,nM u.L.nG)] (u.L.nG+1) [] [short u.L.nG] (OP u q)
def a3J(P:Program)(u:bP)(q:PQ):bp:=
 let g:=u.L.nG
 entry P u.sts [(0,.ptr g 0),(1,nM (g+1))] (g+4) [xI u g (g+2) (g+3) false] [short (g+2),place (g+2) (g+3)]
  [{ res:=.bool true,post:=[xI u g (g+2) (g+3) false],facts:=[.rel "is" false q.is [.var (g+2),.var (g+3),.var (g+1),.a2 (.bin .add) (.var (g+3)) (.a1 .len (.var (g+1)))]],m:=0 },
   { res:=.bool false,post:=[xI u g (g+2) (g+3) false],facts:=[rl "isN" q.isN [g+2,g+3,g+1]],m:=0 }]
def a32(P:Program)(u:bP)(q:PQ):bp:=
 let g:=u.L.nG
 entry P u.eat [(0,.ptr g 0),(1,nM (g+1))] (g+4) [xI u g (g+2) (g+3) false] [short (g+2),place (g+2) (g+3)]
  [{ res:=.jy [],post:=[xI u g (g+2) (g+4) false],facts:=[rl "is" q.is [g+2,g+3,g+1,g+4],place (g+2) (g+4)],m:=1 },
   { res:=.jy [],post:=[xI u g (g+2) (g+4) true],facts:=[rl "isN" q.isN [g+2,g+3,g+1]],m:=1 }]
def a3I(P:Program)(u:bP)(q:PQ):bp:=
 let g:=u.L.nG
 entry P u.win [(0,.bS (.int .u8) (.var g)),(1,.bS (.int .u8) (.var (g+1))),(2,.bS (.int .u8) (.var (g+2)))] (g+3) [] [] (sR "win" [g,g+1,g+2] q.win q.winN)
def Bv(u:bP)(q:PQ)(g n s p lo V:Nat):List de:=
 [{ res:=nv n,post:=[xI u g s (n+1) false],facts:=[rl "num" q.num [s,p,lo,V,n+1,n],place s (n+1)],m:=2 },
  { res:=.int .i64 0,post:=[xI u g s n true],facts:=[rl "numN" q.numN [s,p,lo,V]],m:=1 }]
def a0a(P:Program)(u:bP)(q:PQ)(x:PD):bp:=
 let g:=u.L.nG
 entry P u.a2v [(0,.ptr g 0),(1,nv (g+1)),(2,nv (g+2))] (g+5) [xI u g (g+3) (g+4) false] [short (g+3),place (g+3) (g+4),rl "rng" x [g+1,g+2]] (Bv u q g (g+5) (g+3) (g+4) (g+1) (g+2))
def KJ(P:Program)(u:bP)(q:PQ)(x:PD):bp:=
 let g:=u.L.nG
 fm P u.a2v 0 [(0,.ptr g 0),(1,nv (g+1)),(2,nv (g+2)),(6,.int .i64 0),(7,nv (g+5))] (g+6) [xI u g (g+3) (g+4) false]
  [short (g+3),place (g+3) (g+4),place (g+3) (g+5),Ha (g+5) (g+4),rl "rnA" x [g+3,g+5,g+4,g+1,g+2]] (Bv u q g (g+6) (g+3) (g+5) (g+1) (g+2))
def C1(P:Program)(u:bP)(q:PQ)(less:Bool)(x:PD):bp:=
 let g:=u.L.nG
 fm P u.a2v 1 [(0,.ptr g 0),(1,nv (g+1)),(2,nv (g+2)),(6,.int .i64 0),(7,nv (g+5)),(8,.bool less),(9,nv (g+6)),(10,nv (g+7))] (g+8) [xI u g (g+3) (g+4) false]
  [short (g+3),place (g+3) (g+4),place (g+3) (g+5),place (g+3) (g+7),Ha (g+5) (g+4),Ha (g+7) (g+4),rl (match less with|true=> "rnBT" |false=> "rnBF") x [g+3,g+5,g+4,g+7,g+6,g+1,g+2]] (Bv u q g (g+8) (g+3) (g+5) (g+1) (g+2))
def WM(P:Program)(u:bP)(q:PQ)(x:PD):bp:=
 let g:=u.L.nG
 entry P u.dec [(0,nv g)] (g+1) [] [rl "decM" x [g]] [{ res:=nM (g+1),post:=[],facts:=[rl "dec" q.dec [g,g+1],most (g+1) 40],m:=1 }]
def v8(u:bP)(g n:Nat)(nm:String)(s p:Nat)(a pN:PD):List de:=
 [{ res:=W8 n,post:=[xI u g s (n+1) false],facts:=[rl nm a [s,p,n+1,n],place s (n+1)],m:=2 },
  { res:=W8 n,post:=[xI u g s (n+1) true],facts:=[rl (nm++ "N") pN [s,p,n]],m:=2 }]
def Z9(P:Program)(u:bP)(q:PQ):bp:=
 let g:=u.L.nG
 entry P u.a5A [(0,.ptr g 0)] (g+3) [xI u g (g+1) (g+2) false] [short (g+1),place (g+1) (g+2)] (v8 u g (g+3) "cpl" (g+1) (g+2) q.cpl q.WB)
def KI(P:Program)(u:bP)(q:PQ)(x:PD):bp:=
 let g:=u.L.nG
 fm P u.a5A 0 [(0,.ptr g 0),(2,.ptr (g+1) 0),(3,nv (g+4))] (g+5) [xI u g (g+2) (g+3) false,xy u (g+1)]
  [short (g+2),place (g+2) (g+3),place (g+2) (g+4),Ha (g+4) (g+3),rl "cplL" x [g+2,g+4,g+3]] (v8 u g (g+5) "cpl" (g+2) (g+4) q.cpl q.WB)
def a0d(P:Program)(u:bP)(q:PQ):bp:=entry P u.a5N [(0,nM u.L.nG)] (u.L.nG+1) [] [short u.L.nG] (sR "pln" [u.L.nG] q.pln q.plnN)
def KL(P:Program)(u:bP)(q:PQ)(x:PD):bp:=
 let g:=u.L.nG
 fm P u.a5N 0 [(0,nM g),(2,.bool false),(3,nv (g+1))] (g+2) [] [short g,place g (g+1),rl "plnL" x [g,g+1]] (sR "pln" [g] q.pln q.plnN)
def a3H(P:Program)(u:bP)(q:PQ):bp:=entry P u.wrd [(0,nM u.L.nG)] (u.L.nG+1) [] [] (sR "wrd" [u.L.nG] q.wrd q.wrdN)
def a4x(s p c:Nat):Fact:=.tr (.a2 (.bin .eql) (.a2 .idx (.var s) (.var p)) (.int .u8 (.ofNat c)))
def Z8(P:Program)(u:bP)(q:PQ):bp:=
 let g:=u.L.nG
 entry P u.a5x [(0,.ptr g 0)] (g+3) [xI u g (g+1) (g+2) false] [short (g+1),place (g+1) (g+2),a4x (g+1) (g+2) 39] (v8 u g (g+3) "qq" (g+1) (g+2) q.qq q.a2A)
def KH(P:Program)(u:bP)(q:PQ)(x:PD):bp:=
 let g:=u.L.nG
 fm P u.a5x 0 [(0,.ptr g 0),(2,.ptr (g+1) 0),(3,nv (g+5)),(4,.gR (g+2) (.var (g+6)) (.var (g+7)))] (g+9) [xI u g (g+3) (g+4) false,xy u (g+1),(g+2,.vec u.tB (.var (g+8)))]
  [short (g+3),UY (g+3) (g+4),place (g+3) (g+5),Ha (g+5) (g+4),rl "rquL" x [g+3,g+5,g+4,g+8,g+6]] (v8 u g (g+9) "qq" (g+3) (g+5) q.qq q.a2A)
def Qq(P:Program)(u:bP)(q:PQ)(x:PD):bp:=
 let g:=u.L.nG
 fm P u.a7E 0 [(0,nM g),(2,.str []),(3,nM (g+1)),(4,nv (g+2))] (g+3) [] [short g,place g (g+2),most (g+1) 20000,rl "quRL" x [g,g+1,g+2]] (Gl q (g+3) g)
def a3Z(P:Program)(u:bP)(q:PQ):bp:=
 let g:=u.L.nG
 entry P u.a79 [(0,.bS (.int .u8) (.var g))] (g+1) [] [] [{ res:=nv (g+1),post:=[],facts:=[rl "hex" q.hex [g,g+1]],m:=1 }]
def WJ(P:Program)(u:bP)(q:PQ)(x:PD):bp:=
 let g:=u.L.nG
 fm P u.mk2 0 [(0,.bS (.sl u.tT) (.var (g+2))),(4,.ptr g 0),(5,.ptr (g+1) 0),(6,nv (g+3))] (g+8) [xy u g,KP u (g+1) (g+4)]
  [.tr (.a2 (.bin .lss) (.var (g+3)) (.a1 .len (.var (g+2)))),rl "mk2L" x [g+2,g+3,g+4,g+5,g+6,g+7]]
  [{ res:=qs u (g+8),post:=[],facts:=[rl "mk2" q.mk2 [g+2,g+3,g+4,g+5,g+6,g+7,g+8,g+9,g+10,g+11]],m:=4 }]
def a3V(P:Program)(u:bP)(q:PQ):bp:=
 let g:=u.L.nG
 entry P u.ngd [(0,.ptr g 0),(1,nv (g+1)),(2,nM (g+2)),(3,nM (g+3))] (g+6) [xI u g (g+4) (g+5) false] [short (g+4),place (g+4) (g+5)]
  [{ res:=.agg [nv (g+1),nv (g+6),.str [],.dh],post:=[xI u g (g+4) (g+7) false],facts:=[rl "ngd" q.ngd [g+4,g+5,g+2,g+3,g+7,g+6],place (g+4) (g+7)],m:=2 },
   { res:=.agg [nv (g+1),nv (g+6),.str [],.dh],post:=[xI u g (g+4) (g+7) true],facts:=[rl "ngdN" q.ngdN [g+4,g+5,g+2,g+3,g+6]],m:=2 }]
def QQ(u:bP)(g n s p:Nat)(a:List Nat)(nm:String)(b pN:PD):List de:=
 [{ res:=.bS (.sl u.tT) (.var n),post:=[xI u g s (n+1) false],facts:=[rl nm b ([s,p]++a++[n+1,n]),place s (n+1)],m:=2 },
  { res:=.dh,post:=[xI u g s n true],facts:=[rl (nm++ "N") pN ([s,p]++a)],m:=1 }]
def vW(u:bP)(g n s p:Nat)(a:List Nat)(nm:String)(b pN:PD):List de:=
 [{ res:=qs u n,post:=[xI u g s (n+4) false],facts:=[rl nm b ([s,p]++a++[n+4,n,n+1,n+2,n+3]),place s (n+4)],m:=5 },
  { res:=qs u n,post:=[xI u g s (n+4) true],facts:=[rl (nm++ "N") pN ([s,p]++a++[n,n+1,n+2,n+3])],m:=5 }]
def HP(P:Program)(u:bP)(f:kt)(m:PD)(a:List Fact)(outs:Nat->List de):bp:=
 let g:=u.L.nG
 entry P f [(0,.ptr g 0)] (g+3) [xI u g (g+1) (g+2) false] ([short (g+1),place (g+1) (g+2),rl "ms" m [g+1,g+2]]++a) (outs g)
def WQ(P:Program)(u:bP)(q:PQ)(m:PD):bp:=
 let g:=u.L.nG
 entry P u.amg [(0,.ptr g 0),(1,nM (g+3))] (g+4) [xI u g (g+1) (g+2) false] [short (g+1),place (g+1) (g+2),rl "msE" m [g+1,g+2,g+3]] (QQ u g (g+4) (g+1) (g+2) [g+3] "amg" q.amg q.amgN)
def QF(P:Program)(u:bP)(q:PQ)(x:PD):bp:=
 let g:=u.L.nG
 fm P u.amg 0 [(0,.ptr g 0),(1,nM (g+7)),(5,.gR (g+1) (.var (g+4)) (.var (g+5)))] (g+8) [xI u g (g+2) (g+3) false,(g+1,.vec u.tT (.var (g+6)))]
  [short (g+2),place (g+2) (g+3),rl "amgL" x [g+2,g+3,g+7,g+4,g+6]] (QQ u g (g+8) (g+2) (g+3) [g+7,g+4,g+6] "amgo" q.amgo q.amgoN)
def a0b(P:Program)(u:bP)(q:PQ)(m:PD):bp:=HP P u u.a5D m [] λg=>vW u g (g+3) (g+1) (g+2) [] "rls" q.rls q.rlsN
def KK(P:Program)(u:bP)(q:PQ)(x:PD):bp:=
 let g:=u.L.nG
 fm P u.a5D 0 [(0,.ptr g 0),(2,.ptr (g+1) 0),(3,.gR (g+3) (.var (g+6)) (.var (g+7))),(4,.ptr (g+2) 0)] (g+9)
  [xI u g (g+4) (g+5) false,xy u (g+1),(g+2,.cells u.tT [.int .i64 8,.int .i64 0,.str [],.dh] 0 false false),(g+3,.vec u.tT (.var (g+8)))]
  [short (g+4),place (g+4) (g+5),rl "rseqL" x [g+4,g+5,g+6,g+8]] (vW u g (g+9) (g+4) (g+5) [g+6,g+8] "rlso" q.rlso q.rlsoN)
def a0c(P:Program)(u:bP)(q:PQ)(m:PD):bp:=HP P u u.a7x m [] λg=>vW u g (g+3) (g+1) (g+2) [] "rfn" q.rfn q.rfnN
def Qp(P:Program)(u:bP)(q:PQ)(m:PD):bp:=HP P u u.a7w m [] λg=>vW u g (g+3) (g+1) (g+2) [] "rtm" q.rtm q.rtmN
def a3Q(P:Program)(u:bP)(q:PQ)(x:PD):bp:=
 let g:=u.L.nG
 entry P u.own [(0,qs u g)] (g+4) [] [rl "rep" x [g,g+1,g+2,g+3]] (sR "own" [g,g+1,g+2,g+3] q.own q.ownN)
def WE(P:Program)(u:bP)(q:PQ)(x:PD):bp:=
 let g:=u.L.nG
 entry P u.prt [(0,qs u g)] (g+4) [] [rl "repM" x [g,g+1,g+2,g+3]] (sR "prt" [g,g+1,g+2,g+3] q.prt q.prtN)
def Qs(P:Program)(u:bP)(q:PQ)(x:PD):bp:=
 let g:=u.L.nG
 fm P u.prt 0 [(1,.ptr g 0),(3,nv (g+5))] (g+6) [KP u g (g+1)] [place (g+4) (g+5),rl "prtL" x [g+1,g+2,g+3,g+4,g+5]] (sR "prto" [g+1,g+2,g+3,g+4,g+5] q.prto q.prtoN)
def WC(P:Program)(u:bP)(q:PQ)(x:PD):bp:=
 let g:=u.L.nG
 entry P u.wds [(0,qs u g)] (g+4) [] [rl "repM" x [g,g+1,g+2,g+3]]
  [{ res:=nv (g+4),post:=[],facts:=[rl "wds" q.wds [g,g+1,g+2,g+3,g+4],.tr (.a2 (.bin .leq) (.var (g+4)) (.int .i64 (.ofNat 10000)))],m:=1 }]
def Qm(P:Program)(u:bP)(q:PQ)(x:PD):bp:=
 let g:=u.L.nG
 fm P u.wds 0 [(1,.ptr g 0),(3,nv (g+5)),(4,nv (g+6))] (g+7) [KP u g (g+1)] [place (g+4) (g+6),rl "wdsL" x [g+1,g+2,g+3,g+4,g+5,g+6]]
  [{ res:=nv (g+7),post:=[],facts:=[rl "wdso" q.wdso [g+1,g+2,g+3,g+4,g+5,g+6,g+7],.tr (.a2 (.bin .leq) (.var (g+7)) (.int .i64 (.ofNat 10000)))],m:=1 }]
def a3N(P:Program)(u:bP)(q:PQ):bp:=entry P u.rdR [(0,nM u.L.nG)] (u.L.nG+1) [] [short u.L.nG] (UK u q)
def QB(P:Program)(u:bP)(q:PQ)(x:PD):bp:=
 let g:=u.L.nG
 fm P u.cutR 0 [(0,nM g),(2,.str []),(3,.str []),(4,.bool false),(5,nv (g+1))] (g+2) [] [short g,place g (g+1),rl "cutL" x [g,g+1]]
  [{ res:=.jy [nM (g+2),nM (g+3),.bool true],post:=[],facts:=[rl "cutR" q.cutR [g,g+2,g+3]],m:=2 },
    { res:=.jy [nM g,.str [],.bool false],post:=[],facts:=[rl "cutRN" q.cutRN [g]],m:=0 }]
def Pc(q:PQ)(n s:Nat):List de:=
 [{ res:=.jy [nv n,.bool true],post:=[],facts:=[rl "noR" q.noR [s,n]],m:=1 },{ res:=.jy [nv n,.bool false],post:=[],facts:=[rl "noRN" q.noRN [s]],m:=1 }]
def a3S(P:Program)(u:bP)(q:PQ):bp:=entry P u.noR [(0,nM u.L.nG)] (u.L.nG+1) [] [short u.L.nG] (Pc q (u.L.nG+1) u.L.nG)
def Qv(P:Program)(u:bP)(q:PQ)(x:PD):bp:=
 let g:=u.L.nG
 fm P u.noR 0 [(0,nM g),(2,.int .i64 0),(3,.bool false),(4,nv (g+1)),(5,nv (g+2))] (g+3) [] [short g,place g (g+2),rl "noRL" x [g,g+1,g+2]] (Pc q (g+3) g)
end Go.Proofs.YtokipodjggomfaaGreatDoor.Abs
namespace Go.Proofs.YtokipodjggomfaaGreatDoor.Txt
open Go Go.Proofs.YtokipodjggomfaaGreatDoor.Abs Go.Lib
abbrev dr(S:B)(p:Int):B:=S.drop p.toNat
abbrev sb(S:B)(f p:Int):B:=(S.take p.toNat).drop f.toNat
def Iu(n:Int):Prop:=97<=n/\n<=122
def Pm(n:Int):Prop:=(97<=n/\n<=122)\/(65<=n/\n<=90)\/(48<=n/\n<=57)\/n=95\/n=64
def gm:PD:=pS [.s,.i,.s,.i] λS p X p'=>p'=p+X.length/\must X (dr S p)=some (dr S p')
def cj:PD:=pS [.s,.i,.s] λS p X=>must X (dr S p)=none
def Gn:PD:=pS [.u] Iu
def sZ:PD:=pS [.u] λn=>¬Iu n
def zw:PD:=pS [.u] Pm
def s6:PD:=pS [.u] λn=>¬Pm n
def uq:PD:=pS [.u,.u,.u] λn a b=>a<=n/\n<=b
def kM:PD:=pS [.u,.u,.u] λn a b=>¬(a<=n/\n<=b)
def dE:PD:=pS [.s,.i,.i,.i,.i,.i] λS p lo V p' n=>dt lo V (dr S p)=some (n,dr S p')
def bu:PD:=pS [.s,.i,.i,.i] λS p lo V=>dt lo V (dr S p)=none
def vA(N:Nat):PD:=pS [.s,.i,.i] λS f p=>0<=f/\h2 S f.toNat p.toNat/\S.length-p<N
def Du:PD:=pS [.i,.i] λlo V=>cM<=lo/\V<=dS
def Fz(N:Nat):PD:=pS [.s,.i,.i,.i,.i] λS f p lo V=>0<=f/\h2 S f.toNat p.toNat/\p<=f+20/\cM<=lo/\V<=dS/\S.length-p<N
def K7(less:Bool)(S:B)(f p:Int):Prop:=if less then f<p/\S[f.toNat]? =some 45 else f=p\/S[f.toNat]? ≠some 45
def nd(less:Bool)(N:Nat):PD:=pS [.s,.i,.i,.i,.i,.i,.i] λS f p i n lo V=>0<=f/\ks S f.toNat p.toNat i.toNat n/\zH S f.toNat p.toNat/\K7 less S f p/\cM<=lo/\V<=dS/\p-i<N
def A7(N:Nat):PD:=pS [.i] λn=> -9223372036854775807<=n/\n<=9223372036854775807/\(if n<0 then 22 else(itoa n).length)<N
def xX:PD:=pS [.i,.s] λn r=>r=itoa n
def jM:PD:=pS [.s] λS=>plain S=true
def dL:PD:=pS [.s] λS=>plain S=false
def Gr:PD:=pS [.c] λS=>S.all letter=true
def wc:PD:=pS [.c] λS=>S.all letter=false
def yB(N:Nat):PD:=pS [.c,.i,.i] λS n i=>n=S.length/\S.length<=5000/\0<=i/\i<=n/\(S.take i.toNat).all letter=true/\n-i<N
def oW:PD:=pS [.s,.i,.i,.s] λS p p' w=>gb (dr S p)=some (.mk 2 0 w [],dr S p')
def pY:PD:=pS [.s,.i] λS p=>gb (dr S p)=none
def pX(N:Nat):PD:=pS [.s,.i,.i] λS f p=>0<=f/\zJ S f.toNat p.toNat/\S.length-p<N
def pV(N:Nat):PD:=pS [.s,.i] λS i=>dz S=true/\S.length<=64/\(S.take i.toNat).all letter=true/\S.length-i<N
def lI:PD:=pS [.s] λS=>words.contains S=true
def BH:PD:=pS [.s] λS=>words.contains S=false
def kE:PD:=pS [.s,.i,.i,.s] λS p p' w=>bI (dr S p)=some (.mk 2 0 w [],dr S p')
def kF:PD:=pS [.s,.i,.s] λS p _=>gb (dr S p)=none
def cW:PD:=pS [.s,.i,.s] λS p _=>bI (dr S p)=none
def gl:PD:=pS [.s,.i] λS p=>bI (dr S p)=none
def mE(N:Nat):PD:=pS [.s,.i,.i,.c,.i] λS f p a m=>0<=f/\ek S f.toNat p.toNat a/\m=a.length/\a.length<=p/\S.length-p<N
def kL(N:Nat):PD:=pS [.s,.i,.i,.c,.i] λS f p a m=>0<=f/\rF S f.toNat p.toNat a/\m=a.length/\a.length+f+1<=p/\S.length+2-p<N
def hO:PD:=pS [.s,.s] λS r=>r=quote S
def pU(N:Nat):PD:=pS [.s,.i,.i,.c,.i] λS n i a m=>n=S.length/\S.length<=4200/\0<=i/\i<=n/\a=39::mh (S.take i.toNat)/\m=a.length/\n-i<N
def nI(N:Nat):PD:=pS [.s,.s,.i] λS a i=>a=39::mh (S.take i.toNat)/\S.length-i<N
def zy:PD:=pS [.u,.i] λc n=>n=if 48<=c/\c<=57 then c-48 else if 97<=c/\c<=102 then c-87 else -1
def nmb(e s:B):Option (Int×B):=
 match dt 0 aZ s with
 |some (n,r)=>(must e r).map λr2=>(n,r2)
 |none=>none
def Gq:PD:=pS [.s,.i,.s,.i,.i] λS p e p' n=>nmb e (dr S p)=some (n,dr S p')
def s3:PD:=pS [.s,.i,.s] λS p e=>nmb e (dr S p)=none
def BJ:PD:=pS [.s,.i,.s,.s,.i,.i] λS p a e p' n=>(must a (dr S p)).bind (nmb e)=some (n,dr S p')
def nT:PD:=pS [.s,.i,.s,.s,.i] λS p a e _=>(must a (dr S p)).bind (nmb e)=none
def kT(T:TypeId):List Kd:=[.int .i64,.int .i64,.str,.sl T]
section
variable(T:TypeId)
def gx(l:List Tm)(d:Dt):Prop:=∃(a:Option Addr)(c:Nat)(J:List Dt),d=.sl (.slice a l.length c) T 4 J/\(a=none->l.length=0/\c=0)/\eF T l J
def dU(l:List Tm)(m:Int)(d:Dt):Prop:=∃J,d=.ls (kT T) J/\m=l.length/\eF T l J
def ms(N:Nat):PD:=pS [.s,.i] λS p=>S.length-p<N
def msE(N:Nat):PD:=pS [.s,.i,.s] λS p e=>S.length-p<N/\(e=[125]\/e=[62])
def ir(f:B->Option (Tm×B)):PD:=pS [.s,.i,.i,.i,.i,.s,.d] λS p p' k n w d=>∃t,rep T t [iv k,iv n,sv w,d]/\f (dr S p)=some (t,dr S p')
def hE(f:B->Option (Tm×B)):PD:=pS [.s,.i] λS p=>f (dr S p)=none
def b8(f:B->Option (Tm×B)):PD:=pS [.s,.i,.i,.i,.s,.d] λS p k n w d=>f (dr S p)=none/\∃t,rep T t [iv k,iv n,sv w,d]
def Jt(f:B->Option (List Tm×B)):PD:=pS [.s,.i,.i,.d] λS p p' d=>∃l,gx T l d/\f (dr S p)=some (l,dr S p')
def yJ(f:B->Option (List Tm×B)):PD:=pS [.s,.i] λS p=>f (dr S p)=none
def nH(N:Nat):PD:=pS [.s,.i,.i,.d] λS p m e=>0<=m/\m<=p/\S.length-p<N/\∃l,dU T l m e
def wi(f:List Tm->B->Option (List Tm×B)):PD:=pS [.s,.i,.i,.d,.i,.d] λS p m e p' d=>∃l O,dU T l m e/\gx T O d/\f l (dr S p)=some (O,dr S p')
def lM(f:List Tm->B->Option (List Tm×B)):PD:=pS [.s,.i,.i,.d] λS p m e=>∃l,dU T l m e/\f l (dr S p)=none
def sN(f:List Tm->B->Option (Tm×B)):PD:=pS [.s,.i,.i,.d,.i,.i,.i,.s,.d] λS p m e p' k n w d=>∃l t,dU T l m e/\rep T t [iv k,iv n,sv w,d]/\f l (dr S p)=some (t,dr S p')
def mJ(f:List Tm->B->Option (Tm×B)):PD:=pS [.s,.i,.i,.d] λS p m e=>∃l,dU T l m e/\f l (dr S p)=none
def ga(f:List Tm->B->Option (Tm×B)):PD:=pS [.s,.i,.i,.d,.i,.i,.s,.d] λS p m e k n w d=>(∃l,dU T l m e/\f l (dr S p)=none)/\∃t,rep T t [iv k,iv n,sv w,d]
def wg:PD:=pS [.s,.i,.i,.i,.d,.i,.i,.i,.s,.d] λS p v m e p' k n w d=>∃l t,dU T l m e/\rep T t [iv k,iv n,sv w,d]/\dH true v l (dr S p)=some (t,dr S p')
def lK:PD:=pS [.s,.i,.i,.i,.d] λS p v m e=>∃l,dU T l m e/\dH true v l (dr S p)=none
def Lr:PD:=pS [.i,.d,.i,.i,.s,.d] λm e k n w d=>0<=m/\m<=10000/\∃l t,dU T l m e/\rep T t [iv k,iv n,sv w,d]
def L3:PD:=pS [.i,.d,.i,.i,.s,.d,.i,.i,.s,.d] λm e k n w d k' a M d'=>∃l t,dU T l m e/\rep T t [iv k,iv n,sv w,d]/\rep T (bJ l t) [iv k',iv a,sv M,d']
def vC(N:Nat):PD:=pS [.i,.d,.i,.i,.i,.s,.d] λm e i k n w d=> -1<=i/\i<m/\m<=10000/\i+1<N/\∃l t,dU T l m e/\rep T t [iv k,iv n,sv w,d]
def s5:PD:=pS [.d,.i,.i,.i,.s,.d,.i,.i,.s,.d] λe i k n w d k' a M d'=>∃l t m,dU T l m e/\rep T t [iv k,iv n,sv w,d]/\rep T (bJ (l.take (i+1).toNat) t) [iv k',iv a,sv M,d']
def ef(N:Nat):PD:=pS [.d,.i,.i,.i,.s,.d] λe i k n w d=> -1<=i/\i<=10000/\i+1<N/\∃l t,gx T l e/\rep T t [iv k,iv n,sv w,d]/\i<l.length
def hU:PD:=pS [.d,.i,.i,.i,.s,.d,.i,.i,.s,.d] λe i k n w d k' a M d'=>∃l t,gx T l e/\rep T t [iv k,iv n,sv w,d]/\rep T (bJ (l.take (i+1).toNat) t) [iv k',iv a,sv M,d']
def va(X:B):Option (Tm×B):=(must lG X).bind (gT false (PR false))
def uj(X:B):Option (Tm×B):=(must [91] X).bind (e7 (PT false) (PR false))
def iL(l:List Tm)(X:B):Option (Tm×B):=
 match PT false X with
 |some (t,r)=>bo false (l++[t]) r
 |none=>none
def xB(e:B)(l:List Tm)(X:B):Option (List Tm×B):=
 match PT false X with
 |some (t,r)=>bU false (l++[t]) e r
 |none=>none
def DB:PD:=pS [.s,.i,.s,.i,.d] λS p e p' d=>∃l,gx T l d/\gA false (PT false) (PR false) e (dr S p)=some (l,dr S p')
def qJ:PD:=pS [.s,.i,.s] λS p e=>gA false (PT false) (PR false) e (dr S p)=none
def yC(N:Nat):PD:=pS [.s,.i,.s,.i,.d] λS p e m d=>0<=m/\m<=p/\S.length-p<N/\(e=[125]\/e=[62])/\∃l,dU T l m d
def wh:PD:=pS [.s,.i,.s,.i,.d,.i,.d] λS p e m d p' r=>∃l O,dU T l m d/\gx T O r/\xB e l (dr S p)=some (O,dr S p')
def nj:PD:=pS [.s,.i,.s,.i,.d] λS p e m d=>∃l,dU T l m d/\xB e l (dr S p)=none
def Gp:PD:=pS [.s,.i,.i,.s,.d] λS k n w d=>∃t,rep T t [iv k,iv n,sv w,d]/\rd S=some t
def mw:PD:=pS [.s] λS=>rd S=none
def vz:PD:=pS [.i,.i,.s,.d] λk n w d=>∃t,rep T t [iv k,iv n,sv w,d]/\t.wf/\t.words<=10000
def pR(N:Nat):PD:=pS [.i,.i,.s,.d] λk n w d=>∃t,rep T t [iv k,iv n,sv w,d]/\t.wf/\t.words<=10000/\t.size<N
def zx:PD:=pS [.i,.i,.s,.d,.d] λk n w d r=>∃l,rep T (bJ l pd) [iv k,iv n,sv w,d]/\gx T l r
def nV:PD:=pS [.i,.i,.s,.d] λk n w d=>∃t,rep T t [iv k,iv n,sv w,d]/\∀l,t≠bJ l pd
def pW(N:Nat):PD:=pS [.i,.i,.s,.d,.i,.d] λk n w d m e=>0<=m/\m<=10000/\∃t l,rep T t [iv k,iv n,sv w,d]/\t.wf/\dU T l m e/\m+t.size<=10000/\t.size<N
def nU:PD:=pS [.i,.i,.s,.d,.i,.d,.d] λk n w d m e r=>∃l O,rep T (bJ O pd) [iv k,iv n,sv w,d]/\dU T l m e/\gx T (l++O) r
def jd:PD:=pS [.i,.i,.s,.d,.i,.d] λk n w d m e=>∃t,rep T t [iv k,iv n,sv w,d]/\∀l,t≠bJ l pd
def y6(t:Tm):Prop:=t.k=9\/t.l.length<=64
def ur:PD:=pS [.i,.i,.s,.d] λk n w d=>∃t,rep T t [iv k,iv n,sv w,d]/\y6 t
def dy:PD:=pS [.i,.i,.s,.d] λk n w d=>∃t,rep T t [iv k,iv n,sv w,d]/\¬y6 t
def Js:PD:=pS [.i,.i,.s,.d] λk n w d=>∃t,rep T t [iv k,iv n,sv w,d]/\t.fits=true
def wb:PD:=pS [.i,.i,.s,.d] λk n w d=>∃t,rep T t [iv k,iv n,sv w,d]/\t.fits=false
def yA(N M:Nat):PD:=pS [.i,.i,.s,.d,.i] λk n w d i=>∃t,rep T t [iv k,iv n,sv w,d]/\t.wf/\t.words<=10000/\t.size<N+1/\y6 t/\dQ (t.l.take i.toNat)=true/\t.l.length-i<M
def wa:PD:=pS [.i,.i,.s,.d,.i] λk n w d _=>∃t,rep T t [iv k,iv n,sv w,d]/\t.fits=true
def oV:PD:=pS [.i,.i,.s,.d,.i] λk n w d _=>∃t,rep T t [iv k,iv n,sv w,d]/\t.fits=false
def BI:PD:=pS [.i,.i,.s,.d,.i] λk n w d r=>∃t,rep T t [iv k,iv n,sv w,d]/\r=t.words
def sS(N M:Nat):PD:=pS [.i,.i,.s,.d,.i,.i] λk n w d r i=>∃t,rep T t [iv k,iv n,sv w,d]/\t.wf/\t.words<=10000/\t.size<N+1/\r=(if t.k=7\/t.k=5 then 2 else 1)+cA (t.l.take i.toNat)/\t.l.length-i<M
def qH:PD:=pS [.i,.i,.s,.d,.i,.i,.i] λk n w d _ _ r=>∃t,rep T t [iv k,iv n,sv w,d]/\r=t.words
end
def qI:PD:=pS [.s,.s,.s] λS a b=>cut S [32]=(a,b,true)
def lL:PD:=pS [.s] λS=>cut S [32]=(S,[],false)
def sT(N:Nat):PD:=pS [.s,.i] λS i=>Im S i.toNat/\S.length-i<N
def mx:PD:=pS [.s,.i] λS n=>qe S=some n
def eY:PD:=pS [.s] λS=>qe S=none
def vB(N:Nat):PD:=pS [.s,.i,.i] λS n i=>S≠[]/\S.length<=10/\(S.length=1\/S[0]? ≠some 48)/\(∀c∈S.take i.toNat,digit c=true)/\n=val (S.take i.toNat)/\0<=n/\n<=9999999999/\S.length-i<N
def gh(N:Nat):PD:=pS [.s,.i] λS p=>da S p.toNat/\S.length-p<N
def df:PD:=pS [.s] λS=>da S S.length
def n7:List B:=[[115,112,97,119,110],[115,116,101,112],[115,101,110,100],[101,120,105,116],[99,111,108,108,101,99,116],[112,97,115,115],[114,111,117,110,100],[114,117,110],[115,101,116,116,108,101]]
def lw(S:B):Nat:=match n7.idxOf? (cut S [32]).1 with|some i=>i+1|none=>0
def lr(S:B):B:=(cut S [32]).2.1
def lm(S:B):Bool:=(cut S [32]).2.2
def nS:PD:=pS [.s] λS=>4000<S.length
def lJ:PD:=pS [.s] λS=>S.length<=4000/\lw S=0
def uz(u:B):Prop:=(cut u [32]).2.2=false\/qe (cut u [32]).1=none\/rd (cut u [32]).2.1=none
def aR:PD:=pS [.s] λS=>S.length<=4000/\lw S≠0/\(lm S=false\/(lw S=1/\da (lr S) (lr S).length)\/((lw S=3\/lw S=4)/\uz (lr S))\/(lw S≠1/\lw S≠3/\lw S≠4/\qe (lr S)=none))
def gj:PD:=pS [.s,.i,.i] λS k n=>S.length<=4000/\lw S=k.toNat/\k=lw S/\lw S≠0/\lw S≠1/\lw S≠3/\lw S≠4/\lm S=true/\qe (lr S)=some n
section
variable(T:TypeId)
def eZ:PD:=pS [.s,.s,.d] λS a d=>∃l,gx T l d/\jZ S a l
def mK:PD:=pS [.s,.s,.d] λS a d=>S.length<=4000/\lw S=1/\lm S=true/\∃l,gx T l d/\jZ (lr S) a l
def kN:PD:=pS [.s,.i,.i,.i,.i,.s,.d] λS k n k' a w d=>S.length<=4000/\k=lw S/\(lw S=3\/lw S=4)/\lm S=true/\(cut (lr S) [32]).2.2=true/\qe (cut (lr S) [32]).1=some n/\∃t,rep T t [iv k',iv a,sv w,d]/\rd (cut (lr S) [32]).2.1=some t
end
end Go.Proofs.YtokipodjggomfaaGreatDoor.Txt
namespace Go.Proofs.YtokipodjggomfaaGreatDoor.Txt
open Go Go.Proofs.YtokipodjggomfaaGreatDoor.Abs Go.Lib
def mz{α:Type}(c:Prop)(o:Option α):Option α:=open Classical in if c then o else none
section
variable{α j:Type}{c:Prop}{o:Option α}{x y:α}
theorem PN:mz True o=o:=az trivial
theorem od(h:c):mz c o=o:=az h
theorem xe{f:α->Option j}:(mz c o).bind f=mz c (o.bind f):=by by_cases h:c<;>simp[mz,h]
theorem a3o:(mz c o=some y)=(c/\o=some y):=by by_cases h:c<;>simp[mz,h]
theorem xc{α:Type}{x y:α}{c:Prop}:(mz c (some x)=some y)=(c/\x=y):=by rw[a3o];simp
theorem X5{c:Prop}{n:Int}:tI (mz c (some (iv n)))=c:=by by_cases h:c<;>simp[mz,h,tI,iO]
theorem X3{c:Prop}{n:Int}:tU (mz c (some (uv n)))=c:=by by_cases h:c<;>simp[mz,h,tU,iO]
theorem X4{c:Prop}{s:B}:tS (mz c (some (sv s)))=c:=by by_cases h:c<;>simp[mz,h,tS,sO]
theorem X6{c:Prop}{s:B}:tC (mz c (some (bd s)))=c:=by by_cases h:c<;>simp[mz,h,tC,KS]
end
def wr(n:Int):Int:=IntKind.i64.wrap n
def wu(n:Int):Int:=IntKind.u8.wrap n
theorem eg{n:Int}(h: -9223372036854775808<=n/\n<=9223372036854775807):wr n=n:=ez h.1 h.2
theorem TQ(n:Int):wu n=n%256:=by grind[wu,IntKind.wrap,IntKind.signed,IntKind.bits]
theorem Og{a b:Int}:e2 (.bin .add) (iv a) (iv b)=some (iv (wr (a+b))):=by simp only[e2,dW,bj,aH,intOp,okV];rfl
theorem N6{a b:Int}:e2 (.bin .sub) (iv a) (iv b)=some (iv (wr (a-b))):=by simp only[e2,dW,bj,aH,intOp,okV];rfl
theorem Od{a b:Int}:e2 (.bin .mul) (iv a) (iv b)=some (iv (wr (a*b))):=by simp only[e2,dW,bj,aH,intOp,okV];rfl
theorem FG{a b:Int}:e2 (.bin .sub) (uv a) (uv b)=some (uv (wu (a-b))):=by simp only[e2,dW,bj,aH,intOp,okV];rfl
theorem Bc{a b:Int}:e2 (.bin .add) (uv a) (uv b)=some (uv (wu (a+b))):=by simp only[e2,dW,bj,aH,intOp,okV];rfl
theorem Of{x y:B}:e2 (.bin .add) (sv x) (sv y)=mz (x.length+y.length<=1099511627776) (some (sv (x++y))):=by
 by_cases h:x.length+y.length<=1099511627776
 .rw[od h];exact a2O h
 .have:Nat.ble (Nat.add x.length y.length) 1099511627776=false:=by
    cases a:Nat.ble (Nat.add x.length y.length) 1099511627776 with
    |false=>rfl
    |true=>rw[vc]at a;exact absurd a h
  simp only[e2,dW,strOp,this,mz,ai h];rfl
def bt(S:B)(p:Int):Int:=((S[p.toNat]?).getD 0).toNat
theorem Oe{S:B}{k:IntKind}{p:Int}:e2 .idx (sv S) (.val (.int k p))=mz (0<=p/\p<S.length) (some (uv (bt S p))):=by
 cases p with
 |ofNat n=>
  show(S[n]?).map (λb=>Dt.val (.int .u8 b.toNat))=_;by_cases h:n<S.length
  .grind[od,bt]
  .grind[mz]
 |negSucc n=>
  unfold mz;rw[ai]
  .rfl
  .rintro⟨A, -⟩;exact absurd A (by omega)
theorem a0s{S:B}{p:Int}(h:0<=p/\p<S.length):∃b:UInt8,S[p.toNat]? =some b/\bt S p=b.toNat/\bt S p<256:=by
 have a:p.toNat<S.length:=by omega
 refine⟨S[p.toNat],dw a,?_,?_⟩
 .grind[bt]
 .have:=(S[p.toNat]).toNat_lt;unfold bt;rw[dw a];simp only[fu];omega
theorem N5{l:B}{k:IntKind}{n:Int}:e2 (.tk 1) (bd l) (.val (.int k n))=mz (0<=n/\n<=l.length) (some (bd (l.take n.toNat))):=by
 cases n with
 |ofNat n=>
  have h:=a5T (l:=l) (k:=k) (n:=n);have h:e2 (.tk 1) (bd l) (.val (.int k (Int.ofNat n)))=if n<=l.length then some (bd (l.take n))else none:=h
  rw[h];by_cases a:n<=l.length
  .grind[od]
  .grind[mz]
 |negSucc n=>
  unfold mz;rw[ai]
  .rfl
  .rintro⟨A, -⟩;exact absurd A (by omega)
theorem N9{l:B}{S:B}{p:Int}:e2 .sn (bd l) (uv (bt S p))=some (bd (l++[(S[p.toNat]?).getD 0])):=by rw[a1n];exact dX some (QM rfl)
theorem Bb{l:B}{n:Int}(h:0<=n/\n<256):e2 .sn (bd l) (uv n)=some (bd (l++[UInt8.ofNat n.toNat])):=by rw[a1n];refine dX some (QM ?_);rw[UInt8.toNat_ofNat'];omega
theorem Ba{l:B}{k q:IntKind}{lo V:Int}:e3 .sub (sv l) (.val (.int k lo)) (.val (.int q V))=some (sv ((l.take V.toNat).drop lo.toNat)):=rfl
theorem Zt{a b:Int}:(uv a=uv b)=(a=b):=by simp
theorem PF{a b:Int}:(iv a=iv b)=(a=b):=by simp
theorem Zu:(some (Dt.val (.bool true))=some (.val (.bool true)))=True:=by simp
theorem PG{c:Prop}[Decidable c]:(some (Dt.val (.bool (decide c)))=some (.val (.bool true)))=c:=by simp
theorem Ho{c:Prop}[Decidable c]:(some (Dt.val (.bool (decide c)))=some (.val (.bool false)))=¬c:=by simp
theorem Hn{c:Prop}[Decidable c]:(some (Dt.val (.bool (!decide c)))=some (.val (.bool true)))=¬c:=by simp
theorem Ay{c:Prop}[Decidable c]:(some (Dt.val (.bool (!decide c)))=some (.val (.bool false)))=c:=by simp
theorem GY{α j:Type}{x:α}{f:α->Option j}:(some x).bind f=f x:=rfl
end Go.Proofs.YtokipodjggomfaaGreatDoor.Txt
namespace Go.Proofs.YtokipodjggomfaaGreatDoor.Txt
open Go Go.Proofs.YtokipodjggomfaaGreatDoor.Abs Go.Lib
section
variable{S X a b:B}{p p' f i n lo V m:Int}
theorem a6w(h:0<=p)(k:Nat):(dr S p).drop k=dr S (p+k):=by grind[List.drop_drop]
theorem cF(a:0<=p)(A:p<S.length):∃c:UInt8,S[p.toNat]? =some c/\bt S p=c.toNat:=by grind[a0s]
theorem zk{c:UInt8}(h:S[p.toNat]? =some c):bt S p=c.toNat:=by unfold bt;rw[h]<;>rfl
theorem a5a(a:0<=p)(h:(dr S p).take X.length=X):must X (dr S p)=some (dr S (p+X.length)):=by grind[RX,a6w]
theorem Ty(h:(dr S p).length<X.length):must X (dr S p)=none:=sw λe=>by
 have:=dX List.length e;rw[cG]at this;omega
theorem Tx(h:(dr S p).take X.length≠X):must X (dr S p)=none:=sw h
theorem Tl{c:UInt8}(a:0<=p)(h:S[p.toNat]? =some c):must [c] (dr S p)=some (dr S (p+1)):=by show must [c] (S.drop p.toNat)=some (S.drop (p+1).toNat);rw[bO h,Ez,show(p+1).toNat=p.toNat+1 by omega]
theorem pQ{d:UInt8}{l:B}(h:S.length<=p):must (d::l) (dr S p)=none:=by grind[must,oj,sw]
theorem A2{d:UInt8}(h:must [d] (dr S p)=some X):S[p.toNat]? =some d:=by
 have e:=n5 h;have:(S.drop p.toNat)[0]? =some d:=by show(dr S p)[0]? =some d;rw[e]<;>rfl
 rwa [oD,hx]at this
theorem Fb{d:UInt8}(h:must [d] (dr S p)=none)(a:0<=p)(A:p<S.length):bt S p≠d.toNat:=by obtain⟨c,b,e⟩:=cF a A;intro I;have:c=d:=fX.1 (by omega);subst this;rw[Tl a b]at h;cases h
def noD(S:B)(p:Int):Prop:=S.length<=p\/bt S p<48\/57<bt S p
theorem Cc(f:0<=p)(h:noD S p):∀c,S[p.toNat]? =some c->digit c=false:=by
 intro c a;have b:=jE a;have e:=zk a;cases d:digit c with
 |false=>rfl
 |true=>have:=ey.1 d;rcases h with h|h|h<;>omega
theorem Ts(a:0<=p)(A:p<=S.length)(h:must [45] (dr S p)=none):h2 S p.toNat p.toNat:=by grind[JY,Tl]
theorem Tq(a:0<=p)(h:must [45] (dr S p)=some X):h2 S p.toNat (p+1).toNat:=by rw[show(p+1).toNat=p.toNat+1 by omega];exact JX (A2 h)
theorem Tn(a:h2 S f.toNat p.toNat)(b:0<=p)(A:p<S.length)(I:48<=bt S p)(W:bt S p<=57):h2 S f.toNat (p+1).toNat:=by obtain⟨c,d,e⟩:=cF b A;rw[show(p+1).toNat=p.toNat+1 by omega];exact RV a d (ey.2 (by omega))
theorem a11(a:h2 S f.toNat p.toNat)(b:0<=p)(c:noD S p)(d:atoiAll (sb S f p)=.ok n)(e:itoa n=sb S f p)(A:lo<=n)(I:n<=V):dt lo V (dr S f)=some (n,dr S p):=ya a (Cc b c) d e A I
theorem Tp(a:h2 S f.toNat p.toNat)(b:0<=p)(c:noD S p)(h:∀n,atoiAll (sb S f p)=.ok n->itoa n=sb S f p->lo<=n->n<=V->False):dt lo V (dr S f)=none:=a2P a (Cc b c) h
theorem Y5(h:dt lo V (dr S p)=some (n,dr S p'))(a:0<=p)(A:p'<=S.length):p<p':=by have:=ka h;rw[eT,eT]at this;omega
theorem Ea{c:UInt8}:small c=true↔Iu c.toNat:=by simp[small,Iu];omega
theorem jQ{c:UInt8}:letter c=true↔Pm c.toNat:=by grind[letter,Pm,small,digit]
theorem j4(h:S≠[]):dz S=true↔Iu (bt S 0):=by
 cases S with
 |nil=>exact absurd rfl h
 |cons c r=>show small c=true↔Iu (bt (c::r) 0);rw[zk (S:=c::r) (p:=0) (c:=c) rfl];exact Ea
theorem Tz(h:(S.take i.toNat).all letter=true)(a:0<=i)(A:i<S.length)(I:Pm (bt S i)):(S.take (i+1).toNat).all letter=true:=by obtain⟨c,b,e⟩:=cF a A;rw[show(i+1).toNat=i.toNat+1 by omega,nL b,List.all_append,h];rw[e]at I;simp[jQ.2 I]
theorem Lq(h:(S.take i.toNat).all letter=true)(A:S.length<=i):S.all letter=true:=by
 rwa [fv (by omega)]at h
theorem TB(a:0<=i)(A:i<S.length)(I:¬Pm (bt S i)):S.all letter=false:=by
 obtain⟨c,b,e⟩:=cF a A;cases d:S.all letter with
 |false=>rfl
 |true=>rw[e]at I;exact absurd (jQ.1 (qj.1 d c (vy b))) I
theorem NR:plain []=false:=rfl
theorem NQ(h:64<S.length):plain S=false:=by grind[plain]
theorem NP(a:S≠[])(h:¬Iu (bt S 0)):plain S=false:=by grind[plain,j4]
theorem XK(a:S≠[])(h:contains cX ([32]++S++[32])=true):plain S=false:=Jv (by simpa using h) a
theorem NN(h:S.all letter=false):plain S=false:=by grind[plain]
theorem a10(a:S≠[])(A:S.length<=64)(I:Iu (bt S 0))(W:S.all letter=true)(D:contains cX ([32]++S++[32])=false):plain S=true:=
 Rv ((j4 a).2 I) A W (by simpa using D) a
theorem XI(a:S≠[])(A:S.length<=64)(I:Iu (bt S 0))(W:S.all letter=true)(D:words.contains S=false):plain S=true:=
 r8.2 ⟨(j4 a).2 I,A,W,D⟩
theorem XJ(h:words.contains S=true):plain S=false:=by grind[plain]
theorem TL(a:0<=p)(A:p<=S.length):zJ S p.toNat p.toNat:=MH (by omega)
theorem TJ(h:zJ S f.toNat p.toNat)(a:0<=p)(A:p<S.length)(I:Pm (bt S p)):zJ S f.toNat (p+1).toNat:=by obtain⟨c,b,e⟩:=cF a A;rw[show(p+1).toNat=p.toNat+1 by omega];rw[e]at I;exact R5 h b (jQ.2 I)
def noL(S:B)(p:Int):Prop:=S.length<=p\/¬Pm (bt S p)
theorem J2(f:0<=p)(h:noL S p):∀c,S[p.toNat]? =some c->letter c=false:=by
 intro c a;have b:=jE a;have e:=zk a;cases d:letter c with
 |false=>rfl
 |true=>
  have:=jQ.1 d;rcases h with h|h
  .omega
  .rw[e]at h;exact absurd this h
theorem TH(h:zJ S f.toNat p.toNat)(a:0<=p)(b:noL S p)(c:plain (sb S f p)=true):gb (dr S f)=some (.mk 2 0 (sb S f p) [],dr S p):=UW h (J2 a b) c
theorem TK(h:zJ S f.toNat p.toNat)(a:0<=p)(b:noL S p)(c:plain (sb S f p)=false):gb (dr S f)=none:=UX h (J2 a b) c
theorem TF(b:0<=i)(A:i<S.length):∃c:UInt8,bt S i=c.toNat/\(S[i.toNat]?).getD 0=c/\mh (S.take (i+1).toNat)=mh (S.take i.toNat)++uN c:=by obtain⟨c,a,e⟩:=cF b A;exact⟨c,e,by rw[a]<;>rfl,by rw[show(i+1).toNat=i.toNat+1 by omega];exact Wk a⟩
theorem TE(a:0<=i)(A:i<S.length)(h:bt S i=39\/bt S i=92):mh (S.take (i+1).toNat)=mh (S.take i.toNat)++[92]++[(S[i.toNat]?).getD 0]:=by grind[e2,e3,TF,uN]
theorem TD(a:0<=i)(A:i<S.length)(h:bt S i<32\/126<bt S i):mh (S.take (i+1).toNat)=mh (S.take i.toNat)++[92,120,ll ((bt S i).toNat/16),ll ((bt S i).toNat%16)]:=by grind[e2,e3,TF,uN]
theorem TC(a:0<=i)(A:i<S.length)(h:bt S i≠39)(I:bt S i≠92)(W:32<=bt S i)(D:bt S i<=126):mh (S.take (i+1).toNat)=mh (S.take i.toNat)++[(S[i.toNat]?).getD 0]:=by grind[e2,e3,TF,uN]
theorem Ti(h:S.length<=i):39::mh (S.take i.toNat)++[39]=quote S:=by rw[fv (by omega)]<;>rfl
theorem EV:(mh (S.take i.toNat)).length<=4*S.length:=by grind[Qa]
end
end Go.Proofs.YtokipodjggomfaaGreatDoor.Txt
namespace Go.Proofs.YtokipodjggomfaaGreatDoor.Txt
open Go Go.Proofs.YtokipodjggomfaaGreatDoor.Abs Go.Lib
section
variable{S X a b w:B}{p p' f i n lo V m:Int}
theorem a4W(a:0<=p)(A:p<S.length):ek S p.toNat (p+1).toNat []:=by rw[show(p+1).toNat=p.toNat+1 by omega];exact Rs (by omega)
theorem a0T(q:ek S f.toNat p.toNat a)(d:0<=p)(A:p<S.length)(I:bt S p≠39)(W:bt S p≠92):ek S f.toNat (p+1).toNat (a++[(S[p.toNat]?).getD 0]):=by obtain⟨c,b,e⟩:=cF d A;rw[show(p+1).toNat=p.toNat+1 by omega,b,fu];exact YI q b (by omega) (by omega)
theorem NM(q:ek S f.toNat p.toNat a)(b:0<=p)(A:p<S.length)(I:bt S p=92){d:UInt8}(g:d=39\/d=92)(h:must [d] (dr S (p+1))=some X):ek S f.toNat (p+1+1).toNat (a++[d]):=by obtain⟨c,i,e⟩:=cF b A;have Y:=A2 h;rw[show(p+1).toNat=p.toNat+1 by omega]at Y;rw[show(p+1+1).toNat=p.toNat+2 by omega];exact YH q i (by omega) Y (by rcases g with rfl|rfl<;>simp)
theorem a0S(q:ek S f.toNat p.toNat a)(g:0<=f)(b:0<=p)(A:p<S.length)(I:bt S p=39)(W:a.length<=64)(D:plain a=false)(h5:quote a=sb S f (p+1)):bI (dr S f)=some (.mk 2 0 a [],dr S (p+1)):=by obtain⟨c,d,e⟩:=cF b A;have h:=q.1;have:=OL q d (by omega);have h5:quote a=(S.take (p+1).toNat).drop f.toNat:=h5;show bI (S.drop f.toNat)=some (_,S.drop (p+1).toNat);rw[show(p+1).toNat=p.toNat+1 by omega]at h5 ⊢;exact Gh (by omega) (by omega) this W D h5
theorem Tk(q:ek S f.toNat p.toNat a)(A:S.length<=p):bI (dr S f)=none:=Gi (UM q (by omega))
theorem a1Z(q:ek S f.toNat p.toNat a)(b:0<=p)(A:p<S.length)(I:bt S p=39)(h:a.length<=64->plain a=false->quote a=sb S f (p+1)->False):bI (dr S f)=none:=by obtain⟨c,d,e⟩:=cF b A;have g:=q.1;have e1:=OL q d (by omega);refine YJ (p:=p.toNat+1) (by omega) (by omega) e1 ?_;rw[show p.toNat+1=(p+1).toNat by omega];exact h
theorem Tj(q:ek S f.toNat p.toNat a)(i:0<=p)(A:p<S.length)(I:bt S p=92)(j:must [39] (dr S (p+1))=none)(k:must [92] (dr S (p+1))=none)(l:must [120] (dr S (p+1))=none):bI (dr S f)=none:=by
 obtain⟨c,b,e⟩:=cF i A;refine Gi ?_;rcases Int.lt_or_le (p+1) S.length with h|h
 .obtain⟨d,g,e2⟩:=cF (S:=S) (p:=p+1) (by omega) h;have g1:=Fb j (by omega) h;have g2:=Fb k (by omega) h;have g3:=Fb l (by omega) h;rw[show(p+1).toNat=p.toNat+1 by omega]at g;refine YL q b (by omega) g (λe=>g1 ?_) (λe=>g2 ?_) (λe=>g3 ?_)
  all_goals rw[e2,e]<;>rfl
 .exact Rr q b (by omega) (by omega)
theorem a1Y(q:ek S f.toNat p.toNat a)(b:0<=p)(A:p<S.length)(I:bt S p=92)(d:must [120] (dr S (p+1))=some X)(h:S.length<p+4):bI (dr S f)=none:=by obtain⟨c,g,e⟩:=cF b A;have Y:=A2 d;rw[show(p+1).toNat=p.toNat+1 by omega]at Y;exact Gi (Rt q g (by omega) Y (by decide) (by omega))
theorem Hw{c:UInt8}(h:S[p.toNat]? =some c):indexByte en (bt S p).toNat.toUInt8=indexByte en c:=by rw[zk h];congr 1;simp
theorem a1X(q:ek S f.toNat p.toNat a)(k:0<=p)(A:p<S.length)(I:bt S p=92)(l:must [120] (dr S (p+1))=some X)(h:p+4<=S.length)
  (b:indexByte en (bt S (p+1+1)).toNat.toUInt8<0\/indexByte en (bt S (p+1+1+1)).toNat.toUInt8<0):bI (dr S f)=none:=by
 obtain⟨c,m,e⟩:=cF k A;have Y:=A2 l;obtain⟨d,i,e2⟩:=cF (S:=S) (p:=p+1+1) (by omega) (by omega);obtain⟨g,j,e3⟩:=cF (S:=S) (p:=p+1+1+1) (by omega) (by omega);rw[Hw i,Hw j]at b;rw[show(p+1).toNat=p.toNat+1 by omega]at Y;rw[show(p+1+1).toNat=p.toNat+2 by omega]at i;rw[show(p+1+1+1).toNat=p.toNat+3 by omega]at j;refine Gi (Ru q m (by omega) Y (by decide) i j ?_);rw[vI d,vI g];rcases b with b|b
 .left;rw[ai (by omega)]
 .right;rw[ai (by omega)]
theorem a4V(q:ek S f.toNat p.toNat a)(m:0<=p)(A:p<S.length)(I:bt S p=92)(n:must [120] (dr S (p+1))=some X)(h:p+4<=S.length)
  (hh:0<=indexByte en (bt S (p+1+1)).toNat.toUInt8) (j:0<=indexByte en (bt S (p+1+1+1)).toNat.toUInt8):
  ek S f.toNat (p+4).toNat (a++[UInt8.ofNat (16*(indexByte en (bt S (p+1+1)).toNat.toUInt8).toNat+(indexByte en (bt S (p+1+1+1)).toNat.toUInt8).toNat)])/\
  indexByte en (bt S (p+1+1)).toNat.toUInt8<16/\indexByte en (bt S (p+1+1+1)).toNat.toUInt8<16:=by
 obtain⟨c,o,e⟩:=cF m A;have Y:=A2 n;obtain⟨d,b,e2⟩:=cF (S:=S) (p:=p+1+1) (by omega) (by omega);obtain⟨g,i,e3⟩:=cF (S:=S) (p:=p+1+1+1) (by omega) (by omega);rw[Hw b]at hh ⊢;rw[Hw i]at j ⊢;have k:unhex d=some (indexByte en d).toNat:=by rw[vI,az hh]
 have l:unhex g=some (indexByte en g).toNat:=by rw[vI,az j]
 have r:=IG k;have s:=IG l;rw[show(p+1).toNat=p.toNat+1 by omega]at Y;rw[show(p+1+1).toNat=p.toNat+2 by omega]at b;rw[show(p+1+1+1).toNat=p.toNat+3 by omega]at i;refine⟨?_,by omega,by omega⟩;rw[show(p+4).toNat=p.toNat+4 by omega];exact YK q o (by omega) Y (by decide) b i k l
theorem yy(a:0<=p)(A:p<S.length):rF S p.toNat (p+1).toNat []:=by rw[show(p+1).toNat=p.toNat+1 by omega];exact Rl (by omega)
theorem a0M(q:rF S f.toNat p.toNat a)(d:0<=p)(A:p<S.length)(I:bt S p≠39)(W:bt S p≠92):rF S f.toNat (p+1).toNat (a++[(S[p.toNat]?).getD 0]):=by obtain⟨c,b,e⟩:=cF d A;rw[show(p+1).toNat=p.toNat+1 by omega,b,fu];exact Yv q b (by omega) (by omega)
theorem a4P(q:rF S f.toNat p.toNat a)(g:0<=p)(A:p+1<S.length)(I:bt S p=92)(W:bt S (p+1)≠120\/S.length<p+4):rF S f.toNat (p+2).toNat (a++[(S[(p+1).toNat]?).getD 0]):=by obtain⟨c,h,e⟩:=cF (S:=S) g (by omega);obtain⟨d,b,e2⟩:=cF (S:=S) (p:=p+1) (by omega) A;rw[b,fu];rw[show(p+1).toNat=p.toNat+1 by omega]at b;rw[show(p+2).toNat=p.toNat+2 by omega];exact Yu q h (by omega) b (by omega)
theorem a4O(q:rF S f.toNat p.toNat a)(b:0<=p)(A:p<S.length)(I:bt S p=92)(W:S.length<=p+1):rF S f.toNat (p+2).toNat (a++[0]):=by obtain⟨c,d,e⟩:=cF b A;rw[show(p+2).toNat=p.toNat+2 by omega];exact Ux q d (by omega) (by omega)
theorem a4N(q:rF S f.toNat p.toNat a)(i:0<=p)(A:p+4<=S.length)(I:bt S p=92)(W:bt S (p+1)=120):rF S f.toNat (p+4).toNat (a++[C8 ((S[(p+2).toNat]?).getD 0) ((S[(p+3).toNat]?).getD 0)]):=by obtain⟨c,j,e⟩:=cF (S:=S) i (by omega);obtain⟨d,h,e2⟩:=cF (S:=S) (p:=p+1) (by omega) (by omega);obtain⟨g,b,e3⟩:=cF (S:=S) (p:=p+2) (by omega) (by omega);obtain⟨k,Z,l⟩:=cF (S:=S) (p:=p+3) (by omega) (by omega);rw[b,Z,fu,fu];rw[show(p+1).toNat=p.toNat+1 by omega]at h;rw[show(p+2).toNat=p.toNat+2 by omega]at b;rw[show(p+3).toNat=p.toNat+3 by omega]at Z;rw[show(p+4).toNat=p.toNat+4 by omega];exact Yw q j (by omega) h (by omega) b Z
theorem ZC{c:UInt8}:MW c=if 48<=(c.toNat:Int)/\(c.toNat:Int)<=57 then(c.toNat:Int)-48 else if 97<=(c.toNat:Int)/\(c.toNat:Int)<=102 then(c.toNat:Int)-87 else -1:=by grind[MW,digit]
theorem a0J(q:rF S f.toNat p.toNat a)(b:0<=p)(A:p<S.length)(I:bt S p=39)(W:a.length<=64)(D:plain a=false)(h5:quote a=sb S f (p+1)):bI (dr S f)=some (.mk 2 0 a [],dr S (p+1)):=by obtain⟨c,d,e⟩:=cF b A;have h5:quote a=(S.take (p+1).toNat).drop f.toNat:=h5;show bI (S.drop f.toNat)=some (_,S.drop (p+1).toNat);rw[show(p+1).toNat=p.toNat+1 by omega]at h5 ⊢;exact a5y q d (by omega) W D h5
theorem a4M(q:rF S f.toNat p.toNat a)(b:0<=p)(A:p<S.length)(I:bt S p=39)(c:a.length<=64->plain a=false->quote a=sb S f (p+1)->False):bI (dr S f)=none:=by grind[cF,a5z]
theorem Tb(q:rF S f.toNat p.toNat a)(A:S.length<=p):bI (dr S f)=none:=Ys q (by omega)
theorem a4S(a:h2 S f.toNat p.toNat)(b:0<=f)(c:p<=f+20):ks S f.toNat p.toNat f.toNat 0:=Uq a (by omega)
theorem NJ(a:0<=p)(h:noD S p\/p=f+20)(b:0<=f):zH S f.toNat p.toNat:=by
 rcases h with h|h
 .exact .inl (Cc a h)
 .exact .inr (by omega)
theorem a0P(h:ks S f.toNat p.toNat i.toNat n)(a:0<=i)(V:i<p)(A:i<S.length)(I:bt S i=45):ks S f.toNat p.toNat (i+1).toNat n:=by obtain⟨c,b,e⟩:=cF a A;have:c=45:=fX.1 (by rw[show(45:UInt8).toNat=45 from rfl];omega);subst this;rw[show(i+1).toNat=i.toNat+1 by omega];exact Ur h (by omega) b
theorem F6(h:ks S f.toNat p.toNat i.toNat n)(a:0<=i)(V:i<p)(A:i<S.length)(I:bt S i≠45):48<=bt S i/\bt S i<=57:=by
 obtain⟨c,b,e⟩:=cF a A;obtain⟨g1,g2,g3,g4,g5,g6⟩:=h;rcases a5j g1 g3 (show i.toNat<p.toNat by omega) b with⟨rfl, -⟩|d
 .exact absurd e (by simpa using I)
 .have:=ey.1 d;omega
theorem a4Q(h:ks S f.toNat p.toNat i.toNat n)(a:0<=i)(V:i<p)(A:i<S.length)(I:bt S i≠45)(b:cM<=10*n-(bt S i-48)):ks S f.toNat p.toNat (i+1).toNat (10*n-(bt S i-48)):=by
 have g:=F6 h a V A I;obtain⟨c,d,e⟩:=cF a A;rw[show(i+1).toNat=i.toNat+1 by omega];have e2:bt S i-48=(c.toNat-48:Nat):=by omega
 rw[e2]at b ⊢;exact Ut h (by omega) d (λe3=>I (by rw[e,e3]<;>rfl)) b
theorem a4R{K:Int}(h:ks S f.toNat p.toNat i.toNat n)(a:0<=i)(V:i<p)(A:i<S.length)(I:bt S i≠45)(d:cM<=lo)(g:K<=dS)(b:10*n-(bt S i-48)<cM):dt lo K (dr S f)=none:=by
 have k:=F6 h a V A I;obtain⟨c,j,e⟩:=cF a A;have e2:bt S i-48=(c.toNat-48:Nat):=by omega
 rw[e2]at b;exact Yo h (by omega) j (λe3=>I (by rw[e,e3]<;>rfl)) d g b
theorem a0N{m K:Int}(h:ks S f.toNat p.toNat i.toNat n)(V:i=p)(a:zH S f.toNat p.toNat)(b:itoa m=sb S f p)(A:lo<=m)(I:m<=K)(c:cM<=lo)(d:K<=dS):dt lo K (dr S f)=some (m,dr S p):=by grind[a5v]
theorem a0O{m K:Int}{less:Bool}(h:ks S f.toNat p.toNat i.toNat n)(V:i=p)(b:zH S f.toNat p.toNat)(j:0<=f)(a:K7 less S f p)(em:m=if less then n else -n)(c:cM<=lo)(d:K<=dS)(e:itoa m=sb S f p->lo<=m->m<=K->False):dt lo K (dr S f)=none:=by
 subst V;have g:=h.1.1;refine a5w h b ?_ c d e;unfold K7 at a;cases less with
 |true=>exact .inl ⟨by simp at a;omega,by simpa using a.2,by simpa using em⟩
 |false=>simp only[dY,aQ]at a em;exact .inr ⟨a.imp (λh=>by omega) id,em⟩
end
end Go.Proofs.YtokipodjggomfaaGreatDoor.Txt
namespace Go.Proofs.YtokipodjggomfaaGreatDoor.Txt
open Go Go.Proofs.YtokipodjggomfaaGreatDoor.Abs Go.Lib
section
variable{X R R' e a:B}{n lo V:Int}{k:Int}{a8:Bool}{l ts:List Tm}{t:Tm}
theorem a0U(A:dt 0 aZ X=some (n,R))(I:must e R=some R'):nmb e X=some (n,R'):=by unfold nmb;rw[A];simp only[I,bX]
theorem NT(A:dt 0 aZ X=none):nmb e X=none:=by unfold nmb;rw[A]
theorem NS(A:dt 0 aZ X=some (n,R))(I:must e R=none):nmb e X=none:=by unfold nmb;rw[A];simp only[I,Option.map_none]
theorem a43(A:must a X=some R)(I:nmb e R=some (n,R')):(must a X).bind (nmb e)=some (n,R'):=by rw[A];exact I
theorem XO(A:must a X=none):(must a X).bind (nmb e)=none:=by rw[A]<;>rfl
theorem XN(A:must a X=some R)(I:nmb e R=none):(must a X).bind (nmb e)=none:=by rw[A];exact I
theorem gV:iu k e X=(nmb e X).map λx=>(.mk k x.1 [] [],x.2):=by
 unfold iu nmb;cases dt 0 aZ X with
 |none=>rfl
 |some y=>simp only;cases must e y.2<;>rfl
variable(A:must [123] X=none)(I:must [91] X=none)(W:must [39] X=none)(D:must ng X=none)(h5:must oS X=none)(h6:must uh X=none)(h7:must lG X=none)
theorem a1V(h:must [123] X=some R)(a:gA a8 (PT a8) (PR a8) [125] R=some (l,R')):PT a8 X=some (.mk 7 0 [] l,R'):=by rw[Dk h,a]<;>rfl
theorem S5(h:must [123] X=some R)(a:gA a8 (PT a8) (PR a8) [125] R=none):PT a8 X=none:=by rw[Dk h,a]<;>rfl
include A
theorem XG(h:must [91] X=some R):PT a8 X=e7 (PT a8) (PR a8) R:=a0D A h
include I
theorem XF(h:must [39] X=some R):PT a8 X=bI X:=a4J A I h
include W
theorem a1U(h:must ng X=some R)(a:nmb [62] R=some (n,R')):PT a8 X=some (.mk 3 n [] [],R'):=by rw[NC A I W h,gV,a]<;>rfl
theorem S4(h:must ng X=some R)(a:nmb [62] R=none):PT a8 X=none:=by rw[NC A I W h,gV,a]<;>rfl
include D
theorem a1T(h:must oS X=some R)(a:nmb [62] R=some (n,R')):PT a8 X=some (.mk 4 n [] [],R'):=by rw[NB A I W D h,gV,a]<;>rfl
theorem S3(h:must oS X=some R)(a:nmb [62] R=none):PT a8 X=none:=by rw[NB A I W D h,gV,a]<;>rfl
include h5
theorem a1S(h:must uh X=some R)(a:nmb Ef R=some (n,R')):PT a8 X=some (.mk 6 n [] [],R'):=by rw[ND A I W D h5 h,gV,a]<;>rfl
theorem S1(h:must uh X=some R)(a:nmb Ef R=none):PT a8 X=none:=by rw[ND A I W D h5 h,gV,a]<;>rfl
include h6
theorem a1R(h:must lG X=some R):PT a8 X=gT a8 (PR a8) R:=Xq A I W D h5 h6 h
include h7
theorem XE(h:dz X=true):PT a8 X=gb X:=by rw[QX A I W D h5 h6 h7,az h]
theorem Lh(h:dz X=false):PT a8 X=(dt cM dS X).map λx=>(.mk 1 x.1 [] [],x.2):=by rw[QX A I W D h5 h6 h7,ai (by rw[h];exact Fk)]
end
section
variable{S e:B}{p p' n v lo V:Int}{T:TypeId}{l ts:List Tm}{t:Tm}
theorem I0(a:0<=p)(A:p<S.length):dz (dr S p)=true↔Iu (bt S p):=by obtain⟨c,b,e⟩:=cF a A;show dz (S.drop p.toNat)=true↔_;rw[bO b,e];exact Ea
theorem F0(A:S.length<=p):dz (dr S p)=false:=by grind[dz,oj]
theorem Ec(a:0<=p)(A:p<S.length)(h:¬Iu (bt S p)):dz (dr S p)=false:=by
 cases b:dz (dr S p)with
 |false=>rfl
 |true=>exact absurd ((I0 a A).1 b) h
theorem Y7{c:UInt8}(h:S[p.toNat]? =some c)(d:UInt8)(l:B)(a:d≠c):must (d::l) (dr S p)=none:=by show must (d::l) (S.drop p.toNat)=none;rw[bO h];exact sw (by simp;intro e;exact absurd e.symm a)
theorem di{d:UInt8}{l:B}(a:0<=p)(A:p<S.length)(h:bt S p≠d.toNat):must (d::l) (dr S p)=none:=by grind[cF,Y7,e2]
theorem At{d:UInt8}{l R:B}(a:0<=p)(A:p<S.length)(h:must (d::l) (dr S p)=some R):bt S p=d.toNat:=by grind[bt,di]
theorem KY{d:UInt8}(a:0<=p)(A:p<S.length)(h:bt S p=d.toNat):must [d] (dr S p)=some (dr S (p+1)):=by obtain⟨c,b,e⟩:=cF a A;have:c=d:=fX.1 (by omega);subst this;exact Tl a b
theorem Sd(n:Int):∃c r,itoa n=c::r/\(c.toNat=45\/(48<=c.toNat/\c.toNat<=57)):=by
 unfold itoa;split
 .exact⟨45,_,rfl,.inl rfl⟩
 .obtain⟨c,r,h,A,I⟩:=xo n.toNat;exact⟨c,r,h,.inr ⟨A,I⟩⟩
theorem Vo(a:0<=p)(A:p<S.length)(h:bt S p≠45)(I:bt S p<48\/57<bt S p):dt lo V (dr S p)=none:=by
 cases Y:dt lo V (dr S p)with
 |none=>rfl
 |some x=>obtain⟨n,r⟩:=x;obtain⟨g1, -⟩:=jO Y;obtain⟨c,q,e1,e2⟩:=Sd n;obtain⟨d,b,e3⟩:=cF a A;have g1:S.drop p.toNat=itoa n++r:=g1;rw[bO b,e1]at g1;injection g1 with g1 _;subst g1;omega
theorem Y9(A:S.length<=p):dt lo V (dr S p)=none:=by
 cases Y:dt lo V (dr S p)with
 |none=>rfl
 |some x=>obtain⟨n,r⟩:=x;have:=ka Y;rw[eT]at this;omega
theorem OH{a8:Bool}(a:0<=p)(A:p<S.length)(h:bt S p=45\/(48<=bt S p/\bt S p<=57)):PT a8 (dr S p)=(dt cM dS (dr S p)).map λx=>(.mk 1 x.1 [] [],x.2):=by
 refine Lh (di a A ?_) (di a A ?_) (di a A ?_) (di a A ?_) (di a A ?_) (di a A ?_) (di a A ?_) (Ec a A ?_)
 all_goals first|(simp;omega)|(unfold Iu;omega)
theorem OD{a8:Bool}(a:0<=p)(A:p<S.length)(h:bt S p=39):PT a8 (dr S p)=bI (dr S p):=
 XF (di a A (by simp;omega)) (di a A (by simp;omega)) (KY a A (by simp;omega))
theorem OE{a8:Bool}(a:0<=p)(A:p<S.length)(h:97<=bt S p/\bt S p<=122):PT a8 (dr S p)=gb (dr S p):=by
 refine XE (di a A ?_) (di a A ?_) (di a A ?_) (di a A ?_) (di a A ?_) (di a A ?_) (di a A ?_) ((I0 a A).2 h)
 all_goals(simp;omega)
theorem OG{a8:Bool}(a:0<=p)(A:p<S.length)(h:bt S p=60):PT a8 (dr S p)=((must uh (dr S p)).bind (nmb Ef)).map λx=>(.mk 6 x.1 [] [],x.2):=by
 have b:must [123] (dr S p)=none:=di a A (by simp;omega);have c:must [91] (dr S p)=none:=di a A (by simp;omega);have d:must [39] (dr S p)=none:=di a A (by simp;omega);have e:must ng (dr S p)=none:=di a A (by simp;omega);have f:must oS (dr S p)=none:=di a A (by simp;omega);have i:must lG (dr S p)=none:=di a A (by simp;omega);cases g:must uh (dr S p)with
 |some R=>rw[ND b c d e f g,gV]<;>rfl
 |none=>rw[Lh b c d e f g i (Ec a A (by unfold Iu;omega))];have:dt cM dS (dr S p)=none:=Vo a A (by omega) (by omega);rw[this]<;>rfl
theorem OC{a8:Bool}{R:B}(a:0<=p)(A:p<S.length)(h:must ng (dr S p)=some R):PT a8 (dr S p)=((must ng (dr S p)).bind (nmb [62])).map λx=>(.mk 3 x.1 [] [],x.2):=by have e:=At a A h;rw[NC (di a A (by rw[e];decide)) (di a A (by rw[e];decide)) (di a A (by rw[e];decide)) h,gV,h];rfl
theorem OB{a8:Bool}{R:B}(a:0<=p)(A:p<S.length)(D:must ng (dr S p)=none)(h:must oS (dr S p)=some R):PT a8 (dr S p)=((must oS (dr S p)).bind (nmb [62])).map λx=>(.mk 4 x.1 [] [],x.2):=by have e:=At a A h;rw[NB (di a A (by rw[e];decide)) (di a A (by rw[e];decide)) (di a A (by rw[e];decide)) D h,gV,h];rfl
theorem OJ{R:B}(a:0<=p)(A:p<S.length)(D:must ng (dr S p)=none)(h5:must oS (dr S p)=none)(h:must lG (dr S p)=some R):PT false (dr S p)=va (dr S p):=by have e:=At a A h;rw[Xq (di a A (by rw[e];decide)) (di a A (by rw[e];decide)) (di a A (by rw[e];decide)) D h5 (di a A (by rw[e];decide)) h,va,h];rfl
theorem OA{a8:Bool}(a:0<=p)(A:p<S.length)(h:bt S p=123):PT a8 (dr S p)=(gA a8 (PT a8) (PR a8) [125] (dr S (p+1))).map λx=>(.mk 7 0 [] x.1,x.2):=Dk (KY a A (by rw[h]<;>rfl))
theorem OI(a:0<=p)(A:p<S.length)(h:bt S p=91):PT false (dr S p)=uj (dr S p):=by have e:=KY (d:=91) a A (by rw[h]<;>rfl);rw[XG (di a A (by rw[h];decide)) e,uj,e];rfl
theorem Jr{a8:Bool}(a:0<=p)(A:p<S.length)(b:bt S p≠45)(c:bt S p<48\/57<bt S p)(d:bt S p≠39)(h:bt S p<97\/122<bt S p)(e:bt S p≠60)(D:must ng (dr S p)=none)(h5:must oS (dr S p)=none)(h7:must lG (dr S p)=none)
  (f:bt S p≠123) (g:bt S p≠91):PT a8 (dr S p)=none:=by
 rw[Lh (di a A (by simpa using f)) (di a A (by simpa using g)) (di a A (by simpa using d)) D h5 (di a A (by simpa using e)) h7 (Ec a A (by unfold Iu;omega)),Vo a A b c];rfl
theorem OK{a8:Bool}(A:S.length<=p):PT a8 (dr S p)=none:=by rw[Lh (pQ A) (pQ A) (pQ A) (pQ A) (pQ A) (pQ A) (pQ A) (F0 A),Y9 A]<;>rfl
end
end Go.Proofs.YtokipodjggomfaaGreatDoor.Txt
namespace Go.Proofs.YtokipodjggomfaaGreatDoor.Txt
open Go Go.Proofs.YtokipodjggomfaaGreatDoor.Abs Go.Lib
section
variable{a8:Bool}{X R R' R2 R3 e:B}{n:Int}{ts l:List Tm}{t:Tm}
theorem m44(h:must [44] X=some R):X=44::R:=n5 h
theorem a06(h:must [44] X=some R)(a:PT a8 R=some (t,R')):bU a8 ts e X=bU a8 (ts++[t]) e R':=by rw[m44 h];exact MG a
theorem TP(h:must [44] X=some R)(a:PT a8 R=none):bU a8 ts e X=none:=by rw[m44 h];exact MF a
theorem a05(h:must [44] X=none)(I:must e X=some R)(a:jC a8 ts=true):bU a8 ts e X=some (ts,R):=by rw[pg h,I];simp only[a,aH]
theorem TN(h:must [44] X=none)(I:must e X=none):bU a8 ts e X=none:=by rw[pg h,I]
theorem a2d(h:must [44] X=none)(I:must e X=some R)(a:jC a8 ts=false):bU a8 ts e X=none:=by rw[pg h,I];simp[a]
theorem a0X(h:must [44] X=some R)(a:PT a8 R=some (t,R')):bo a8 ts X=bo a8 (ts++[t]) R':=by rw[m44 h];exact J8 a
theorem Tu(h:must [44] X=some R)(a:PT a8 R=none):bo a8 ts X=none:=by rw[m44 h];exact J7 a
theorem Tt(h:must [44] X=none)(I:must [124] X=some R)(a:PT a8 R=some (t,R2))(Z:t.k≠9/\t.k≠8)(W:must [93] R2=some R3):bo a8 ts X=some (bJ ts t,R3):=by grind[fR,sj]
theorem Fe(h:must [44] X=none)(I:must [124] X=some R)(a:PT a8 R=none):bo a8 ts X=none:=by rw[fR h,sj I,a]
theorem vb(h:must [44] X=none)(I:must [124] X=some R)(a:PT a8 R=some (t,R2))(Z:t.k=9\/t.k=8):bo a8 ts X=none:=by grind[fR,sj]
theorem Fc(h:must [44] X=none)(I:must [124] X=some R)(a:PT a8 R=some (t,R2))(W:must [93] R2=none):bo a8 ts X=none:=by grind[fR,sj]
theorem Tv(h:must [44] X=none)(I:must [124] X=none)(W:must [93] X=some R):bo a8 ts X=some (bJ ts pd,R):=by rw[fR h,BT I];simp only[W,bX];rfl
theorem Lp(h:must [44] X=none)(I:must [124] X=none)(W:must [93] X=none):bo a8 ts X=none:=by grind[fR,BT]
theorem NV(h:must [44] X=some R)(a:PT a8 R=some (t,R')):dH a8 n ts X=dH a8 n (ts++[t]) R':=by rw[m44 h];exact MD a
theorem A3(h:must [44] X=some R)(a:PT a8 R=none):dH a8 n ts X=none:=by rw[m44 h];exact MC a
theorem a00(h:must [44] X=none)(I:must [62] X=some R)(a:jC a8 ts=true):dH a8 n ts X=some (.mk 5 n [] ts,R):=by rw[pf h,I];simp only[a,aH]
theorem Fg(h:must [44] X=none)(I:must [62] X=none):dH a8 n ts X=none:=by rw[pf h,I]
theorem a17(h:must [44] X=none)(I:must [62] X=some R)(a:jC a8 ts=false):dH a8 n ts X=none:=by rw[pf h,I];simp[a]
theorem Ta(a:PT false X=some (t,R))(h:must [44] R=some R2):iL ts X=iL (ts++[t]) R2:=by grind[iL,PT,Tu,a0X]
theorem a0I(a:PT false X=none):iL ts X=none:=by unfold iL;rw[a]
theorem Iy(a:PT false X=some (t,R)):iL ts X=bo false (ts++[t]) R:=by unfold iL;rw[a]
theorem a2b(a:PT false X=some (t,R)):xB e ts X=bU false (ts++[t]) e R:=by unfold xB;rw[a]
theorem a03(a:PT false X=none):xB e ts X=none:=by unfold xB;rw[a]
theorem no44(a:e=[125]\/e=[62])(h:must e X=some R):must [44] X=none:=by grind[n5,Zd]
theorem a02(a:e=[125]\/e=[62])(b:PT false X=some (t,R))(h:must e R=some R2):xB e ts X=some (ts++[t],R2):=by rw[a2b b];exact a05 (no44 a h) h rfl
theorem a04(a:PT false X=some (t,R))(h:must [44] R=some R2):xB e ts X=xB e (ts++[t]) R2:=by grind[a2b,xB,PT,TP,a06]
theorem TM(a:PT false X=some (t,R))(h:must [44] R=none)(I:must e R=none):xB e ts X=none:=by rw[a2b a];exact TN h I
theorem a5f(h:must e X=none):gA false (PT false) (PR false) e X=xB e [] X:=by grind[xB,PT,GG,x3]
theorem a1W(h:must [91] X=some R)(I:must [93] R=none):uj X=iL [] R:=by grind[uj,iL,e7,PT,PR,JH,BW]
theorem a4U(h:must [91] X=some R)(I:must [93] R=some R2):uj X=some (pd,R2):=by unfold uj;rw[h];exact Es I
theorem a4T(h:must [91] X=none):uj X=none:=by unfold uj;rw[h]<;>rfl
theorem Tg(h:must lG X=none):va X=none:=by unfold va;rw[h]<;>rfl
theorem Ln(h:must lG X=some R)(A:dt 0 aZ R=none):va X=none:=by unfold va;rw[h];exact OU A
theorem Th(h:must lG X=some R)(A:dt 0 aZ R=some (n,R'))(I:must [44] R'=none)(W:must [62] R'=some R2):va X=some (.mk 5 n [] [],R2):=by unfold va;rw[h];show gT false (PR false) R=_;rw[nZ A];exact a00 I W rfl
theorem Lo(h:must lG X=some R)(A:dt 0 aZ R=some (n,R'))(I:must [44] R'=none)(W:must [62] R'=none):va X=none:=by unfold va;rw[h];show gT false (PR false) R=_;rw[nZ A];exact Fg I W
theorem UB(A:dt 0 aZ R=some (n,R'))(I:must [44] R'=some R2)(W:must [62] R2=none):gT false (PR false) R=(gA false (PT false) (PR false) [62] R2).map λx=>(.mk 5 n [] x.1,x.2):=by
 rw[nZ A];cases a:PT false R2 with
 |none=>rw[A3 I a,GG W a]<;>rfl
 |some y=>
  rw[NV (t:=y.1) (R':=y.2) I a,x3 (t:=y.1) (r:=y.2) W a];unfold dH bU;cases PR false y.2 with
  |none=>rfl
  |some z=>
   simp only[ij];cases must [62] z.2 with
   |none=>rfl
   |some q=>simp[jC]
theorem a8x(h:must [62] X=some R):PT false X=none:=by
 have e:X=62::R:=n5 h;have e2:X=dr X 0:=rfl;have b:bt X 0=62:=by rw[e]<;>rfl
 have a:(0:Int)<X.length:=by rw[e];simp
 rw[e2];exact Jr (vd 0) a (by omega) (by omega) (by omega) (by omega) (by omega) (di (vd 0) a (by rw[b];decide)) (di (vd 0) a (by rw[b];decide)) (di (vd 0) a (by rw[b];decide)) (by omega) (by omega)
theorem XH(h:must lG X=some R)(A:dt 0 aZ R=some (n,R'))(I:must [44] R'=some R2)(W:gA false (PT false) (PR false) [62] R2=some (l,R3))(a:l.length≠0):va X=some (.mk 5 n [] l,R3):=by
 unfold va;rw[h];show gT false (PR false) R=_;cases b:must [62] R2 with
 |none=>rw[UB A I b,W]<;>rfl
 |some y=>rw[wG b]at W;simp only[ar,bK]at W;rw[<-W.1]at a;exact absurd rfl a
theorem Fa(h:must lG X=some R)(A:dt 0 aZ R=some (n,R'))(I:must [44] R'=some R2)(W:gA false (PT false) (PR false) [62] R2=some (l,R3))(a:l.length=0):va X=none:=by
 unfold va;rw[h];show gT false (PR false) R=_;cases b:must [62] R2 with
 |some y=>rw[nZ A,A3 I (a8x b)]
 |none=>
  rw[a5f b]at W;unfold xB at W;cases c:PT false R2 with
  |none=>rw[c]at W;cases W
  |some y=>
   rw[c]at W;simp only[ij]at W;unfold bU at W;cases d:PR false y.2 with
   |none=>rw[d]at W;cases W
   |some z=>
    rw[d]at W;simp only at W;cases e:must [62] z.2 with
    |none=>rw[e]at W;cases W
    |some q=>rw[e]at W;simp only[jC,vh,Bool.true_or,aH,ar,bK]at W;rw[<-W.1]at a;simp at a
theorem Lm(h:must lG X=some R)(A:dt 0 aZ R=some (n,R'))(I:must [44] R'=some R2)(W:gA false (PT false) (PR false) [62] R2=none):va X=none:=by
 unfold va;rw[h];show gT false (PR false) R=_;cases a:must [62] R2 with
 |some y=>rw[wG a]at W;cases W
 |none=>rw[UB A I a,W]<;>rfl
end
theorem td:∀(a b:List Tm)(e:Tm),bJ (a++b) e=bJ a (bJ b e)
 | [],_,_=>rfl
 |t::a,b,e=>by simp only[jG,bJ,td a b e]
theorem J4{l:List Tm}{i:Nat}{t e:Tm}(h:l[i]? =some t):bJ (l.take (i+1)) e=bJ (l.take i) (.mk 9 0 [] [t,e]):=by rw[tO,h];exact td _ _ _
end Go.Proofs.YtokipodjggomfaaGreatDoor.Txt
namespace Go.Proofs.YtokipodjggomfaaGreatDoor.Txt
open Go Go.Proofs.YtokipodjggomfaaGreatDoor.Abs Go.Lib
section
variable{T:TypeId}{l ts:List Tm}{t:Tm}{e d:Dt}{n k v i:Int}{w:B}
def K1(e:Dt)(n k v:Int)(w:B)(d:Dt):Option Dt:=((((e2 (.tk 4) e (iv n)).bind λu=>e2 .sn u (iv k)).bind λu=>e2 .sn u (iv v)).bind λu=>e2 .sn u (sv w)).bind λu=>e2 .sn u d
theorem P5:(((((e2 (.tk 4) e (iv n)).bind λu=>e2 .sn u (iv k)).bind λu=>e2 .sn u (iv v)).bind λu=>e2 .sn u (sv w)).bind λu=>e2 .sn u d)=K1 e n k v w d:=rfl
theorem a5q{J:List Dt}{x:Int}(h:J.length%4=0\/J.length%4=1):e2 .sn (.ls (kT T) J) (iv x)=some (.ls (kT T) (J++[iv x])):=by unfold e2;simp only;rw[az];refine⟨.int .i64,?_,x,rfl⟩;show(kT T)[J.length%4]? =_;rcases h with h|h<;>rw[h]<;>rfl
theorem a7s{J:List Dt}{x:B}(h:J.length%4=2):e2 .sn (.ls (kT T) J) (sv x)=some (.ls (kT T) (J++[sv x])):=by unfold e2;simp only;rw[az];refine⟨.str,?_,_,rfl⟩;show(kT T)[J.length%4]? =_;rw[h]<;>rfl
theorem a7t{J:List Dt}{a:Option Addr}{n c g:Nat}{q:List Dt}(h:J.length%4=3):e2 .sn (.ls (kT T) J) (.sl (.slice a n c) T g q)=some (.ls (kT T) (J++[.sl (.slice a n c) T g q])):=by unfold e2;simp only;rw[az];refine⟨.sl T,?_,a,n,c,g,q,rfl⟩;show(kT T)[J.length%4]? =_;rw[h]<;>rfl
theorem lH{w:B}(h:rep T t [iv k,iv v,sv w,d]):t=.mk k v w t.l/\∃(a:Option Addr)(c:Nat)(J:List Dt),d=.sl (.slice a t.l.length c) T 4 J/\(a=none->t.l.length=0/\c=0)/\eF T t.l J:=by
 cases t with
 |mk k' b U l=>unfold rep at h;obtain⟨a,c,J,e,A,I⟩:=h;injection e with e0 e;injection e with e1 e;injection e with e2 e;injection e with e3 _;simp only[Dt.val.injEq,iS,fw]at e0 e1;simp only[Dt.val.injEq,tX]at e2;injection e2 with e2;injection e2 with e2;subst e0;subst e1;subst e2;exact⟨rfl,a,c,J,e3,A,I⟩
theorem nR{w:B}(h:rep T t [iv k,iv v,sv w,d]):gx T t.l d:=(lH h).2
theorem ni{w:B}(h:gx T l d):rep T (.mk k v w l) [iv k,iv v,sv w,d]:=by obtain⟨a,c,J,rfl,A,I⟩:=h;unfold rep;exact⟨a,c,J,rfl,A,I⟩
theorem sn4{J:List Dt}(h:rep T t [iv k,iv v,sv w,d])(D:J.length%4=0):((((e2 .sn (.ls (kT T) J) (iv k)).bind λu=>e2 .sn u (iv v)).bind λu=>e2 .sn u (sv w)).bind λu=>e2 .sn u d)=some (.ls (kT T) (J++[iv k,iv v,sv w,d])):=by obtain⟨-,a,c,q,rfl, -, -⟩:=lH h;rw[a5q (.inl D)];simp only[aW];rw[a5q (.inr (by rw[bL];simp;omega))];simp only[aW];rw[a7s (by simp;omega)];simp only[aW];rw[a7t (by simp;omega)];simp
theorem lD(f:dU T l n e)(h:rep T t [iv k,iv v,sv w,d]):∃a,K1 e n k v w d=some a/\dU T (l++[t]) (n+1) a:=by
 obtain⟨J,rfl,rfl,b⟩:=f;have c:=jb b;have g:e2 (.tk 4) (.ls (kT T) J) (iv l.length)=some (.ls (kT T) J):=by show(if l.length*4<=J.length then some (Dt.ls (kT T) (J.take (l.length*4)))else none)=_;rw[az (by omega),fv (by omega)]
 unfold K1;rw[g];simp only[aW];refine⟨_,sn4 h (by omega),_,rfl,?_,Rn b h⟩;rw[bL];simp
theorem a01(h:rep T t [iv k,iv v,sv w,d]):∃a,((((e2 .sn (.ls (kT T) []) (iv k)).bind λu=>e2 .sn u (iv v)).bind λu=>e2 .sn u (sv w)).bind λu=>e2 .sn u d)=some a/\dU T [t] 1 a:=by refine⟨_,sn4 h rfl,_,rfl,rfl,?_⟩;exact vY h
def frz(T:TypeId)(d e:Dt)(n:Int):Prop:=∃(a:Addr)(k c:Nat)(P:List Kd)(J:List Dt),d=.sl (.slice (some a) k c) T 4 (J.take (k*4))/\e=.ls P J/\n=k/\k*4<=J.length
theorem iB(i:frz T d e n)(j:dU T l n e):gx T l d:=by
 obtain⟨a,k,c,P,J,rfl,m,rfl,Z⟩:=i;obtain⟨j7,e1,e2,f⟩:=j;rw[m]at e1;injection e1 with _ e1;subst e1;have g:=jb f;have b:k=l.length:=by omega
 subst b;exact⟨some a,c,_,rfl,(λh=>by cases h),by rw[fv (by omega)];exact f⟩
theorem HC:eI T 4=pS [.d,.d,.i] (frz T):=by
 funext l;apply propext;constructor
 .rintro⟨a,k,c,P,J,rfl,b⟩;exact⟨_,_,rfl,_,_,rfl,_,_,rfl,rfl,a,k,c,P,J,rfl,rfl,rfl,b⟩
 .rintro⟨_,_,rfl,_,_,rfl,_,_,rfl,rfl,a,k,c,P,J,rfl,rfl,rfl,b⟩;exact⟨a,k,c,P,J,rfl,b⟩
theorem iQ:gx T [] (.sl (.slice none 0 0) T 4 []):=⟨none,0,[],rfl,λ_=>⟨rfl,rfl⟩,by unfold eF;rfl⟩
theorem UE(h:gx T l d):e1 .len d=some (iv l.length):=by obtain⟨a,c,J,rfl, -, -⟩:=h;rfl
def iz(d:Dt)(i:Int)(j:Nat):Option Dt:=(e2 .el d (iv i)).bind (e1 (.ld j))
theorem ZL{j:Nat}:((e2 .el d (iv i)).bind (e1 (.ld j)))=iz d i j:=rfl
theorem Jf{c:List Dt}(h:rep T t c):∃(k v:Int)(w:B)(d:Dt),c=[iv k,iv v,sv w,d]/\t=.mk k v w t.l:=by
 cases t with
 |mk k v w l=>unfold rep at h;obtain⟨a,c,J,rfl, -, -⟩:=h;exact⟨k,v,w,_,rfl,rfl⟩
theorem XP(h:gx T l d)(m:0<=i)(A:i<l.length):∃(t:Tm)(k v:Int)(w:B)(d':Dt),l[i.toNat]? =some t/\iz d i 0=some (iv k)/\iz d i 1=some (iv v)/\iz d i 2=some (sv w)/\iz d i 3=some d'/\rep T t [iv k,iv v,sv w,d']:=by
 obtain⟨q,rfl⟩:=et m;have f:q<l.length:=by omega
 obtain⟨a,c,J,rfl,n,o⟩:=h;have b:l[q]? =some l[q]:=dw f;obtain⟨cs,g,p⟩:=BD o q l[q] b;obtain⟨k,v,w,d',rfl, -⟩:=Jf g;cases a with
 |none=>have:=(n rfl).1;omega
 |some a=>
  have key:∀j x,[iv k,iv v,sv w,d'][j]? =some x->iz (.sl (.slice (some a) l.length c) T 4 J) (q:Int) j=some x:=λj x r=>by
   have:=p j x r;unfold iz;have e:e2 .el (.sl (.slice (some a) l.length c) T 4 J) (iv (q:Int))=some (.pt (.pointer (some ⟨a.block,a.off+q*4,none⟩)) T 4 J (q*4) 0):=by show(if q<l.length then _ else none)=_;rw[az f]
   rw[e];show J[q*4+0+j]? =some x;rw[hx];exact this
  exact⟨l[q],k,v,w,d',b,key 0 _ rfl,key 1 _ rfl,key 2 _ rfl,key 3 _ rfl,g⟩
theorem a7m(h:dU T l n e)(d:0<=i)(A:i<l.length):∃(t:Tm)(k v:Int)(w:B)(d':Dt),l[i.toNat]? =some t/\e2 (.at 4 0) e (iv i)=some (iv k)/\e2 (.at 4 1) e (iv i)=some (iv v)/\e2 (.at 4 2) e (iv i)=some (sv w)/\e2 (.at 4 3) e (iv i)=some d'/\rep T t [iv k,iv v,sv w,d']:=by
 obtain⟨q,rfl⟩:=et d;have f:q<l.length:=by omega
 obtain⟨J,rfl, -,g⟩:=h;have a:l[q]? =some l[q]:=dw f;obtain⟨cs,c,b⟩:=BD g q l[q] a;obtain⟨k,v,w,d',rfl, -⟩:=Jf c;exact⟨l[q],k,v,w,d',a,b 0 _ rfl,b 1 _ rfl,b 2 _ rfl,b 3 _ rfl,c⟩
theorem cZ{l O:List Tm}{m m':Int}(h:dU T l m e)(a:dU T O m' e):l=O:=by obtain⟨J,rfl, -,A⟩:=h;obtain⟨j7,e1, -,I⟩:=a;injection e1 with _ e1;subst e1;exact vZ A I
theorem eA{l O:List Tm}(h:gx T l d)(b:gx T O d):l=O:=by obtain⟨a,c,J,rfl, -,A⟩:=h;obtain⟨a',c',j7,e1, -,I⟩:=b;injection e1 with _ _ _ e1;subst e1;exact vZ A I
variable{K:TypeId->List Kd}
mutual
theorem UC(b:K T=kT T):∀{t:Tm}{ds:List Dt}(j:Nat),rep T t ds->Dt.jx K (kT T) (4*j) ds
 | .mk k n s l,ds,j,h=>by
   unfold rep at h;obtain⟨a,c,J,rfl,f,d⟩:=h;have e:=F9 b 0 d;have m0:(kT T)[4*j%4]? =some (.int .i64):=by rw[show 4*j%4=0 by omega]<;>rfl
   have m1:(kT T)[(4*j+1)%4]? =some (.int .i64):=by rw[show(4*j+1)%4=1 by omega]<;>rfl
   have m2:(kT T)[(4*j+1+1)%4]? =some .str:=by rw[show(4*j+1+1)%4=2 by omega]<;>rfl
   have m3:(kT T)[(4*j+1+1+1)%4]? =some (.sl T):=by rw[show(4*j+1+1+1)%4=3 by omega]<;>rfl
   refine⟨⟨_,m0,k,rfl⟩,rfl,⟨_,m1,n,rfl⟩,rfl,⟨_,m2,_,rfl⟩,rfl,⟨_,m3,a,_,c,4,J,rfl⟩,?_,dB⟩;cases a with
   |none=>obtain⟨A,I⟩:=f rfl;have W:=jb d;refine .inl ⟨by rw[A,I],A6 (by omega)⟩
   |some a=>exact .inr ⟨by rw[b]<;>rfl,⟨a,_,c,rfl,jb d⟩,by rw[b];exact e⟩
theorem F9(a:K T=kT T):∀{l:List Tm}{J:List Dt}(j:Nat),eF T l J->Dt.jx K (kT T) (4*j) J
 | [],J,j,h=>by unfold eF at h;subst h;trivial
 |t::l,J,j,h=>by
  unfold eF at h;obtain⟨c,r,rfl,A,I⟩:=h;have W:=UC a j A;have D:=F9 a (j+1) I;have h5:=lf A
  match c,h5,W with
  | [f,g,i,k],_,W=>obtain⟨a0,b0,a1,b,a2,d,a3,e, -⟩:=W;refine⟨a0,b0,a1,b,a2,d,a3,e,?_⟩;rw[show 4*j+1+1+1+1=4*(j+1) by omega];exact D
end
end
section
variable{K:TypeId->List Kd}{T:TypeId}{b:Bool}{N:Nat}
theorem HE:lU=pS [.s] λS=>S.length<4294967281:=by
 funext l;apply propext;constructor
 .rintro⟨s,rfl,h⟩;exact⟨s.data.toList,_,rfl,rfl,h⟩
 .rintro⟨S,_,rfl,rfl,h⟩;exact⟨⟨⟨S⟩⟩,rfl,h⟩
theorem gF:U1 b=pS [.s,.s] λS X=>contains S X=b:=by
 funext l;apply propext;constructor
 .rintro⟨s,t,rfl,h⟩;exact⟨s.data.toList,_,rfl,t.data.toList,_,rfl,rfl,h⟩
 .rintro⟨S,_,rfl,X,_,rfl,rfl,h⟩;exact⟨⟨⟨S⟩⟩,⟨⟨X⟩⟩,rfl,h⟩
theorem AM:JK=pS [.s,.s,.s,.s] λS X u v=>cut S X=(u,v,true):=by
 funext l;apply propext;constructor
 .rintro⟨s,t,u,v,rfl,h⟩;exact⟨s.data.toList,_,rfl,t.data.toList,_,rfl,u.data.toList,_,rfl,v.data.toList,_,rfl,rfl,h⟩
 .rintro⟨S,_,rfl,X,_,rfl,u,_,rfl,v,_,rfl,rfl,h⟩;exact⟨⟨⟨S⟩⟩,⟨⟨X⟩⟩,⟨⟨u⟩⟩,⟨⟨v⟩⟩,rfl,h⟩
theorem AN:JL=pS [.s,.s] λS X=>cut S X=(S,[],false):=by
 funext l;apply propext;constructor
 .rintro⟨s,t,rfl,h⟩;exact⟨s.data.toList,_,rfl,t.data.toList,_,rfl,rfl,h⟩
 .rintro⟨S,_,rfl,X,_,rfl,rfl,h⟩;exact⟨⟨⟨S⟩⟩,⟨⟨X⟩⟩,rfl,h⟩
theorem Ax:Et=pS [.s,.u,.i] λS c n=>n=indexByte S c.toNat.toUInt8:=by
 funext l;apply propext;constructor
 .rintro⟨s,c,n,rfl,h⟩;exact⟨s.data.toList,_,rfl,c,_,rfl,n,_,rfl,rfl,h⟩
 .rintro⟨S,_,rfl,c,_,rfl,n,_,rfl,rfl,h⟩;exact⟨⟨⟨S⟩⟩,c,n,rfl,h⟩
theorem Ht:qR=pS [.i] λn=> -9223372036854775808<=n/\n<=9223372036854775807:=by
 funext l;apply propext;constructor
 .rintro⟨n,rfl,h⟩;exact⟨n,_,rfl,rfl,h⟩
 .rintro⟨n,_,rfl,rfl,h⟩;exact⟨n,rfl,h⟩
theorem Aw:kb=pS [.i,.s] λn S=>S=itoa n:=by
 funext l;apply propext;constructor
 .rintro⟨n,s,rfl,h⟩;exact⟨n,_,rfl,s.data.toList,_,rfl,rfl,h⟩
 .rintro⟨n,_,rfl,S,_,rfl,rfl,h⟩;exact⟨n,⟨⟨S⟩⟩,rfl,h⟩
theorem AR:kc=pS [.s,.i] λS n=>atoiAll S=.ok n:=by
 funext l;apply propext;constructor
 .rintro⟨s,n,rfl,h⟩;exact⟨s.data.toList,_,rfl,n,_,rfl,rfl,h⟩
 .rintro⟨S,_,rfl,n,_,rfl,rfl,h⟩;exact⟨⟨⟨S⟩⟩,n,rfl,h⟩
theorem xA:gz=pS [.s] λS=>∀n,atoiAll S≠.ok n:=by
 funext l;apply propext;constructor
 .rintro⟨s,rfl,h⟩;exact⟨s.data.toList,_,rfl,rfl,h⟩
 .rintro⟨S,_,rfl,rfl,h⟩;exact⟨⟨⟨S⟩⟩,rfl,h⟩
def T3(K:TypeId->List Kd)(T:TypeId)(N:Nat)(a b c d:Dt):Prop:=kO K T N [a,b,c,d]
theorem Af:kO K T N=pS [.d,.d,.d,.d] (T3 K T N):=by
 funext l;apply propext;constructor
 .intro h
  match l,h.1 with
  | [a,b,c,d],_=>exact⟨a,_,rfl,b,_,rfl,c,_,rfl,d,_,rfl,rfl,h⟩
 .rintro⟨a,_,rfl,b,_,rfl,c,_,rfl,d,_,rfl,rfl,h⟩;exact h
theorem vQ:lT=pS [.d,.d,.d,.d] xF:=by
 funext l;apply propext;constructor
 .rintro⟨a,b,c,d,rfl,h⟩;exact⟨a,_,rfl,b,_,rfl,c,_,rfl,d,_,rfl,rfl,h⟩
 .rintro⟨a,_,rfl,b,_,rfl,c,_,rfl,d,_,rfl,rfl,h⟩;exact⟨a,b,c,d,rfl,h⟩
theorem WT{t:Tm}{k v:Int}{w:B}{d:Dt}(a:K T=kT T)(h:rep T t [iv k,iv v,sv w,d])(b:4*t.words<N):T3 K T N (iv k) (iv v) (sv w) d:=
 UD h (by rw[a];exact UC a 0 h) b
end
section
variable{t:Tm}{l:List Tm}
theorem CH:t.fits=true↔y6 t/\dQ t.l=true:=by
 cases t with
 |mk k n s l=>simp only[Tm.fits,y6,Tm.k,Tm.l,aw,fW,nc]
theorem M3{i:Nat}{u:Tm}(h:dQ (l.take i)=true)(c:l[i]? =some u)(d:u.fits=true):dQ (l.take (i+1))=true:=by
 rw[tO,c];have key:∀a b:List Tm,dQ (a++b)=(dQ a&&dQ b):=by
  intro a b;induction a with
  |nil=>rfl
  |cons x a e=>simp only[jG,dQ,e,Bool.and_assoc]
 rw[key,h];simp[dQ,d]
theorem V6{i:Nat}{u:Tm}(a:l[i]? =some u)(b:u.fits=false):dQ l=false:=by
 induction l generalizing i with
 |nil=>cases a
 |cons x l c=>
  cases i with
  |zero=>simp only[cr,ar]at a;subst a;simp[dQ,b]
  |succ i=>simp[dQ,c (i:=i) (by simpa using a)]
theorem IA{i:Nat}{u:Tm}(c:l[i]? =some u):cA (l.take (i+1))=cA (l.take i)+u.words:=by
 rw[tO,c];have key:∀a b:List Tm,cA (a++b)=cA a+cA b:=by
  intro a b;induction a with
  |nil=>simp[cA]
  |cons x a d=>simp only[jG,cA,d];omega
 rw[key];simp[cA]
theorem a2t:t.size=1+sizes t.l:=by cases t;rfl
theorem a5h(h:t.wf):jx t.l:=by cases t;unfold Tm.wf at h;exact h.2
theorem Q3{k n:Int}{s:B}{m:List Tm}(h:(Tm.mk k n s m).wf):wf1 k n s m.length:=by unfold Tm.wf at h;exact h.1
theorem tZ:cA []=0:=rfl
theorem Vn{k n:Int}{s:B}{m:List Tm}(h:(Tm.mk k n s m).wf)(Z:k≠5/\k≠7/\k≠9):m=[]:=by have:=Q3 h;unfold wf1 at this;exact A6 (by omega)
end
section
variable{S:B}{i n p:Int}{nm:B}{l:List Tm}{t:Tm}
theorem TG:Im S 0:=λi h=>by omega
theorem a19(h:Im S i.toNat)(b:0<=i)(A:i<S.length)(I:bt S i≠32):Im S (i+1).toNat:=λj a=>by
 rw[show(i+1).toNat=i.toNat+1 by omega]at a;rcases cV j i.toNat with W|W
 .exact h j W
 .obtain rfl:j=i.toNat:=by omega
  intro e;exact I (zk e)
theorem a18(h:Im S i.toNat)(a:0<=i)(A:i<S.length)(I:bt S i=32):cut S [32]=(S.take i.toNat,S.drop (i+1).toNat,true):=by obtain⟨c,b,e⟩:=cF a A;have:c=32:=fX.1 (by rw[show(32:UInt8).toNat=32 from rfl];omega);subst this;rw[show(i+1).toNat=i.toNat+1 by omega];exact a3B h b
theorem a2a(h:Im S i.toNat)(A:S.length<=i):cut S [32]=(S,[],false):=WA λj a=>h j (by omega)
theorem a41(h:∀c∈S.take i.toNat,digit c=true)(a:0<=i)(A:i<S.length)(I:48<=bt S i)(W:bt S i<=57):(∀c∈S.take (i+1).toNat,digit c=true)/\(val (S.take (i+1).toNat):Int)=10*val (S.take i.toNat)+(bt S i-48):=by
 obtain⟨c,b,e⟩:=cF a A;rw[show(i+1).toNat=i.toNat+1 by omega,nL b,vH];refine⟨λx Y=>?_,by omega⟩;rcases iR.1 Y with Y|Y
 .exact h x Y
 .obtain rfl:=zT.1 Y;exact ey.2 (by omega)
theorem a42(a:0<=i)(A:i<S.length)(h:bt S i<48\/57<bt S i):qe S=none:=by
 obtain⟨c,b,e⟩:=cF a A;cases Y:qe S with
 |none=>rfl
 |some n=>have:=ey.1 ((nY Y).2.1 c (vy b));omega
theorem a16:qe []=none:=by
 cases Y:qe []with
 |none=>rfl
 |some n=>exact absurd rfl (nY Y).1
theorem TY:∀(l:B),(∀c∈l,digit c=true)->l[0]? ≠some 48->l≠[]->10^(l.length-1)<=val l:=by
 intro l g d b
 match l,b with
 |c::r,_=>
  have f:=g c aV;have j:=N3 r f (λe=>d (by simp[e]));have key:∀(r:B)(a m:Nat),10^m<=a->10^(m+r.length)<=r.foldl (λa c=>a*10+(c.toNat-48)) a:=by
   intro r;induction r with
   |nil=>intro a m h;simpa using h
   |cons x r i=>intro a m h;have:=i (a*10+(x.toNat-48)) (m+1) (by rw[Nat.pow_succ];omega);rw[bZ,show m+(r.length+1)=m+1+r.length by omega];exact this
  have A:1<=0*10+(c.toNat-48):=by
   have:=ey.1 f;have:c.toNat≠48:=λe=>d (by simp only[cr];rw[show c=48 from fX.1 e])
   omega
  have:=key r (0*10+(c.toNat-48)) 0 (by simpa using A);simpa[val]using this
theorem a15(h:10<S.length):qe S=none:=by
 cases Y:qe S with
 |none=>rfl
 |some n=>obtain⟨A,I,W,D,h5⟩:=nY Y;have h6:=TY S I (W.resolve_left (by omega)) A;have h7:10^10<=10^(S.length-1):=Fp (by decide) (by omega);unfold aZ at h5;omega
theorem a14(h:1<S.length)(I:bt S 0=48):qe S=none:=by
 obtain⟨c,a,e⟩:=cF (S:=S) (p:=0) (vd 0) (by omega);cases Y:qe S with
 |none=>rfl
 |some n=>have:=(nY Y).2.2.1.resolve_left (by omega);refine absurd ?_ this;have:c=48:=fX.1 (by rw[show(48:UInt8).toNat=48 from rfl];omega);rw[<-this];exact a
theorem a4Z(A:S≠[])(I:∀c∈S.take i.toNat,digit c=true)(W:S.length=1\/S[0]? ≠some 48)(V:S.length<=i)(a:n=val (S.take i.toNat))(D:n<=aZ):qe S=some n:=by rw[fv (by omega)]at I a;subst a;exact YV A I W D
theorem a13(I:∀c∈S.take i.toNat,digit c=true)(V:S.length<=i)(a:n=val (S.take i.toNat))(D:aZ<n):qe S=none:=by
 rw[fv (by omega)]at I a;cases Y:qe S with
 |none=>rfl
 |some m=>obtain⟨-, -, -,g1,g2⟩:=nY Y;omega
theorem a0H:da S 0:=λi h=>by omega
theorem S7(h:da S i.toNat)(b:0<=i)(A:i<S.length)(I:bt S i≠32):da S (i+1).toNat:=by rw[show(i+1).toNat=i.toNat+1 by omega];exact wO h λnm l a=>I (zk a.1)
theorem NI(h:da S i.toNat)(c:0<=i)(a:∀nm l,rd (S.take i.toNat)=some (.mk 2 0 nm [])->rd (S.drop (i+1).toNat)=some (bJ l pd)->False):da S (i+1).toNat:=by rw[show(i+1).toNat=i.toNat+1 by omega]at a ⊢;exact wO h λnm l b=>a nm l b.2.1 b.2.2
theorem S6(h:da S i.toNat)(a:0<=i)(A:i<S.length)(I:bt S i=32)(W:rd (S.take i.toNat)=some (.mk 2 0 nm []))(D:rd (S.drop (i+1).toNat)=some (bJ l pd)):jZ S nm l:=by obtain⟨c,b,e⟩:=cF a A;have:c=32:=fX.1 (by rw[show(32:UInt8).toNat=32 from rfl];omega);subst this;rw[show(i+1).toNat=i.toNat+1 by omega]at D;exact⟨i.toNat,h,b,W,D⟩
theorem S8(h:da S i.toNat)(V:S.length<=i):da S S.length:=λj a=>h j (by omega)
end
end Go.Proofs.YtokipodjggomfaaGreatDoor.Txt
