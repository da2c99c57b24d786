/- Single calls that the statement 'EvalSums' of 'YtjioppomopfifaaGreatDoor' makes: what each reads and what it leaves, by runs of the abstract machine in the kernel. No condition. -/
import Derived.Test.YtjioppomopfifaaGreatDoorEvalSumsRun1
namespace Go.Proofs.YtjioppomopfifaaGreatDoor
set_option maxRecDepth 100000
noncomputable def tN:Abs.iL:=⟨[(aeA [45,109,111,100,117,108,101,40,109,41,46,32,115,40,48,41,32,45,62,32,48,59,32,115,40,78,41,32,119,104,101,110,32,78,32,62,32,48,32,45,62,32,78,32,43,32,115,40,78,32,45,32,49,41,46])],2377,[(1,fU),(2,fQ),(3,fO)],(.ou [(.gQ 2553 0 0 31 4),(.agg [(aez 0),(aez 0)])]),2554,[(2553,Aq)]⟩
noncomputable def LQ:List (FuncId×Abs.iL):=[]
noncomputable def xJ:Abs.Ctx:=Abs.mkCtx Tryz.prog (fun _=>false) dM LQ
theorem Qw:Abs.Good xJ:=Abs.jq (Abs.iK (M:=LQ) trivial) aB aK (Abs.bG dG)
theorem SI:Abs.R.res (fun _=>true) ((Abs.jv xJ (Abs.dS xJ 1000000) 33 tN.args .normal none tN.S).bind (Abs.qX (Abs.gY tN)))=some []:=by kernel_rfl
theorem WL:Abs.jC Tryz.prog 33 tN:=Abs.kR (C:=xJ) Qw aC 1000000 (by kernel_rfl) SI (fun _ h=>by cases h)
noncomputable def mY:Abs.MB:=(.cells 71 [(aez 3),(aez 0),(aez 14),(aeA [88]),.aW] 0 false false)
noncomputable def mX:Abs.MB:=(.cells 71 [(aez 3),(aez 0),(aez 22),(aeA [88]),.aW] 0 false false)
noncomputable def qJ:Abs.MB:=(.cells 71 [(aez 7),(aez 0),(aez 20),(aeA [103]),(.sl 352 0 1 1),(aez 1),(aez 1),(aez 27),aeB,.aW] 0 false false)
noncomputable def qI:Abs.MB:=(.cells 71 [(aez 10),(aez 0),(aez 20),(aeA [43]),(.sl 369 0 2 2)] 0 false false)
noncomputable def qH:Abs.MB:=(.cells 71 [(aez 22),(aez 0),(aez 14),aeB,(.sl 308 0 1 1),(aez 23),(aez 0),(aez 0),aeB,.aW,(aez 20),(aez 0),(aez 20),aeB,(.sl 374 0 1 1)] 0 false false)
noncomputable def qG:Abs.MB:=(.cells 71 [(aez 21),(aez 0),(aez 12),aeB,(.sl 377 0 3 3)] 0 false false)
noncomputable def kW:Abs.MB:=(.cells 71 [(aez 1),(aez 0),(aez 32),aeB,.aW] 0 false false)
noncomputable def kV:Abs.MB:=(.cells 71 [(aez 1),(aez 0),(aez 38),aeB,.aW] 0 false false)
noncomputable def qF:Abs.MB:=(.cells 71 [(aez 22),(aez 0),(aez 32),aeB,(.sl 409 0 1 1),(aez 23),(aez 0),(aez 0),aeB,.aW,(aez 20),(aez 0),(aez 38),aeB,(.sl 439 0 1 1)] 0 false false)
noncomputable def kS:Abs.MB:=(.cells 71 [(aez 3),(aez 0),(aez 43),(aeA [88]),.aW] 0 false false)
noncomputable def jK:Abs.MB:=(.cells 71 [(aez 3),(aez 0),(aez 49),(aeA [88]),.aW,(aez 2),(aez 0),(aez 53),(aeA [104,105]),.aW] 0 false false)
noncomputable def mW:Abs.MB:=(.cells 71 [(aez 3),(aez 0),(aez 65),(aeA [89]),.aW] 0 false false)
noncomputable def mV:Abs.MB:=(.cells 71 [(aez 3),(aez 0),(aez 70),(aeA [89]),.aW] 0 false false)
noncomputable def mQ:Abs.MB:=(.cells 71 [(aez 22),(aez 0),(aez 65),aeB,(.sl 563 0 1 1),(aez 23),(aez 0),(aez 0),aeB,.aW,(aez 20),(aez 0),(aez 70),aeB,(.sl 593 0 1 1)] 0 false false)
noncomputable def mP:Abs.MB:=(.cells 71 [(aez 7),(aez 0),(aez 83),(aeA [115,101,108,102]),.aW] 0 false false)
noncomputable def mO:Abs.MB:=(.cells 71 [(aez 21),(aez 0),(aez 65),aeB,(.sl 596 0 3 3),(aez 1),(aez 5),(aez 78),aeB,.aW,(aez 20),(aez 0),(aez 83),aeB,(.sl 645 0 1 1)] 0 false false)
noncomputable def mM:Abs.MB:=(.cells 71 [(aez 15),(aez 0),(aez 49),aeB,(.sl 524 0 2 2),(aez 18),(aez 1),(aez 57),aeB,(.gQ 649 0 0 3 5)] 0 false false)
noncomputable def qE:Abs.MB:=(.cells 71 [(aez 22),(aez 0),(aez 43),aeB,(.sl 467 0 1 1),(aez 23),(aez 0),(aez 0),aeB,.aW,(aez 20),(aez 0),(aez 49),aeB,(.gQ 658 0 0 2 5)] 0 false false)
noncomputable def qC:Abs.MB:=(.cells 71 [(aez 21),(aez 0),(aez 30),aeB,(.sl 442 0 3 3),(aez 21),(aez 0),(aez 41),aeB,(.sl 661 0 3 3)] 0 false false)
noncomputable def qB:Abs.MB:=(.cells 65 [(aeA [102]),(aez 1),(aez 12),(aez 0),.aW,(.gQ 380 0 0 1 5),(aeA [103]),(aez 1),(aez 30),(aez 0),.aW,(.gQ 664 0 0 2 5)] 0 false false)
noncomputable def IY:Abs.MB:=(.cells 99 [(aeA [109]),(.gQ 667 0 0 2 6),.aW] 0 false false)
noncomputable def Ap:Abs.MB:=(.map [] 0)
noncomputable def Xo:Abs.MB:=(.cells 176 [(.iY 1781),.iW,.aW,(aez 0)] 0 false false)
noncomputable def Xn:Abs.MB:=(.map [⟨(aeA [88]),(aez 0),0⟩,⟨(aeA [89]),(aez 1),1⟩] 2)
noncomputable def Xm:Abs.MB:=(.cells 176 [(.iY 1781),.iW,.aW,(aez 2)] 0 false false)
noncomputable def IX:Abs.MB:=(.cells 71 [(aez 22),(aez 0),(aez 32),aeB,(.gQ 1794 0 0 1 5),(aez 23),(aez 0),(aez 0),aeB,.aW,(aez 20),(aez 0),(aez 38),aeB,(.gQ 1804 0 0 1 5)] 0 false false)
noncomputable def IW:Abs.MB:=(.cells 71 [(aez 3),(aez 1),(aez 65),(aeA [89]),.aW] 0 false false)
noncomputable def IV:Abs.MB:=(.cells 71 [(aez 3),(aez 1),(aez 70),(aeA [89]),.aW] 0 false false)
noncomputable def IU:Abs.MB:=(.cells 71 [(aez 22),(aez 0),(aez 65),aeB,(.gQ 1872 0 0 1 5),(aez 23),(aez 0),(aez 0),aeB,.aW,(aez 20),(aez 0),(aez 70),aeB,(.gQ 1883 0 0 1 5)] 0 false false)
noncomputable def IQ:Abs.MB:=(.cells 71 [(aez 7),(.int .i64 (.negSucc 0)),(aez 83),(aeA [115,101,108,102]),.aW] 0 false false)
noncomputable def IL:Abs.MB:=(.cells 71 [(aez 21),(aez 0),(aez 65),aeB,(.sl 1891 0 3 3),(aez 1),(aez 5),(aez 78),aeB,.aW,(aez 20),(aez 0),(aez 83),aeB,(.gQ 1949 0 0 1 5)] 0 false false)
noncomputable def IK:Abs.MB:=(.cells 71 [(aez 15),(aez 0),(aez 49),aeB,(.gQ 1850 0 0 2 5),(aez 18),(aez 1),(aez 57),aeB,(.gQ 1954 0 0 3 5)] 0 false false)
noncomputable def IJ:Abs.MB:=(.cells 71 [(aez 22),(aez 0),(aez 43),aeB,(.gQ 1829 0 0 1 5),(aez 23),(aez 0),(aez 0),aeB,.aW,(aez 20),(aez 0),(aez 49),aeB,(.gQ 1973 0 0 2 5)] 0 false false)
noncomputable def II:Abs.MB:=(.cells 71 [(aez 21),(aez 0),(aez 30),aeB,(.sl 1812 0 3 3),(aez 21),(aez 0),(aez 41),aeB,(.sl 1981 0 3 3)] 0 false false)
noncomputable def tK:Abs.iL:=⟨[(.ptr 1701 0),(.ptr 1782 0),(.gQ 664 0 0 2 5),(aez 1),(.iY 1783),(.bool false)],1784,[(1,fU),(2,fQ),(3,fO),(308,mY),(352,mX),(369,qJ),(374,qI),(377,qH),(380,qG),(409,kW),(439,kV),(442,qF),(467,kS),(524,jK),(563,mW),(593,mV),(596,mQ),(645,mP),(649,mO),(658,mM),(661,qE),(664,qC),(667,qB),(1701,IY),(1781,Ap),(1782,Xo),(1783,Ap)],(.gQ 1985 0 0 2 5),1986,[(308,mY),(352,mX),(369,qJ),(374,qI),(377,qH),(380,qG),(409,kW),(439,kV),(442,qF),(467,kS),(524,jK),(563,mW),(593,mV),(596,mQ),(645,mP),(649,mO),(658,mM),(661,qE),(664,qC),(667,qB),(1701,IY),(1781,Xn),(1782,Xm),(1783,Ap),(1794,kW),(1804,kV),(1812,IX),(1829,kS),(1850,jK),(1872,IW),(1883,IV),(1891,IU),(1949,IQ),(1954,IL),(1973,IK),(1981,IJ),(1985,II)]⟩
noncomputable def LP:List (FuncId×Abs.iL):=[]
noncomputable def xI:Abs.Ctx:=Abs.mkCtx Tryz.prog (fun _=>false) dM LP
theorem Qv:Abs.Good xI:=Abs.jq (Abs.iK (M:=LP) trivial) aB aK (Abs.bG dG)
theorem SH:Abs.R.res (fun _=>true) ((Abs.jv xI (Abs.dS xI 1000000) 108 tK.args .normal none tK.S).bind (Abs.qX (Abs.gY tK)))=some []:=by kernel_rfl
theorem WJ:Abs.jC Tryz.prog 108 tK:=Abs.kR (C:=xI) Qv aC 1000000 (by kernel_rfl) SH (fun _ h=>by cases h)
noncomputable def mJ:Abs.MB:=(.cells 109 [(aez 5),(aez 0),(aez 0),(aeA [45]),(aez 2),(aez 0),(aez 0),(aeA [109,111,100,117,108,101]),(aez 5),(aez 0),(aez 0),(aeA [40]),(aez 2),(aez 0),(aez 0),(aeA [109]),(aez 5),(aez 0),(aez 0),(aeA [41]),(aez 6),(aez 0),(aez 0),aeB,(aez 2),(aez 0),(aez 0),(aeA [102]),(aez 5),(aez 0),(aez 0),(aeA [40]),(aez 3),(aez 0),(aez 0),(aeA [88]),(aez 5),(aez 0),(aez 0),(aeA [41]),(aez 5),(aez 0),(aez 0),(aeA [45,62]),(aez 2),(aez 0),(aez 0),(aeA [103]),(aez 5),(aez 0),(aez 0),(aeA [40]),(aez 3),(aez 0),(aez 0),(aeA [88]),(aez 5),(aez 0),(aez 0),(aeA [41]),(aez 5),(aez 0),(aez 0),(aeA [43]),(aez 1),(aez 1),(aez 0),aeB,(aez 6),(aez 0),(aez 0),aeB,(aez 2),(aez 0),(aez 0),(aeA [103]),(aez 5),(aez 0),(aez 0),(aeA [40]),(aez 1),(aez 0),(aez 0),aeB,(aez 5),(aez 0),(aez 0),(aeA [41]),(aez 5),(aez 0),(aez 0),(aeA [45,62]),(aez 1),(aez 0),(aez 0),aeB,(aez 5),(aez 0),(aez 0),(aeA [59]),(aez 2),(aez 0),(aez 0),(aeA [103]),(aez 5),(aez 0),(aez 0),(aeA [40]),(aez 3),(aez 0),(aez 0),(aeA [88]),(aez 5),(aez 0),(aez 0),(aeA [41]),(aez 5),(aez 0),(aez 0),(aeA [45,62]),(aez 3),(aez 0),(aez 0),(aeA [88]),(aez 5),(aez 0),(aez 0),(aeA [33]),(aez 2),(aez 0),(aez 0),(aeA [104,105]),(aez 5),(aez 0),(aez 0),(aeA [44]),(aez 4),(aez 0),(aez 0),(aeA [114,101,99,101,105,118,101]),(aez 3),(aez 0),(aez 0),(aeA [89]),(aez 5),(aez 0),(aez 0),(aeA [45,62]),(aez 3),(aez 0),(aez 0),(aeA [89]),(aez 4),(aez 0),(aez 0),(aeA [97,102,116,101,114]),(aez 1),(aez 5),(aez 0),aeB,(aez 5),(aez 0),(aez 0),(aeA [45,62]),(aez 2),(aez 0),(aez 0),(aeA [115,101,108,102]),(aez 5),(aez 0),(aez 0),(aeA [40]),(aez 5),(aez 0),(aez 0),(aeA [41]),(aez 4),(aez 0),(aez 0),(aeA [101,110,100]),(aez 6),(aez 0),(aez 0),aeB] 0 false false)
noncomputable def Xl:Abs.MB:=(.cells 119 [(.gQ 851 0 0 46 4),(aez 30),(aez 0)] 0 false false)
noncomputable def Xk:Abs.MB:=(.cells 119 [(.gQ 851 0 0 46 4),(aez 45),(aez 0)] 0 false false)
noncomputable def IG:Abs.MB:=(.cells 71 [(aez 3),(aez 0),(aez 0),(aeA [88]),.aW,(aez 2),(aez 0),(aez 0),(aeA [104,105]),.aW] 0 false false)
noncomputable def uV:Abs.MB:=(.cells 71 [(aez 3),(aez 0),(aez 0),(aeA [89]),.aW] 0 false false)
noncomputable def IE:Abs.MB:=(.cells 71 [(aez 22),(aez 0),(aez 0),aeB,(.sl 1522 0 1 1),(aez 23),(aez 0),(aez 0),aeB,.aW,(aez 20),(aez 0),(aez 0),aeB,(.sl 1552 0 1 1)] 0 false false)
noncomputable def IC:Abs.MB:=(.cells 71 [(aez 7),(aez 0),(aez 0),(aeA [115,101,108,102]),.aW] 0 false false)
noncomputable def IB:Abs.MB:=(.cells 71 [(aez 21),(aez 0),(aez 0),aeB,(.sl 1555 0 3 3),(aez 1),(aez 5),(aez 0),aeB,.aW,(aez 20),(aez 0),(aez 0),aeB,(.sl 1604 0 1 1)] 0 false false)
noncomputable def Iz:Abs.MB:=(.cells 71 [(aez 15),(aez 0),(aez 0),aeB,(.sl 1483 0 2 2),(aez 18),(aez 1),(aez 0),aeB,(.gQ 1608 0 0 3 5)] 0 false false)
noncomputable def tH:Abs.iL:=⟨[(.ptr 1236 0),(aez 1)],1435,[(1,fU),(2,fQ),(3,fO),(851,mJ),(1236,Xl)],(.gQ 1617 0 0 2 5),1618,[(851,mJ),(1236,Xk),(1483,IG),(1522,uV),(1552,uV),(1555,IE),(1604,IC),(1608,IB),(1617,Iz)]⟩
noncomputable def LM:List (FuncId×Abs.iL):=[]
noncomputable def xH:Abs.Ctx:=Abs.mkCtx Tryz.prog (fun _=>false) dM LM
theorem Qu:Abs.Good xH:=Abs.jq (Abs.iK (M:=LM) trivial) aB aK (Abs.bG dG)
theorem SG:Abs.R.res (fun _=>true) ((Abs.jv xH (Abs.dS xH 1000000) 174 tH.args .normal none tH.S).bind (Abs.qX (Abs.gY tH)))=some []:=by kernel_rfl
theorem WI:Abs.jC Tryz.prog 174 tH:=Abs.kR (C:=xH) Qu aC 1000000 (by kernel_rfl) SG (fun _ h=>by cases h)
noncomputable def Xj:Abs.MB:=(.cells 119 [(.gQ 851 0 0 46 4),(aez 0),(aez 0)] 0 false false)
noncomputable def Xi:Abs.MB:=(.cells 119 [(.gQ 851 0 0 46 4),(aez 46),(aez 0)] 0 false false)
noncomputable def Am:Abs.MB:=(.cells 71 [(aez 3),(aez 0),(aez 0),(aeA [88]),.aW] 0 false false)
noncomputable def Xh:Abs.MB:=(.cells 71 [(aez 7),(aez 0),(aez 0),(aeA [103]),(.sl 1311 0 1 1),(aez 1),(aez 1),(aez 0),aeB,.aW] 0 false false)
noncomputable def Xg:Abs.MB:=(.cells 71 [(aez 10),(aez 0),(aez 0),(aeA [43]),(.sl 1328 0 2 2)] 0 false false)
noncomputable def Xf:Abs.MB:=(.cells 71 [(aez 22),(aez 0),(aez 0),aeB,(.sl 1267 0 1 1),(aez 23),(aez 0),(aez 0),aeB,.aW,(aez 20),(aez 0),(aez 0),aeB,(.sl 1333 0 1 1)] 0 false false)
noncomputable def Xe:Abs.MB:=(.cells 71 [(aez 21),(aez 0),(aez 0),aeB,(.sl 1336 0 3 3)] 0 false false)
noncomputable def Xd:Abs.MB:=(.cells 71 [(aez 22),(aez 0),(aez 0),aeB,(.sl 1368 0 1 1),(aez 23),(aez 0),(aez 0),aeB,.aW,(aez 20),(aez 0),(aez 0),aeB,(.sl 1398 0 1 1)] 0 false false)
noncomputable def Xc:Abs.MB:=(.cells 71 [(aez 22),(aez 0),(aez 0),aeB,(.sl 1426 0 1 1),(aez 23),(aez 0),(aez 0),aeB,.aW,(aez 20),(aez 0),(aez 0),aeB,(.gQ 1617 0 0 2 5)] 0 false false)
noncomputable def Xb:Abs.MB:=(.cells 71 [(aez 21),(aez 0),(aez 0),aeB,(.sl 1401 0 3 3),(aez 21),(aez 0),(aez 0),aeB,(.sl 1620 0 3 3)] 0 false false)
noncomputable def Xa:Abs.MB:=(.cells 65 [(aeA [102]),(aez 1),(aez 0),(aez 0),.aW,(.gQ 1339 0 0 1 5),(aeA [103]),(aez 1),(aez 0),(aez 0),.aW,(.gQ 1623 0 0 2 5)] 0 false false)
noncomputable def tC:Abs.iL:=⟨[(.ptr 1236 0)],1237,[(1,fU),(2,fQ),(3,fO),(851,mJ),(1236,Xj)],(.agg [(aeA [109]),(.gQ 1626 0 0 2 6)]),1627,[(851,mJ),(1236,Xi),(1267,Am),(1311,Am),(1328,Xh),(1333,Xg),(1336,Xf),(1339,Xe),(1368,xA),(1398,xA),(1401,Xd),(1426,Am),(1483,IG),(1522,uV),(1552,uV),(1555,IE),(1604,IC),(1608,IB),(1617,Iz),(1620,Xc),(1623,Xb),(1626,Xa)]⟩
noncomputable def LK:List (FuncId×Abs.iL):=[(174,tH)]
noncomputable def xG:Abs.Ctx:=Abs.mkCtx Tryz.prog (fun _=>false) dM LK
theorem Qs:Abs.Good xG:=Abs.jq (Abs.iK (M:=LK) ⟨WI,trivial⟩) aB aK (Abs.bG dG)
theorem SC:Abs.R.res (fun _=>true) ((Abs.jv xG (Abs.dS xG 1000000) 48 tC.args .normal none tC.S).bind (Abs.qX (Abs.gY tC)))=some []:=by kernel_rfl
theorem WH:Abs.jC Tryz.prog 48 tC:=Abs.kR (C:=xG) Qs aC 1000000 (by kernel_rfl) SC (fun _ h=>by cases h)
end Go.Proofs.YtjioppomopfifaaGreatDoor
