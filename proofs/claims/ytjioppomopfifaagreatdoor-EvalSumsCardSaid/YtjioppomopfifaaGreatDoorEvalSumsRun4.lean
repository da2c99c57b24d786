/- Single calls that the statement 'EvalSums' of 'YtjioppomopfifaaGreatDoor' makes: what each reads and what it leaves, by runs of the abstract machine in the kernel. No condition. -/
import Derived.Test.YtjioppomopfifaaGreatDoorEvalSumsRun3
namespace Go.Proofs.YtjioppomopfifaaGreatDoor
set_option maxRecDepth 100000
noncomputable def qp:Abs.iL:=⟨[(aeA [45,109,111,100,117,108,101,40,109,41,46,32,102,40,88,41,32,45,62,32,103,40,88,41,32,43,32,49,46,32,103,40,48,41,32,45,62,32,48,59,32,103,40,88,41,32,45,62,32,88,32,33,32,104,105,44,32,114,101,99,101,105,118,101,32,89,32,45,62,32,89,32,97,102,116,101,114,32,53,32,45,62,32,115,101,108,102,40,41,32,101,110,100,46])],16,[(1,fU),(2,fQ),(3,fO)],(.ou [(.gQ 273 0 0 46 4),(.agg [(aez 0),(aez 0)])]),274,[(273,qA)]⟩
noncomputable def I5:List (FuncId×Abs.iL):=[]
noncomputable def uY:Abs.Ctx:=Abs.mkCtx Tryz.prog (fun _=>false) dM I5
theorem MV:Abs.Good uY:=Abs.jq (Abs.iK (M:=I5) trivial) aB aK (Abs.bG dG)
theorem Qm:Abs.R.res (fun _=>true) ((Abs.jv uY (Abs.dS uY 1000000) 33 qp.args .normal none qp.S).bind (Abs.qX (Abs.gY qp)))=some []:=by kernel_rfl
theorem SX:Abs.jC Tryz.prog 33 qp:=Abs.kR (C:=uY) MV aC 1000000 (by kernel_rfl) Qm (fun _ h=>by cases h)
noncomputable def WW:Abs.MB:=(.cells 71 [(aez 7),(aez 1),(aez 20),(aeA [103]),(.gQ 1745 0 0 1 5),(aez 1),(aez 1),(aez 27),aeB,.aW] 0 false false)
noncomputable def WV:Abs.MB:=(.cells 71 [(aez 10),(aez 0),(aez 20),(aeA [43]),(.gQ 1756 0 0 2 5)] 0 false false)
noncomputable def WU:Abs.MB:=(.cells 71 [(aez 22),(aez 0),(aez 14),aeB,(.gQ 1724 0 0 1 5),(aez 23),(aez 0),(aez 0),aeB,.aW,(aez 20),(aez 0),(aez 20),aeB,(.gQ 1760 0 0 1 5)] 0 false false)
noncomputable def WT:Abs.MB:=(.cells 71 [(aez 21),(aez 0),(aez 12),aeB,(.sl 1768 0 3 3)] 0 false false)
noncomputable def WS:Abs.MB:=(.cells 65 [(aeA [102]),(aez 1),(aez 12),(aez 1),.aW,(.gQ 1772 0 0 1 5),(aeA [103]),(aez 1),(aez 30),(aez 2),.aW,(.gQ 1985 0 0 2 5)] 0 false false)
noncomputable def TD:Abs.MB:=(.cells 60 [(aeA [109]),(.gQ 1987 0 0 2 6),(aez 2),(.bool true)] 0 false false)
noncomputable def TB:Abs.MB:=(.cells 74 [(.ptr 1989 0),(aez 7),(.gQ 2177 0 0 2 1),(aez 5),(aez 0),aeB,.aW,(aez 1),(aez 5),aeB,.aW,(aez 1),(aez 1),(aez 5),(aez 78),aeB,.aW,(.ptr 2159 0),(aez 1),(aez 5),aeB,.aW,aeB] 0 false false)
noncomputable def Tz:Abs.MB:=(.cells 136 [(aez 1),(aez 3),aeB,.aW,(.bool true)] 0 false false)
noncomputable def Tv:Abs.MB:=(.cells 138 [(.sl 2078 0 1 1)] 0 false false)
noncomputable def Tt:Abs.MB:=(.cells 84 [(.fn (.func 69) [] []),.qV,(aez 10),(aez 0),(aez 20),(aeA [43]),(.gQ 1756 0 0 2 5),(.ptr 2079 0),(aez 0),(aez 0),.aW,.aW,.aW,.aW] 0 false false)
noncomputable def EK:Abs.MB:=(.cells 136 [(aez 1),(aez 3),aeB,.aW,(.bool true),(aez 0),(aez 0),aeB,.aW,(.bool false)] 0 false false)
noncomputable def Tq:Abs.MB:=(.cells 138 [(.sl 2158 0 2 2)] 0 false false)
noncomputable def Tn:Abs.MB:=(.cells 78 [(.ptr 2091 0),(.ptr 2255 0),.uN] 0 false false)
noncomputable def Tj:Abs.MB:=(.cells 84 [(.fn (.func 119) [] []),(.fn (.func 157) [] []),(aez 18),(aez 1),(aez 57),aeB,(.gQ 1954 0 0 3 5),(.ptr 2159 0),(aez 0),(aez 0),(.sl 2265 0 1 1),.aW,.aW,(.gQ 2267 0 0 2 5)] 0 false false)
noncomputable def Ti:Abs.MB:=(.cells 24 [(aez 1),(aez 5),aeB,.aW] 0 false false)
noncomputable def qo:Abs.iL:=⟨[],13,[(1,fU),(2,fQ),(3,fO)],(.ptr 2012 0),2297,[(1724,mY),(1745,mX),(1756,WW),(1760,WV),(1768,WU),(1772,WT),(1794,kW),(1804,kV),(1812,IX),(1829,kS),(1850,jK),(1872,IW),(1883,IV),(1891,IU),(1949,IQ),(1954,IL),(1973,IK),(1981,IJ),(1985,II),(1987,WS),(1989,TD),(2012,TB),(2078,Tz),(2079,Tv),(2091,Tt),(2158,EK),(2159,Tq),(2177,Tn),(2255,Tj),(2265,Ti),(2267,EK)]⟩
noncomputable def I4:List (FuncId×Abs.iL):=[(33,qp),(48,qw),(35,qy),(108,tK)]
noncomputable def uX:Abs.Ctx:=Abs.mkCtx Tryz.prog (fun _=>false) dM I4
theorem MS:Abs.Good uX:=Abs.jq (Abs.iK (M:=I4) ⟨SX,SY,Tc,WJ,trivial⟩) aB aK (Abs.bG dG)
theorem Ql:Abs.R.res (fun _=>true) ((Abs.jv uX (Abs.dS uX 1000000) 14 qo.args .normal none qo.S).bind (Abs.qX (Abs.gY qo)))=some []:=by kernel_rfl
theorem SV:Abs.jC Tryz.prog 14 qo:=Abs.kR (C:=uX) MS aC 1000000 (by kernel_rfl) Ql (fun _ h=>by cases h)
end Go.Proofs.YtjioppomopfifaaGreatDoor
