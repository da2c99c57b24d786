/- Single calls that the statement 'EvalSums' of 'YtjioppomopfifaaGreatDoor' makes: what each reads and what it leaves, by runs of the abstract machine in the kernel. No condition. -/
import Derived.Test.YtjioppomopfifaaGreatDoorEvalSumsBase
namespace Go.Proofs.YtjioppomopfifaaGreatDoor
set_option maxRecDepth 100000
noncomputable def fU:Abs.MB:=(.cells 3 [(.opq (.int .i64) (.var 1))] 0 true false)
noncomputable def fQ:Abs.MB:=(.cells 113 [(.opq .any (.var 2))] 0 true false)
noncomputable def fO:Abs.MB:=(.cells 113 [(.opq .any (.var 3))] 0 true false)
noncomputable def xB:Abs.MB:=(.cells 109 [(aez 5),(aez 0),(aez 0),(aeA [45]),(aez 2),(aez 0),(aez 0),(aeA [109,111,100,117,108,101]),(aez 5),(aez 0),(aez 0),(aeA [40]),(aez 2),(aez 0),(aez 0),(aeA [109]),(aez 5),(aez 0),(aez 0),(aeA [41]),(aez 6),(aez 0),(aez 0),aeB,(aez 2),(aez 0),(aez 0),(aeA [115]),(aez 5),(aez 0),(aez 0),(aeA [40]),(aez 1),(aez 0),(aez 0),aeB,(aez 5),(aez 0),(aez 0),(aeA [41]),(aez 5),(aez 0),(aez 0),(aeA [45,62]),(aez 1),(aez 0),(aez 0),aeB,(aez 5),(aez 0),(aez 0),(aeA [59]),(aez 2),(aez 0),(aez 0),(aeA [115]),(aez 5),(aez 0),(aez 0),(aeA [40]),(aez 3),(aez 0),(aez 0),(aeA [78]),(aez 5),(aez 0),(aez 0),(aeA [41]),(aez 4),(aez 0),(aez 0),(aeA [119,104,101,110]),(aez 3),(aez 0),(aez 0),(aeA [78]),(aez 5),(aez 0),(aez 0),(aeA [62]),(aez 1),(aez 0),(aez 0),aeB,(aez 5),(aez 0),(aez 0),(aeA [45,62]),(aez 3),(aez 0),(aez 0),(aeA [78]),(aez 5),(aez 0),(aez 0),(aeA [43]),(aez 2),(aez 0),(aez 0),(aeA [115]),(aez 5),(aez 0),(aez 0),(aeA [40]),(aez 3),(aez 0),(aez 0),(aeA [78]),(aez 5),(aez 0),(aez 0),(aeA [45]),(aez 1),(aez 1),(aez 0),aeB,(aez 5),(aez 0),(aez 0),(aeA [41]),(aez 6),(aez 0),(aez 0),aeB] 0 false false)
noncomputable def ZA:Abs.MB:=(.cells 119 [(.gQ 2910 0 0 31 4),(aez 6),(aez 0)] 0 false false)
noncomputable def Zz:Abs.MB:=(.cells 119 [(.gQ 2910 0 0 31 4),(aez 31),(aez 0)] 0 false false)
noncomputable def xA:Abs.MB:=(.cells 71 [(aez 1),(aez 0),(aez 0),aeB,.aW] 0 false false)
noncomputable def Zy:Abs.MB:=(.cells 71 [(aez 22),(aez 0),(aez 0),aeB,(.sl 3194 0 1 1),(aez 23),(aez 0),(aez 0),aeB,.aW,(aez 20),(aez 0),(aez 0),aeB,(.sl 3224 0 1 1)] 0 false false)
noncomputable def Zx:Abs.MB:=(.cells 71 [(aez 3),(aez 0),(aez 0),(aeA [78]),.aW] 0 false false)
noncomputable def Zw:Abs.MB:=(.cells 71 [(aez 3),(aez 0),(aez 0),(aeA [78]),.aW,(aez 1),(aez 0),(aez 0),aeB,.aW] 0 false false)
noncomputable def Xz:Abs.MB:=(.cells 71 [(aez 10),(aez 0),(aez 0),(aeA [62]),(.sl 3288 0 2 2)] 0 false false)
noncomputable def Xy:Abs.MB:=(.cells 71 [(aez 22),(aez 0),(aez 0),aeB,(.sl 3292 0 1 1)] 0 false false)
noncomputable def Xx:Abs.MB:=(.cells 71 [(aez 3),(aez 0),(aez 0),(aeA [78]),.aW,(aez 1),(aez 1),(aez 0),aeB,.aW] 0 false false)
noncomputable def Xw:Abs.MB:=(.cells 71 [(aez 10),(aez 0),(aez 0),(aeA [45]),(.sl 3356 0 2 2)] 0 false false)
noncomputable def Xv:Abs.MB:=(.cells 71 [(aez 3),(aez 0),(aez 0),(aeA [78]),.aW,(aez 7),(aez 0),(aez 0),(aeA [115]),(.sl 3363 0 1 1)] 0 false false)
noncomputable def Xu:Abs.MB:=(.cells 71 [(aez 10),(aez 0),(aez 0),(aeA [43]),(.sl 3369 0 2 2)] 0 false false)
noncomputable def Xt:Abs.MB:=(.cells 71 [(aez 22),(aez 0),(aez 0),aeB,(.sl 3252 0 1 1),(aez 23),(aez 0),(aez 0),aeB,(.gQ 3296 0 0 1 5),(aez 20),(aez 0),(aez 0),aeB,(.sl 3374 0 1 1)] 0 false false)
noncomputable def Xr:Abs.MB:=(.cells 71 [(aez 21),(aez 0),(aez 0),aeB,(.sl 3227 0 3 3),(aez 21),(aez 0),(aez 0),aeB,(.sl 3377 0 3 3)] 0 false false)
noncomputable def tZ:Abs.iL:=⟨[(.ptr 3163 0)],3169,[(1,fU),(2,fQ),(3,fO),(2910,xB),(3163,ZA)],(.agg [(aeA [115]),(aez 1),(aez 0),(aez 0),.aW,(.gQ 3380 0 0 2 5)]),3382,[(2910,xB),(3163,Zz),(3194,xA),(3224,xA),(3227,Zy),(3252,Zx),(3288,Zw),(3292,Xz),(3296,Xy),(3356,Xx),(3363,Xw),(3369,Xv),(3374,Xu),(3377,Xt),(3380,Xr)]⟩
noncomputable def LX:List (FuncId×Abs.iL):=[]
noncomputable def xP:Abs.Ctx:=Abs.mkCtx Tryz.prog (fun _=>false) dM LX
theorem QA:Abs.Good xP:=Abs.jq (Abs.iK (M:=LX) trivial) aB aK (Abs.bG dG)
theorem SQ:Abs.R.res (fun _=>true) ((Abs.jv xP (Abs.dS xP 1000000) 94 tZ.args .normal none tZ.S).bind (Abs.qX (Abs.gY tZ)))=some []:=by kernel_rfl
theorem WR:Abs.jC Tryz.prog 94 tZ:=Abs.kR (C:=xP) QA aC 1000000 (by kernel_rfl) SQ (fun _ h=>by cases h)
noncomputable def tY:Abs.iL:=⟨[(.gQ 2910 0 0 31 4)],2911,[(1,fU),(2,fQ),(3,fO),(2910,xB)],(.ou [(aeA [45,32,109,111,100,117,108,101,32,40,32,109,32,41,32,46,32,115,32,40,32,48,32,41,32,45,62,32,48,32,59,32,115,32,40,32,78,32,41,32,119,104,101,110,32,78,32,62,32,48,32,45,62,32,78,32,43,32,115,32,40,32,78,32,45,32,49,32,41,32,46]),(aez 0)]),3161,[(2910,xB)]⟩
noncomputable def LW:List (FuncId×Abs.iL):=[]
noncomputable def xO:Abs.Ctx:=Abs.mkCtx Tryz.prog (fun _=>false) dM LW
theorem Qz:Abs.Good xO:=Abs.jq (Abs.iK (M:=LW) trivial) aB aK (Abs.bG dG)
theorem SN:Abs.R.res (fun _=>true) ((Abs.jv xO (Abs.dS xO 1000000) 50 tY.args .normal none tY.S).bind (Abs.qX (Abs.gY tY)))=some []:=by kernel_rfl
theorem WQ:Abs.jC Tryz.prog 50 tY:=Abs.kR (C:=xO) Qz aC 1000000 (by kernel_rfl) SN (fun _ h=>by cases h)
noncomputable def AY:Abs.MB:=(.cells 71 [(aez 1),(aez 0),(aez 14),aeB,.aW] 0 false false)
noncomputable def AX:Abs.MB:=(.cells 71 [(aez 1),(aez 0),(aez 20),aeB,.aW] 0 false false)
noncomputable def AU:Abs.MB:=(.cells 71 [(aez 22),(aez 0),(aez 14),aeB,(.sl 2588 0 1 1),(aez 23),(aez 0),(aez 0),aeB,.aW,(aez 20),(aez 0),(aez 20),aeB,(.sl 2618 0 1 1)] 0 false false)
noncomputable def AQ:Abs.MB:=(.cells 71 [(aez 3),(aez 0),(aez 25),(aeA [78]),.aW] 0 false false)
noncomputable def AP:Abs.MB:=(.cells 71 [(aez 3),(aez 0),(aez 33),(aeA [78]),.aW,(aez 1),(aez 0),(aez 37),aeB,.aW] 0 false false)
noncomputable def AO:Abs.MB:=(.cells 71 [(aez 10),(aez 0),(aez 33),(aeA [62]),(.sl 2682 0 2 2)] 0 false false)
noncomputable def AL:Abs.MB:=(.cells 71 [(aez 22),(aez 0),(aez 33),aeB,(.sl 2686 0 1 1)] 0 false false)
noncomputable def AB:Abs.MB:=(.cells 71 [(aez 3),(aez 0),(aez 48),(aeA [78]),.aW,(aez 1),(aez 1),(aez 52),aeB,.aW] 0 false false)
noncomputable def AA:Abs.MB:=(.cells 71 [(aez 10),(aez 0),(aez 48),(aeA [45]),(.sl 2750 0 2 2)] 0 false false)
noncomputable def Az:Abs.MB:=(.cells 71 [(aez 3),(aez 0),(aez 42),(aeA [78]),.aW,(aez 7),(aez 0),(aez 46),(aeA [115]),(.sl 2757 0 1 1)] 0 false false)
noncomputable def Aw:Abs.MB:=(.cells 71 [(aez 10),(aez 0),(aez 42),(aeA [43]),(.sl 2763 0 2 2)] 0 false false)
noncomputable def Au:Abs.MB:=(.cells 71 [(aez 22),(aez 0),(aez 25),aeB,(.sl 2646 0 1 1),(aez 23),(aez 0),(aez 33),aeB,(.gQ 2690 0 0 1 5),(aez 20),(aez 0),(aez 42),aeB,(.sl 2768 0 1 1)] 0 false false)
noncomputable def Ar:Abs.MB:=(.cells 71 [(aez 21),(aez 0),(aez 12),aeB,(.sl 2621 0 3 3),(aez 21),(aez 0),(aez 23),aeB,(.sl 2771 0 3 3)] 0 false false)
noncomputable def IZ:Abs.MB:=(.cells 65 [(aeA [115]),(aez 1),(aez 12),(aez 0),.aW,(.gQ 2774 0 0 2 5)] 0 false false)
noncomputable def tX:Abs.iL:=⟨[(.agg [(aeA [109]),(.gQ 2777 0 0 1 6)])],2783,[(1,fU),(2,fQ),(3,fO),(2588,AY),(2618,AX),(2621,AU),(2646,AQ),(2682,AP),(2686,AO),(2690,AL),(2750,AB),(2757,AA),(2763,Az),(2768,Aw),(2771,Au),(2774,Ar),(2777,IZ)],(.ou [(aeA [45,32,109,111,100,117,108,101,32,40,32,109,32,41,32,46,32,115,32,40,32,48,32,41,32,45,62,32,48,32,59,32,115,32,40,32,78,32,41,32,119,104,101,110,32,78,32,62,32,48,32,45,62,32,78,32,43,32,115,32,40,32,78,32,45,32,49,32,41,32,46]),(aez 0)]),3432,[(2588,AY),(2618,AX),(2621,AU),(2646,AQ),(2682,AP),(2686,AO),(2690,AL),(2750,AB),(2757,AA),(2763,Az),(2768,Aw),(2771,Au),(2774,Ar),(2777,IZ)]⟩
noncomputable def LV:List (FuncId×Abs.iL):=[(50,tY),(94,tZ)]
noncomputable def xM:Abs.Ctx:=Abs.mkCtx Tryz.prog (fun _=>false) dM LV
theorem Qy:Abs.Good xM:=Abs.jq (Abs.iK (M:=LV) ⟨WQ,WR,trivial⟩) aB aK (Abs.bG dG)
theorem SL:Abs.R.res (fun _=>true) ((Abs.jv xM (Abs.dS xM 1000000) 35 tX.args .normal none tX.S).bind (Abs.qX (Abs.gY tX)))=some []:=by kernel_rfl
theorem WO:Abs.jC Tryz.prog 35 tX:=Abs.kR (C:=xM) Qy aC 1000000 (by kernel_rfl) SL (fun _ h=>by cases h)
noncomputable def Aq:Abs.MB:=(.cells 109 [(aez 5),(aez 0),(aez 0),(aeA [45]),(aez 2),(aez 0),(aez 1),(aeA [109,111,100,117,108,101]),(aez 5),(aez 0),(aez 7),(aeA [40]),(aez 2),(aez 0),(aez 8),(aeA [109]),(aez 5),(aez 0),(aez 9),(aeA [41]),(aez 6),(aez 0),(aez 10),aeB,(aez 2),(aez 0),(aez 12),(aeA [115]),(aez 5),(aez 0),(aez 13),(aeA [40]),(aez 1),(aez 0),(aez 14),aeB,(aez 5),(aez 0),(aez 15),(aeA [41]),(aez 5),(aez 0),(aez 17),(aeA [45,62]),(aez 1),(aez 0),(aez 20),aeB,(aez 5),(aez 0),(aez 21),(aeA [59]),(aez 2),(aez 0),(aez 23),(aeA [115]),(aez 5),(aez 0),(aez 24),(aeA [40]),(aez 3),(aez 0),(aez 25),(aeA [78]),(aez 5),(aez 0),(aez 26),(aeA [41]),(aez 4),(aez 0),(aez 28),(aeA [119,104,101,110]),(aez 3),(aez 0),(aez 33),(aeA [78]),(aez 5),(aez 0),(aez 35),(aeA [62]),(aez 1),(aez 0),(aez 37),aeB,(aez 5),(aez 0),(aez 39),(aeA [45,62]),(aez 3),(aez 0),(aez 42),(aeA [78]),(aez 5),(aez 0),(aez 44),(aeA [43]),(aez 2),(aez 0),(aez 46),(aeA [115]),(aez 5),(aez 0),(aez 47),(aeA [40]),(aez 3),(aez 0),(aez 48),(aeA [78]),(aez 5),(aez 0),(aez 50),(aeA [45]),(aez 1),(aez 1),(aez 52),aeB,(aez 5),(aez 0),(aez 53),(aeA [41]),(aez 6),(aez 0),(aez 54),aeB] 0 false false)
noncomputable def Xq:Abs.MB:=(.cells 119 [(.gQ 2553 0 0 31 4),(aez 6),(aez 55)] 0 false false)
noncomputable def Xp:Abs.MB:=(.cells 119 [(.gQ 2553 0 0 31 4),(aez 31),(aez 55)] 0 false false)
noncomputable def tV:Abs.iL:=⟨[(.ptr 2557 0)],2563,[(1,fU),(2,fQ),(3,fO),(2553,Aq),(2557,Xq)],(.agg [(aeA [115]),(aez 1),(aez 12),(aez 0),.aW,(.gQ 2774 0 0 2 5)]),2776,[(2553,Aq),(2557,Xp),(2588,AY),(2618,AX),(2621,AU),(2646,AQ),(2682,AP),(2686,AO),(2690,AL),(2750,AB),(2757,AA),(2763,Az),(2768,Aw),(2771,Au),(2774,Ar)]⟩
noncomputable def LU:List (FuncId×Abs.iL):=[]
noncomputable def xK:Abs.Ctx:=Abs.mkCtx Tryz.prog (fun _=>false) dM LU
theorem Qx:Abs.Good xK:=Abs.jq (Abs.iK (M:=LU) trivial) aB aK (Abs.bG dG)
theorem SK:Abs.R.res (fun _=>true) ((Abs.jv xK (Abs.dS xK 1000000) 94 tV.args .normal none tV.S).bind (Abs.qX (Abs.gY tV)))=some []:=by kernel_rfl
theorem WM:Abs.jC Tryz.prog 94 tV:=Abs.kR (C:=xK) Qx aC 1000000 (by kernel_rfl) SK (fun _ h=>by cases h)
end Go.Proofs.YtjioppomopfifaaGreatDoor
