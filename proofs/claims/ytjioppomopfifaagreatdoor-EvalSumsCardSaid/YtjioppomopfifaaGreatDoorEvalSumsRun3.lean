/- Single calls that the statement 'EvalSums' of 'YtjioppomopfifaaGreatDoor' makes: what each reads and what it leaves, by runs of the abstract machine in the kernel. No condition. -/
import Derived.Test.YtjioppomopfifaaGreatDoorEvalSumsRun2
namespace Go.Proofs.YtjioppomopfifaaGreatDoor
set_option maxRecDepth 100000
noncomputable def Iy:Abs.MB:=(.cells 9 [(aeA [45]),(aeA [109,111,100,117,108,101]),(aeA [40]),(aeA [109]),(aeA [41]),(aeA [46]),(aeA [102]),(aeA [40]),(aeA [88]),(aeA [41]),(aeA [45,62]),(aeA [103]),(aeA [40]),(aeA [88]),(aeA [41]),(aeA [43]),(aeA [49]),(aeA [46]),(aeA [103]),(aeA [40]),(aeA [48]),(aeA [41]),(aeA [45,62]),(aeA [48]),(aeA [59]),(aeA [103]),(aeA [40]),(aeA [88]),(aeA [41]),(aeA [45,62]),(aeA [88]),(aeA [33]),(aeA [104,105]),(aeA [44]),(aeA [114,101,99,101,105,118,101]),(aeA [89]),(aeA [45,62]),(aeA [89]),(aeA [97,102,116,101,114]),(aeA [53]),(aeA [45,62]),(aeA [115,101,108,102]),(aeA [40]),(aeA [41]),(aeA [101,110,100]),(aeA [46])] 0 false false)
noncomputable def tq:Abs.iL:=⟨[(.gQ 1231 0 0 46 1),(aeA [32])],1232,[(1,fU),(2,fQ),(3,fO),(1231,Iy)],(aeA [45,32,109,111,100,117,108,101,32,40,32,109,32,41,32,46,32,102,32,40,32,88,32,41,32,45,62,32,103,32,40,32,88,32,41,32,43,32,49,32,46,32,103,32,40,32,48,32,41,32,45,62,32,48,32,59,32,103,32,40,32,88,32,41,32,45,62,32,88,32,33,32,104,105,32,44,32,114,101,99,101,105,118,101,32,89,32,45,62,32,89,32,97,102,116,101,114,32,53,32,45,62,32,115,101,108,102,32,40,32,41,32,101,110,100,32,46]),1234,[(1231,Iy)]⟩
noncomputable def LJ:List (FuncId×Abs.iL):=[]
noncomputable def xE:Abs.Ctx:=Abs.mkCtx Tryz.prog (fun _=>false) dM LJ
theorem Qr:Abs.Good xE:=Abs.jq (Abs.iK (M:=LJ) trivial) aB aK (Abs.bG dG)
theorem SB:Abs.R.res (fun _=>true) ((Abs.jv xE (Abs.dS xE 1000000) 104 tq.args .normal none tq.S).bind (Abs.qX (Abs.gY tq)))=some []:=by kernel_rfl
theorem WG:Abs.jC Tryz.prog 104 tq:=Abs.kR (C:=xE) Qr aC 1000000 (by kernel_rfl) SB (fun _ h=>by cases h)
noncomputable def sZ:Abs.iL:=⟨[(.gQ 851 0 0 46 4)],852,[(1,fU),(2,fQ),(3,fO),(851,mJ)],(.ou [(aeA [45,32,109,111,100,117,108,101,32,40,32,109,32,41,32,46,32,102,32,40,32,88,32,41,32,45,62,32,103,32,40,32,88,32,41,32,43,32,49,32,46,32,103,32,40,32,48,32,41,32,45,62,32,48,32,59,32,103,32,40,32,88,32,41,32,45,62,32,88,32,33,32,104,105,32,44,32,114,101,99,101,105,118,101,32,89,32,45,62,32,89,32,97,102,116,101,114,32,53,32,45,62,32,115,101,108,102,32,40,32,41,32,101,110,100,32,46]),(aez 0)]),1234,[(851,mJ)]⟩
noncomputable def LH:List (FuncId×Abs.iL):=[(104,tq)]
noncomputable def xC:Abs.Ctx:=Abs.mkCtx Tryz.prog (fun _=>false) dM LH
theorem Qq:Abs.Good xC:=Abs.jq (Abs.iK (M:=LH) ⟨WG,trivial⟩) aB aK (Abs.bG dG)
theorem SA:Abs.R.res (fun _=>true) ((Abs.jv xC (Abs.dS xC 1000000) 50 sZ.args .normal none sZ.S).bind (Abs.qX (Abs.gY sZ)))=some []:=by kernel_rfl
theorem WE:Abs.jC Tryz.prog 50 sZ:=Abs.kR (C:=xC) Qq aC 1000000 (by kernel_rfl) SA (fun _ h=>by cases h)
noncomputable def qy:Abs.iL:=⟨[(.agg [(aeA [109]),(.gQ 667 0 0 2 6)])],673,[(1,fU),(2,fQ),(3,fO),(308,mY),(352,mX),(369,qJ),(374,qI),(377,qH),(380,qG),(409,kW),(439,kV),(442,qF),(467,kS),(524,jK),(563,mW),(593,mV),(596,mQ),(645,mP),(649,mO),(658,mM),(661,qE),(664,qC),(667,qB)],(.ou [(aeA [45,32,109,111,100,117,108,101,32,40,32,109,32,41,32,46,32,102,32,40,32,88,32,41,32,45,62,32,103,32,40,32,88,32,41,32,43,32,49,32,46,32,103,32,40,32,48,32,41,32,45,62,32,48,32,59,32,103,32,40,32,88,32,41,32,45,62,32,88,32,33,32,104,105,32,44,32,114,101,99,101,105,118,101,32,89,32,45,62,32,89,32,97,102,116,101,114,32,53,32,45,62,32,115,101,108,102,32,40,32,41,32,101,110,100,32,46]),(aez 0)]),1701,[(308,mY),(352,mX),(369,qJ),(374,qI),(377,qH),(380,qG),(409,kW),(439,kV),(442,qF),(467,kS),(524,jK),(563,mW),(593,mV),(596,mQ),(645,mP),(649,mO),(658,mM),(661,qE),(664,qC),(667,qB)]⟩
noncomputable def I9:List (FuncId×Abs.iL):=[(50,sZ),(48,tC)]
noncomputable def vk:Abs.Ctx:=Abs.mkCtx Tryz.prog (fun _=>false) dM I9
theorem MZ:Abs.Good vk:=Abs.jq (Abs.iK (M:=I9) ⟨WE,WH,trivial⟩) aB aK (Abs.bG dG)
theorem Qp:Abs.R.res (fun _=>true) ((Abs.jv vk (Abs.dS vk 1000000) 35 qy.args .normal none qy.S).bind (Abs.qX (Abs.gY qy)))=some []:=by kernel_rfl
theorem Tc:Abs.jC Tryz.prog 35 qy:=Abs.kR (C:=vk) MZ aC 1000000 (by kernel_rfl) Qp (fun _ h=>by cases h)
noncomputable def qA:Abs.MB:=(.cells 109 [(aez 5),(aez 0),(aez 0),(aeA [45]),(aez 2),(aez 0),(aez 1),(aeA [109,111,100,117,108,101]),(aez 5),(aez 0),(aez 7),(aeA [40]),(aez 2),(aez 0),(aez 8),(aeA [109]),(aez 5),(aez 0),(aez 9),(aeA [41]),(aez 6),(aez 0),(aez 10),aeB,(aez 2),(aez 0),(aez 12),(aeA [102]),(aez 5),(aez 0),(aez 13),(aeA [40]),(aez 3),(aez 0),(aez 14),(aeA [88]),(aez 5),(aez 0),(aez 15),(aeA [41]),(aez 5),(aez 0),(aez 17),(aeA [45,62]),(aez 2),(aez 0),(aez 20),(aeA [103]),(aez 5),(aez 0),(aez 21),(aeA [40]),(aez 3),(aez 0),(aez 22),(aeA [88]),(aez 5),(aez 0),(aez 23),(aeA [41]),(aez 5),(aez 0),(aez 25),(aeA [43]),(aez 1),(aez 1),(aez 27),aeB,(aez 6),(aez 0),(aez 28),aeB,(aez 2),(aez 0),(aez 30),(aeA [103]),(aez 5),(aez 0),(aez 31),(aeA [40]),(aez 1),(aez 0),(aez 32),aeB,(aez 5),(aez 0),(aez 33),(aeA [41]),(aez 5),(aez 0),(aez 35),(aeA [45,62]),(aez 1),(aez 0),(aez 38),aeB,(aez 5),(aez 0),(aez 39),(aeA [59]),(aez 2),(aez 0),(aez 41),(aeA [103]),(aez 5),(aez 0),(aez 42),(aeA [40]),(aez 3),(aez 0),(aez 43),(aeA [88]),(aez 5),(aez 0),(aez 44),(aeA [41]),(aez 5),(aez 0),(aez 46),(aeA [45,62]),(aez 3),(aez 0),(aez 49),(aeA [88]),(aez 5),(aez 0),(aez 51),(aeA [33]),(aez 2),(aez 0),(aez 53),(aeA [104,105]),(aez 5),(aez 0),(aez 55),(aeA [44]),(aez 4),(aez 0),(aez 57),(aeA [114,101,99,101,105,118,101]),(aez 3),(aez 0),(aez 65),(aeA [89]),(aez 5),(aez 0),(aez 67),(aeA [45,62]),(aez 3),(aez 0),(aez 70),(aeA [89]),(aez 4),(aez 0),(aez 72),(aeA [97,102,116,101,114]),(aez 1),(aez 5),(aez 78),aeB,(aez 5),(aez 0),(aez 80),(aeA [45,62]),(aez 2),(aez 0),(aez 83),(aeA [115,101,108,102]),(aez 5),(aez 0),(aez 87),(aeA [40]),(aez 5),(aez 0),(aez 88),(aeA [41]),(aez 4),(aez 0),(aez 90),(aeA [101,110,100]),(aez 6),(aez 0),(aez 93),aeB] 0 false false)
noncomputable def W9:Abs.MB:=(.cells 119 [(.gQ 273 0 0 46 4),(aez 30),(aez 94)] 0 false false)
noncomputable def WZ:Abs.MB:=(.cells 119 [(.gQ 273 0 0 46 4),(aez 45),(aez 94)] 0 false false)
noncomputable def qx:Abs.iL:=⟨[(.ptr 277 0),(aez 1)],476,[(1,fU),(2,fQ),(3,fO),(273,qA),(277,W9)],(.gQ 658 0 0 2 5),659,[(273,qA),(277,WZ),(524,jK),(563,mW),(593,mV),(596,mQ),(645,mP),(649,mO),(658,mM)]⟩
noncomputable def I8:List (FuncId×Abs.iL):=[]
noncomputable def vg:Abs.Ctx:=Abs.mkCtx Tryz.prog (fun _=>false) dM I8
theorem MX:Abs.Good vg:=Abs.jq (Abs.iK (M:=I8) trivial) aB aK (Abs.bG dG)
theorem Qo:Abs.R.res (fun _=>true) ((Abs.jv vg (Abs.dS vg 1000000) 174 qx.args .normal none qx.S).bind (Abs.qX (Abs.gY qx)))=some []:=by kernel_rfl
theorem S9:Abs.jC Tryz.prog 174 qx:=Abs.kR (C:=vg) MX aC 1000000 (by kernel_rfl) Qo (fun _ h=>by cases h)
noncomputable def WY:Abs.MB:=(.cells 119 [(.gQ 273 0 0 46 4),(aez 0),(aez 94)] 0 false false)
noncomputable def WX:Abs.MB:=(.cells 119 [(.gQ 273 0 0 46 4),(aez 46),(aez 94)] 0 false false)
noncomputable def qw:Abs.iL:=⟨[(.ptr 277 0)],278,[(1,fU),(2,fQ),(3,fO),(273,qA),(277,WY)],(.agg [(aeA [109]),(.gQ 667 0 0 2 6)]),668,[(273,qA),(277,WX),(308,mY),(352,mX),(369,qJ),(374,qI),(377,qH),(380,qG),(409,kW),(439,kV),(442,qF),(467,kS),(524,jK),(563,mW),(593,mV),(596,mQ),(645,mP),(649,mO),(658,mM),(661,qE),(664,qC),(667,qB)]⟩
noncomputable def I7:List (FuncId×Abs.iL):=[(174,qx)]
noncomputable def uZ:Abs.Ctx:=Abs.mkCtx Tryz.prog (fun _=>false) dM I7
theorem MW:Abs.Good uZ:=Abs.jq (Abs.iK (M:=I7) ⟨S9,trivial⟩) aB aK (Abs.bG dG)
theorem Qn:Abs.R.res (fun _=>true) ((Abs.jv uZ (Abs.dS uZ 1000000) 48 qw.args .normal none qw.S).bind (Abs.qX (Abs.gY qw)))=some []:=by kernel_rfl
theorem SY:Abs.jC Tryz.prog 48 qw:=Abs.kR (C:=uZ) MW aC 1000000 (by kernel_rfl) Qn (fun _ h=>by cases h)
end Go.Proofs.YtjioppomopfifaaGreatDoor
