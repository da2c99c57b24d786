/- A part of the proof of ScriptReads: 1K3. Conditions: those of each theorem. -/
import Derived.Test.YtokipodjggomfaaGreatDoorScr1K2
set_option linter.unusedVariables false
set_option linter.unusedSimpArgs false
namespace Go.Proofs.YtokipodjggomfaaGreatDoor
open Go.Proofs.YtokipodjggomfaaGreatDoor.Txt
set_option maxRecDepth 100000
set_option maxHeartbeats 4000000
theorem a86(N:Nat)(a:O (Cn N))(I:O (MZ N)):O (a56 N):=b6 [aC (ms N) [9,10] [bW af (pl cj aw) [aU (lq cj aE) [aC iE [9] [aC fE [10] [bW aj (pl cj aw) [aP iy [aH,af,.str [125],aj] [az (Bh ag (iS true (PT true) (PR true) [125])) [aH,af,aj,ns]]],
 aP cY [aH,af,.str [125]] [ay (ms N) [9,10],
 bW aT (pl cj aw) [aC (jq ag (PT true)) [9,10,15,11,12,13,14] [az (nI ag N) [aH,aT,aw,s4 n4 aj ar aq au],
 bW aY (pl cj aw) [aP (pQ ag (λl=>cT true l [125])) [aH,aT,aw,s4 n4 aj ar aq au,aY,aK] [ay (Bh ag (iS true (PT true) (PR true) [125])) [9,10,18,17]]],
 aP (iP ag (λl=>cT true l [125])) [aH,aT,aw,s4 n4 aj ar aq au] [ay (qW (iS true (PT true) (PR true) [125])) [9,10]]]],
 aC (hK (PT true)) [9,10] [ay (qW (iS true (PT true) (PR true) [125])) [9,10]]]]]]]]] dw (ba wv (ba a (ba I dy))) (by
  repeat' first|exact b4|apply du|refine cr ?_ ?_
  all_goals intro E h
  all_goals first|omega|grind (ematch:=4) (splits:=6) [Bx,CV,LO,ph,kc,kI,qK,ke,gA,mq,->kr,->ei,->gk,->jA,->b8,h3,jD,->cm,->eN]
  )
theorem a7q(N:Nat)(a:O (Cn N))(I:O (MW N)):O (a54 N):=b6 [aC (ms N) [9,10] [bW af (pl cj aw) [aU (lq cj aE) [aC iE [9] [aC fE [10] [bW aq (pl cj aw) [aP iy [aH,af,.str [93],aq] [az (jq ag (gJ (PT true) (PR true))) [aH,af,aq,tV,aG,.str [],ns]]],
 aP cY [aH,af,.str [93]] [ay (ms N) [9,10],
 bW aK (pl cj aw) [aC (jq ag (PT true)) [9,10,17,13,14,15,16] [az (nI ag N) [aH,aK,aw,s4 n4 aq au aT aB],
 bW cQ (pl cj aw) [aP (qH ag (b5 true)) [aH,aK,aw,s4 n4 aq au aT aB,cQ,bI,bC,dG,bT] [ay (jq ag (gJ (PT true) (PR true))) [9,10,23,19,20,21,22]]],
 aP (ku ag (b5 true)) [aH,aK,aw,s4 n4 aq au aT aB] [ay (hK (gJ (PT true) (PR true))) [9,10]]]],
 aC (hK (PT true)) [9,10] [ay (hK (gJ (PT true) (PR true))) [9,10]]]]]]]]] dw (ba wv (ba a (ba I (ba Z2 dy)))) (by
  repeat' first|exact b4|apply du|refine cr ?_ ?_
  all_goals intro E h
  all_goals first|omega|grind (ematch:=4) (splits:=6) [JP,GI,OE,zp,uI,ph,kc,kI,qK,ke,gA,mq,->kr,->ei,->gk,->jA,->b8,h3,jD,->cm,->eN]
  )
theorem a7M(N:Nat)(a:O (Cn N))(I:O (MX N)):O (a55 N):=b6 [aC (ms N) [9,10] [bW af (pl cj aw) [aU (lq cj aE) [aC iE [9] [aC fE [10] [bW aq (pl cj aw) [aP eu [aH,af,aG,aQ,aq,ar] [bW aT (pl cj aw) [aP iy [aH,aq,.str [44],aT] [ay (ms N) [9,15],
 bW bC (pl cj aw) [aC (jq ag (PT true)) [9,15,20,16,17,18,19] [az (nI ag N) [aH,bC,aw,s4 n4 aB aK aY bI],
 bW eJ (pl cj aw) [aP (pO ag) [aH,bC,ar,aw,s4 n4 aB aK aY bI,eJ,cG,cW,di,er] [ay (jq ag (jr true (PR true))) [9,10,28,24,25,26,27]]],
 aP (iM ag) [aH,bC,ar,aw,s4 n4 aB aK aY bI] [ay (hK (jr true (PR true))) [9,10]]]],
 aC (hK (PT true)) [9,15] [ay (hK (jr true (PR true))) [9,10]]]],
 aP cY [aH,aq,.str [44]] [bW aT (pl cj aw) [aP iy [aH,aq,.str [62],aT] [az (jq ag (jr true (PR true))) [aH,af,aT,Qs,ar,.str [],ns]]],
 aP cY [aH,aq,.str [62]] [ay (hK (jr true (PR true))) [9,10]]]]],
 aP bU [aH,af,aG,aQ] [ay (hK (jr true (PR true))) [9,10]]]]]]]] dw (ba C2 (ba wv (ba a (ba I dy)))) (by
  repeat' first|exact b4|apply du|refine cr ?_ ?_
  all_goals intro E h
  all_goals first|grind (ematch:=4) (splits:=6) [->GK,->OH,Ti,FL,KC,KD,->wc,mN,ph,kc,kI,qK,ke,gA,mq,->kr,->ei,->gk,->jA,->b8,h3,jD,->cm,->eN]|(refine h.1 ⟨_,zp,?_⟩;grind (ematch:=4) (splits:=6) [->GK,->OH,Ti,FL,KC,KD,->wc,mN,ph,kc,kI,qK,ke,gA,mq,->kr,->ei,->gk,->jA,->b8,h3,jD,->cm,->eN])
  )
theorem a4S(N:Nat)(a:O (Cn N))(I:O (MZ N)):O (MZ (N+1)):=b6 [aC (nI ag (N+1)) [10,11,12,14] [bW aj (pl fv aw) [aU (lq fv aE) [aC iE [10] [aC fE [11] [bW aT (pl fv aw) [aP iy [af,aj,.str [44],aT] [ay (ms N) [10,15],
 bW bC (pl fv aw) [aC (jq ag (PT true)) [10,15,20,16,17,18,19] [gS (eS 4 56 1) [14,12],
 bW ar bK [az (nI ag N) [af,bC,bK,s4 (tk 4 au ar) aB aK aY bI],
 bW cW (pl fv aw) [aP (pQ ag (λl=>cT true l [125])) [af,bC,bK,s4 (tk 4 au ar) aB aK aY bI,cW,cG] [ay (pQ ag (λl=>cT true l [125])) [10,11,12,14,25,24]]],
 aP (iP ag (λl=>cT true l [125])) [af,bC,bK,s4 (tk 4 au ar) aB aK aY bI] [ay (iP ag (λl=>cT true l [125])) [10,11,12,14]]]]],
 aC (hK (PT true)) [10,15] [ay (iP ag (λl=>cT true l [125])) [10,11,12,14]]]],
 aP cY [af,aj,.str [44]] [bW aT (pl fv aw) [aP iy [af,aj,.str [125],aT] [aU (gt ar tj) [ay (iP ag (λl=>cT true l [125])) [10,11,12,14]],
 a8 (gt ar tj) [gS (cJ 4) [14,12],
 aC (eQ ag 4) [16,14,12] [ay (pQ ag (λl=>cT true l [125])) [10,11,12,14,15,16]]]]],
 aP cY [af,aj,.str [125]] [ay (iP ag (λl=>cT true l [125])) [10,11,12,14]]]]]]]]] dw (ba wv (ba a (ba I dy))) (by
  repeat' first|exact b4|apply du|refine cr ?_ ?_
  all_goals intro E h
  all_goals first|omega|grind (ematch:=4) (splits:=6) [a5s,X6,a6C,X5,a2g,ph,kc,kI,qK,ke,gA,mq,->kr,->ei,->gk,->jA,->b8,h3,jD,->cm,->eN]
  )
theorem a3y(N:Nat)(a:O (Cn N))(I:O (MW N)):O (MW (N+1)):=b6 [aC (nI ag (N+1)) [12,13,14,16] [bW aq (pl iB aw) [aU (lq iB aE) [aC iE [12] [aC fE [13] [bW aK (pl iB aw) [aP iy [ar,aq,.str [44],aK] [ay (ms N) [12,17],
 bW bT (pl iB aw) [aC (jq ag (PT true)) [12,17,22,18,19,20,21] [gS (eS 4 56 1) [16,14],
 bW au ca [az (nI ag N) [ar,bT,ca,s4 (tk 4 aB au) aY bI bC dG],
 bW fq (pl iB aw) [aP (qH ag (b5 true)) [ar,bT,ca,s4 (tk 4 aB au) aY bI bC dG,fq,di,er,eJ,gj] [ay (qH ag (b5 true)) [12,13,14,16,30,26,27,28,29]]],
 aP (ku ag (b5 true)) [ar,bT,ca,s4 (tk 4 aB au) aY bI bC dG] [ay (ku ag (b5 true)) [12,13,14,16]]]]],
 aC (hK (PT true)) [12,17] [ay (ku ag (b5 true)) [12,13,14,16]]]],
 aP cY [ar,aq,.str [44]] [bW aY (pl iB aw) [aP iy [ar,aq,.str [124],aY] [ay (ms N) [12,18],
 bW cQ (pl iB aw) [aC (jq ag (PT true)) [12,18,23,19,20,21,22] [aU (eq bI vf) [ay (ku ag (b5 true)) [12,13,14,16]],
 a8 (eq bI vf) [aU (eq bI tV) [ay (ku ag (b5 true)) [12,13,14,16]],
 a8 (eq bI tV) [bW cG (pl iB aw) [aP iy [ar,cQ,.str [93],cG] [ay (CE ag) [14,16,19,20,21,22],
 aC (CP ag) [14,16,19,20,21,22,25,26,27,28] [ay (qH ag (b5 true)) [12,13,14,16,24,25,26,27,28]]]],
 aP cY [ar,cQ,.str [93]] [ay (ku ag (b5 true)) [12,13,14,16]]]]]],
 aC (hK (PT true)) [12,18] [ay (ku ag (b5 true)) [12,13,14,16]]]],
 aP cY [ar,aq,.str [124]] [bW aY (pl iB aw) [aP iy [ar,aq,.str [93],aY] [az (pD ag 20000) [au,aB,mi au aw,tV,aG,.str [],ns],
 aP (oE ag) [aB,mi au aw,tV,aG,.str [],ns,cG,cW,di,er] [ay (qH ag (b5 true)) [12,13,14,16,18,24,25,26,27]]]],
 aP cY [ar,aq,.str [93]] [ay (ku ag (b5 true)) [12,13,14,16]]]]]]]]]] dw (ba wv (ba a (ba I (ba Z2 (ba (L4 20000) dy))))) (by
  repeat' first|exact b4|apply du|refine cr ?_ ?_
  all_goals intro E h
  all_goals first|omega|grind (ematch:=4) (splits:=6) [a5j,XO,XN,KB,Ar,KA,XP,QF,uI,zp,Tm.k,ph,kc,kI,qK,ke,gA,mq,->kr,->ei,->gk,->jA,->b8,h3,jD,->cm,->eN,Yn]
  )
theorem a30(N:Nat)(b:O (Cn N))(I:O (MX N)):O (MX (N+1)):=b6 [aC (nI ag (N+1)) [12,13,14,16] [bW aq (pl iB aw) [aU (lq iB aE) [aC fE [17] [aC iE [12] [aC fE [13] [bW aY (pl iB aw) [aP iy [ar,aq,.str [44],aY] [ay (ms N) [12,18],
 bW cQ (pl iB aw) [aC (jq ag (PT true)) [12,18,23,19,20,21,22] [gS (eS 4 56 1) [16,14],
 bW au ca [az (nI ag N) [ar,cQ,ca,s4 (tk 4 aB au) bI bC dG bT],
 bW oj (pl iB aw) [aP (pO ag) [ar,cQ,aK,ca,s4 (tk 4 aB au) bI bC dG bT,oj,er,eJ,gj,fq] [ay (pO ag) [12,13,17,14,16,31,27,28,29,30]]],
 aP (iM ag) [ar,cQ,aK,ca,s4 (tk 4 aB au) bI bC dG bT] [ay (iM ag) [12,13,17,14,16]]]]],
 aC (hK (PT true)) [12,18] [ay (iM ag) [12,13,17,14,16]]]],
 aP cY [ar,aq,.str [44]] [bW aY (pl iB aw) [aP iy [ar,aq,.str [62],aY] [aU (gt au tj) [ay (iM ag) [12,13,17,14,16]],
 a8 (gt au tj) [gS (cJ 4) [16,14],
 aC (eQ ag 4) [19,16,14] [az (pO ag) [ar,aq,aK,au,aB,aY,Qs,aK,.str [],bI]]]]],
 aP cY [ar,aq,.str [62]] [ay (iM ag) [12,13,17,14,16]]]]]]]]]] dw (ba wv (ba b (ba I dy))) (by
  repeat' first|exact b4|apply du|refine cr ?_ ?_
  all_goals intro E h
  all_goals first|omega|grind (ematch:=4) (splits:=6) [Ti,FL,KC,KD,a2f,rK,ph,kc,kI,qK,ke,gA,mq,->kr,->ei,->gk,->jA,->b8,h3,jD,->cm,->eN]|(obtain⟨I,c,W,U, -,h5, -, -, -, -, -,l,a⟩:=h;exact I ⟨l,_,a,rK (kr c a),KC h5 U (by have:=eN a;omega)⟩)
  )
theorem a6L(N:Nat)(a:O (a56 N))(I:O (a54 N))(Y:O (a55 N)):O (Cn (N+1)):=b6 [aC (ms (N+1)) [9,10] [bW af (pl cj aw) [aU (lq cj aE) [aC iE [9] [aC fE [10] [bW ar (pl cj aw) [aP iy [aH,af,.str [123],ar] [ay (ms N) [9,12],
 bW au (pl cj aw) [aC (Bh ag (iS true (PT true) (PR true) [125])) [9,12,14,13] [az (jq ag (PT true)) [aH,af,au,i_7,aG,.str [],aq]]],
 aC (qW (iS true (PT true) (PR true) [125])) [9,12] [ay (hK (PT true)) [9,10]]]],
 aP cY [aH,af,.str [123]] [bW ar (pl cj aw) [aP iy [aH,af,.str [91],ar] [ay (ms N) [9,12],
 bW aK (pl cj aw) [aC (jq ag (gJ (PT true) (PR true))) [9,12,17,13,14,15,16] [ay (jq ag (PT true)) [9,10,17,13,14,15,16]]],
 aC (hK (gJ (PT true) (PR true))) [9,12] [ay (hK (PT true)) [9,10]]]],
 aP cY [aH,af,.str [91]] [bW ar (pl cj aw) [aP iy [aH,af,.str [39],ar] [az eC [mi ar aw,pl cj aw],
 az cZ [lq (mi ar aw) ar],
 bW au (pl cj aw) [aP lV [aH,mi ar aw,au,aq] [az (jq ag (PT true)) [aH,af,au,fZ,aG,aq,ns]]],
 aP gy [aH,mi ar aw] [ay (hK (PT true)) [9,10]]]],
 aP cY [aH,af,.str [39]] [bW ar (pl cj aw) [aP iy [aH,af,.str [35,82,101,102,60],ar] [bW au (pl cj aw) [aP zu [aH,ar,.str [62],au,aq] [az (jq ag (PT true)) [aH,af,au,i_3,aq,.str [],ns]]],
 aP oD [aH,ar,.str [62]] [ay (hK (PT true)) [9,10]]]],
 aP cY [aH,af,.str [35,82,101,102,60]] [bW ar (pl cj aw) [aP iy [aH,af,.str [35,84,105,100,60],ar] [bW au (pl cj aw) [aP zu [aH,ar,.str [62],au,aq] [az (jq ag (PT true)) [aH,af,au,i_4,aq,.str [],ns]]],
 aP oD [aH,ar,.str [62]] [ay (hK (PT true)) [9,10]]]],
 aP cY [aH,af,.str [35,84,105,100,60]] [bW ar (pl cj aw) [aP iy [aH,af,.str [60,48,46],ar] [bW au (pl cj aw) [aP zu [aH,ar,.str [46,48,62],au,aq] [az (jq ag (PT true)) [aH,af,au,i_6,aq,.str [],ns]]],
 aP oD [aH,ar,.str [46,48,62]] [ay (hK (PT true)) [9,10]]]],
 aP cY [aH,af,.str [60,48,46]] [bW ar (pl cj aw) [aP iy [aH,af,.str [35,70,117,110,60],ar] [ay (ms N) [9,12],
 bW aK (pl cj aw) [aC (jq ag (jr true (PR true))) [9,12,17,13,14,15,16] [ay (jq ag (PT true)) [9,10,17,13,14,15,16]]],
 aC (hK (jr true (PR true))) [9,12] [ay (hK (PT true)) [9,10]]]],
 aP cY [aH,af,.str [35,70,117,110,60]] [aU (lt af cj) [aP zr [ix aH af] [bW aq (pl cj aw) [aC om [9,10,13,12] [az (jq ag (PT true)) [aH,af,aq,fZ,aG,ar,ns]]],
 aC mf [9,10] [ay (hK (PT true)) [9,10]]],
 aP oA [ix aH af] [bW aq (pl cj aw) [aP eu [aH,af,i6 (-576460752303423488),bV,aq,ar] [az (jq ag (PT true)) [aH,af,aq,aw,ar,.str [],ns]]],
 aP bU [aH,af,i6 (-576460752303423488),bV] [ay (hK (PT true)) [9,10]]]],
 a8 (lt af cj) [bW aq (pl cj aw) [aP eu [aH,af,i6 (-576460752303423488),bV,aq,ar] [az (jq ag (PT true)) [aH,af,aq,aw,ar,.str [],ns]]],
 aP bU [aH,af,i6 (-576460752303423488),bV] [ay (hK (PT true)) [9,10]]]]]]]]]]]]]]]] dw (ba wv (ba a (ba I (ba a74 (ba a7l (ba Y (ba QZ (ba a77 (ba C2 dy))))))))) (by
  repeat' first|exact b4|apply du|refine cr ?_ ?_
  all_goals intro E h
  all_goals first|omega|grind (ematch:=4) (splits:=6) [a6m,Xr,a15,a14,a6l,Xq,a6k,Xp,a6j,Xo,a6i,a13,Qw,NS,Lb,Jy,R8,R7,R9,He,EB,mN,mI,mA]|(refine h.1 ⟨_,zp,?_⟩;grind (ematch:=4) (splits:=6) [a6m,Xr,a15,a14,a6l,Xq,a6k,Xp,a6j,Xo,a6i,a13,Qw,NS,Lb,Jy,R8,R7,R9,He,EB,mN,mI,mA])|(obtain⟨_,b,c⟩:=h.2.1;refine h.1 ⟨_,rK b,?_⟩;grind (ematch:=4) (splits:=6) [a6m,Xr,a15,a14,a6l,Xq,a6k,Xp,a6j,Xo,a6i,a13,Qw,NS,Lb,Jy,R8,R7,R9,He,EB,mN,mI,mA])
  )
theorem tP:∀N,O (Cn N)/\O (MZ N)/\O (MW N)/\O (MX N)
 |0=>⟨jE,jE,jE,jE⟩
 |N+1=>by
  obtain⟨a,b,c,d⟩:=tP N;have e:=a86 N a b;have f:=a7q N a c;have g:=a7M N a d;exact⟨a6L N e f g,a4S N a b,a3y N a c,a30 N a d⟩
theorem a6M(N:Nat):O (Cn N):=(tP N).1
end Go.Proofs.YtokipodjggomfaaGreatDoor
