/- A part of the proof of ScriptReads: 1K6. Conditions: those of each theorem. -/
import Derived.Test.YtokipodjggomfaaGreatDoorScr1K5
set_option linter.unusedVariables false
set_option linter.unusedSimpArgs false
namespace Go.Proofs.YtokipodjggomfaaGreatDoor
open Go.Proofs.YtokipodjggomfaaGreatDoor.Txt
set_option maxRecDepth 100000
set_option maxHeartbeats 4000000
theorem Lv:∀N,O (a8H N)
  |0=>jE
  |N+1=>b6 [aC (k9 (N+1)) [8,9,10] [aU (lq cj ri) [bW af (pl eR aw) [aU (lq eR aE) [aC fE [10] [aC iE [9] [aC iE [8] [aU (lt af eR) [aU (lt (ix aX af) Iq) [az eC [bo,pl eR aw],
 az cZ [lq (ln1 (pl (pl (pl aH (.str [92,120])) (aR (.str [48,49,50,51,52,53,54,55,56,57,97,98,99,100,101,102]) (qu (ix aX af) xR) (pl (qu (ix aX af) xR) Jj))) (aR (.str [48,49,50,51,52,53,54,55,56,57,97,98,99,100,101,102]) (re (ix aX af) xR) (pl (re (ix aX af) xR) Jj)))) ri],
 az (k9 N) [aX,pl (pl (pl aH (.str [92,120])) (aR (.str [48,49,50,51,52,53,54,55,56,57,97,98,99,100,101,102]) (qu (ix aX af) xR) (pl (qu (ix aX af) xR) Jj))) (aR (.str [48,49,50,51,52,53,54,55,56,57,97,98,99,100,101,102]) (re (ix aX af) xR) (pl (re (ix aX af) xR) Jj)),bo],
 aC h4 [8,11] [ay h4 [8,11]]],
 a8 (lt (ix aX af) Iq) [aU (gt (ix aX af) Tt) [az eC [bo,pl eR aw],
 az cZ [lq (ln1 (pl (pl (pl aH (.str [92,120])) (aR (.str [48,49,50,51,52,53,54,55,56,57,97,98,99,100,101,102]) (qu (ix aX af) xR) (pl (qu (ix aX af) xR) Jj))) (aR (.str [48,49,50,51,52,53,54,55,56,57,97,98,99,100,101,102]) (re (ix aX af) xR) (pl (re (ix aX af) xR) Jj)))) ri],
 az (k9 N) [aX,pl (pl (pl aH (.str [92,120])) (aR (.str [48,49,50,51,52,53,54,55,56,57,97,98,99,100,101,102]) (qu (ix aX af) xR) (pl (qu (ix aX af) xR) Jj))) (aR (.str [48,49,50,51,52,53,54,55,56,57,97,98,99,100,101,102]) (re (ix aX af) xR) (pl (re (ix aX af) xR) Jj)),bo],
 aC h4 [8,11] [ay h4 [8,11]]],
 a8 (gt (ix aX af) Tt) [aU (eq (ix aX af) sT) [az eC [bo,pl eR aw],
 az cZ [lq (ln1 (pl (pl aH (.str [92])) (aR aX af bo))) ri],
 az (k9 N) [aX,pl (pl aH (.str [92])) (aR aX af bo),bo],
 aC h4 [8,11] [ay h4 [8,11]]],
 a8 (eq (ix aX af) sT) [aU (eq (ix aX af) vi) [az eC [bo,pl eR aw],
 az cZ [lq (ln1 (pl (pl aH (.str [92])) (aR aX af bo))) ri],
 az (k9 N) [aX,pl (pl aH (.str [92])) (aR aX af bo),bo],
 aC h4 [8,11] [ay h4 [8,11]]],
 a8 (eq (ix aX af) vi) [az eC [bo,pl eR aw],
 az cZ [lq (ln1 (pl aH (aR aX af bo))) ri],
 az (k9 N) [aX,pl aH (aR aX af bo),bo],
 aC h4 [8,11] [ay h4 [8,11]]]]]]],
 a8 (lt af eR) [az h4 [aX,pl aH (.str [39])]]]]]]]]]] dw (ba (Lv N) dy) (by
  repeat' first|exact b4|apply du|refine cr ?_ ?_
  all_goals intro E h
  all_goals first|omega|grind (ematch:=4) (splits:=6) [esA,esB,esC,Kk,List.length_cons,esE,Wy]
  )
theorem N1:∀N,O (a4E N)
  |0=>jE
  |N+1=>b6 [aC (jz (N+1)) [11,13,12,16,14] [aU (lq aq ar) [bW aq (pl bz aw) [bW ar (pl bz fZ) [aU (lq bz aE) [aC iE [11] [aC fE [12] [aC fE [13] [aU (lt ar bz) [aU (ne (ix aj ar) sT) [aU (eq (ix aj ar) vi) [aU (gq bK bz) [gS (eS 1 1 1) [16,14],
 bW au ca [az eC [pl bK aw,pl bz fZ],
 az cZ [lq aq (pl bK aw)],
 az (jz N) [aj,aq,pl bK aw,sn (tk 1 aB au) u_0,ca],
 bW dG (pl bz aw) [aC lV [11,13,21,20] [ay lV [11,13,21,20]]],
 aC dp [11,13,20] [ay dp [11,13,20]]]],
 a8 (gq bK bz) [aU (eq (ix aj bK) Tu) [aU (lq (pl (pl bK aw) fZ) bz) [aP vl [ix aj (pl bK aw),aK] [aP vl [ix aj (pl (pl bK aw) aw),aY] [gS (eS 1 1 1) [16,14],
 bW au ca [az eC [pl (pl bK aw) fZ,pl bz fZ],
 az cZ [lq aq (pl (pl bK aw) fZ)],
 az (jz N) [aj,aq,pl (pl bK aw) fZ,sn (tk 1 aB au) (.a1 (.conv .u8) (pl (mu aa4 aK) aY)),ca],
 bW cQ (pl bz aw) [aC lV [11,13,23,22] [ay lV [11,13,23,22]]],
 aC dp [11,13,22] [ay dp [11,13,22]]]]]],
 a8 (lq (pl (pl bK aw) fZ) bz) [gS (eS 1 1 1) [16,14],
 bW au ca [az eC [pl bK aw,pl bz fZ],
 az cZ [lq aq (pl bK aw)],
 az (jz N) [aj,aq,pl bK aw,sn (tk 1 aB au) (ix aj bK),ca],
 bW dG (pl bz aw) [aC lV [11,13,21,20] [ay lV [11,13,21,20]]],
 aC dp [11,13,20] [ay dp [11,13,20]]]]],
 a8 (eq (ix aj bK) Tu) [gS (eS 1 1 1) [16,14],
 bW au ca [az eC [pl bK aw,pl bz fZ],
 az cZ [lq aq (pl bK aw)],
 az (jz N) [aj,aq,pl bK aw,sn (tk 1 aB au) (ix aj bK),ca],
 bW dG (pl bz aw) [aC lV [11,13,21,20] [ay lV [11,13,21,20]]],
 aC dp [11,13,20] [ay dp [11,13,20]]]]]],
 a8 (eq (ix aj ar) vi) [gS (eS 1 1 1) [16,14],
 bW au ca [az eC [bK,pl bz fZ],
 az cZ [lq aq bK],
 az (jz N) [aj,aq,bK,sn (tk 1 aB au) (ix aj ar),ca],
 bW dG (pl bz aw) [aC lV [11,13,21,20] [ay lV [11,13,21,20]]],
 aC dp [11,13,20] [ay dp [11,13,20]]]]],
 a8 (ne (ix aj ar) sT) [aU (lt (mi bz ar) aw) [gS (cJ 1) [16,14],
 az dp [aj,aq,.a1 .bs (tk 1 aB au)]],
 a8 (lt (mi bz ar) aw) [aU (ne (aR aj ar bK) (.str [39])) [gS (cJ 1) [16,14],
 az dp [aj,aq,.a1 .bs (tk 1 aB au)]],
 a8 (ne (aR aj ar bK) (.str [39])) [gS (cJ 1) [16,14],
 aU (gt au tj) [az dp [aj,aq,.a1 .bs (tk 1 aB au)]],
 a8 (gt au tj) [az cZ [lq (ln1 (.a1 .bs (tk 1 aB au))) aE],
 aP jG [.a1 .bs (tk 1 aB au)] [aU (ne (.a1 .bs (tk 1 aB au)) (aR aj aq bK)) [az dp [aj,aq,.a1 .bs (tk 1 aB au)]],
 a8 (ne (.a1 .bs (tk 1 aB au)) (aR aj aq bK)) [az lV [aj,aq,bK,.a1 .bs (tk 1 aB au)],
 az eC [bK,pl bz aw]]],
 aP et [.a1 .bs (tk 1 aB au)] [az cZ [lq (ln1 (.a1 .bs (tk 1 aB au))) aE],
 az eC [aG,pl (ln1 (.a1 .bs (tk 1 aB au))) aw],
 az cZ [lq (ln1 (.str [39])) ri],
 az (k9 5000) [.a1 .bs (tk 1 aB au),.str [39],aG],
 aP h4 [.a1 .bs (tk 1 aB au),bI] [aU (ne bI (aR aj aq bK)) [az dp [aj,aq,.a1 .bs (tk 1 aB au)]],
 a8 (ne bI (aR aj aq bK)) [az lV [aj,aq,bK,.a1 .bs (tk 1 aB au)],
 az eC [bK,pl bz aw]]]]]]]]],
 a8 (lt ar bz) [aU (lt (mi bz ar) aw) [gS (cJ 1) [16,14],
 az dp [aj,aq,.a1 .bs (tk 1 aB au)]],
 a8 (lt (mi bz ar) aw) [aU (ne (aR aj ar bK) (.str [39])) [gS (cJ 1) [16,14],
 az dp [aj,aq,.a1 .bs (tk 1 aB au)]],
 a8 (ne (aR aj ar bK) (.str [39])) [gS (cJ 1) [16,14],
 aU (gt au tj) [az dp [aj,aq,.a1 .bs (tk 1 aB au)]],
 a8 (gt au tj) [az cZ [lq (ln1 (.a1 .bs (tk 1 aB au))) aE],
 aP jG [.a1 .bs (tk 1 aB au)] [aU (ne (.a1 .bs (tk 1 aB au)) (aR aj aq bK)) [az dp [aj,aq,.a1 .bs (tk 1 aB au)]],
 a8 (ne (.a1 .bs (tk 1 aB au)) (aR aj aq bK)) [az lV [aj,aq,bK,.a1 .bs (tk 1 aB au)],
 az eC [bK,pl bz aw]]],
 aP et [.a1 .bs (tk 1 aB au)] [az cZ [lq (ln1 (.a1 .bs (tk 1 aB au))) aE],
 az eC [aG,pl (ln1 (.a1 .bs (tk 1 aB au))) aw],
 az cZ [lq (ln1 (.str [39])) ri],
 az (k9 5000) [.a1 .bs (tk 1 aB au),.str [39],aG],
 aP h4 [.a1 .bs (tk 1 aB au),bI] [aU (ne bI (aR aj aq bK)) [az dp [aj,aq,.a1 .bs (tk 1 aB au)]],
 a8 (ne bI (aR aj aq bK)) [az lV [aj,aq,bK,.a1 .bs (tk 1 aB au)],
 az eC [bK,pl bz aw]]]]]]]]]]]]]]]]] dw (ba (N1 N) (ba a0y (ba Ly (ba (Lv 5000) dy)))) (by
  repeat' first|exact b4|apply du|refine cr ?_ ?_
  all_goals intro E h
  all_goals first|omega|grind (ematch:=4) (splits:=6) [a47,XA,Xz,a44,a43,a45,Xy,ZD,List.take_length,a6N]
  )
theorem a2G:O a8E:=b6 [aU (eq (ix aH af) sT) [bW af (pl cj aw) [aU (lq cj aE) [aC iE [9] [aC fE [10] [aU (lt (mi cj af) aw) [az dp [aH,af,.str []]],
 a8 (lt (mi cj af) aw) [aU (ne (aR aH af bo) (.str [39])) [az dp [aH,af,.str []]],
 a8 (ne (aR aH af bo) (.str [39])) [aU (lt bo cj) [aU (ne (ix aH bo) sT) [aU (eq (ix aH bo) vi) [aU (gq (pl bo aw) cj) [az eC [pl (pl bo aw) aw,pl cj fZ],
 az cZ [lq af (pl (pl bo aw) aw)],
 az (jz 5000) [aH,af,pl (pl bo aw) aw,sn (.a1 (.nl [(.int .u8)]) (.bool true)) u_0,aw],
 bW aB (pl cj aw) [aC lV [9,10,16,15] [ay lV [9,10,16,15]]],
 aC dp [9,10,15] [ay dp [9,10,15]]],
 a8 (gq (pl bo aw) cj) [aU (eq (ix aH (pl bo aw)) Tu) [aU (lq (pl (pl (pl bo aw) aw) fZ) cj) [aP vl [ix aH (pl (pl bo aw) aw),ar] [aP vl [ix aH (pl (pl (pl bo aw) aw) aw),aq] [az eC [pl (pl (pl bo aw) aw) fZ,pl cj fZ],
 az cZ [lq af (pl (pl (pl bo aw) aw) fZ)],
 az (jz 5000) [aH,af,pl (pl (pl bo aw) aw) fZ,sn (.a1 (.nl [(.int .u8)]) (.bool true)) (.a1 (.conv .u8) (pl (mu aa4 ar) aq)),aw],
 bW aY (pl cj aw) [aC lV [9,10,18,17] [ay lV [9,10,18,17]]],
 aC dp [9,10,17] [ay dp [9,10,17]]]]],
 a8 (lq (pl (pl (pl bo aw) aw) fZ) cj) [az eC [pl (pl bo aw) aw,pl cj fZ],
 az cZ [lq af (pl (pl bo aw) aw)],
 az (jz 5000) [aH,af,pl (pl bo aw) aw,sn (.a1 (.nl [(.int .u8)]) (.bool true)) (ix aH (pl bo aw)),aw],
 bW aB (pl cj aw) [aC lV [9,10,16,15] [ay lV [9,10,16,15]]],
 aC dp [9,10,15] [ay dp [9,10,15]]]],
 a8 (eq (ix aH (pl bo aw)) Tu) [az eC [pl (pl bo aw) aw,pl cj fZ],
 az cZ [lq af (pl (pl bo aw) aw)],
 az (jz 5000) [aH,af,pl (pl bo aw) aw,sn (.a1 (.nl [(.int .u8)]) (.bool true)) (ix aH (pl bo aw)),aw],
 bW aB (pl cj aw) [aC lV [9,10,16,15] [ay lV [9,10,16,15]]],
 aC dp [9,10,15] [ay dp [9,10,15]]]]],
 a8 (eq (ix aH bo) vi) [az eC [pl bo aw,pl cj fZ],
 az cZ [lq af (pl bo aw)],
 az (jz 5000) [aH,af,pl bo aw,sn (.a1 (.nl [(.int .u8)]) (.bool true)) (ix aH bo),aw],
 bW aB (pl cj aw) [aC lV [9,10,16,15] [ay lV [9,10,16,15]]],
 aC dp [9,10,15] [ay dp [9,10,15]]]],
 a8 (ne (ix aH bo) sT) [aU (lt (mi cj bo) aw) [az dp [aH,af,.str []]],
 a8 (lt (mi cj bo) aw) [aU (ne (aR aH bo (pl bo aw)) (.str [39])) [az dp [aH,af,.str []]],
 a8 (ne (aR aH bo (pl bo aw)) (.str [39])) [aU (ne (.str [39,39]) (aR aH af (pl bo aw))) [az dp [aH,af,.str []]],
 a8 (ne (.str [39,39]) (aR aH af (pl bo aw))) [az lV [aH,af,pl bo aw,.str []],
 az eC [pl bo aw,pl cj aw]]]]]],
 a8 (lt bo cj) [aU (lt (mi cj bo) aw) [az dp [aH,af,.str []]],
 a8 (lt (mi cj bo) aw) [aU (ne (aR aH bo (pl bo aw)) (.str [39])) [az dp [aH,af,.str []]],
 a8 (ne (aR aH bo (pl bo aw)) (.str [39])) [aU (ne (.str [39,39]) (aR aH af (pl bo aw))) [az dp [aH,af,.str []]],
 a8 (ne (.str [39,39]) (aR aH af (pl bo aw))) [az lV [aH,af,pl bo aw,.str []],
 az eC [pl bo aw,pl cj aw]]]]]]]]]]]]] dw (ba (N1 5000) (ba a0y (ba Ly (ba (Lv 5000) dy)))) (by
  repeat' first|exact b4|apply du|refine cr ?_ ?_
  all_goals intro E h
  all_goals first|omega|(exact h.2.1 (ZD (by omega) (by omega) (by omega)))|(have q:=Dv (S:=gs E 9) (p:=gi E 10) (by omega) (by omega);obtain⟨I,Y⟩:=h;exact I Y.1)|(have q:=Dv (S:=gs E 9) (p:=gi E 10) (by omega) (by omega);obtain⟨I,Y⟩:=h;exact I (Xy q (by omega)))|(have q:=Dv (S:=gs E 9) (p:=gi E 10) (by omega) (by omega);obtain⟨I,Y⟩:=h;exact I ⟨by omega,Xz q (by omega) (by omega) (by omega) (by omega),by omega,by omega⟩)|(have q:=Dv (S:=gs E 9) (p:=gi E 10) (by omega) (by omega);obtain⟨I,Y⟩:=h;exact I ⟨⟨by omega,by omega⟩,by omega,XA q (by omega) (by omega) (by omega) (by omega),by omega,by omega⟩)|(have q:=Dv (S:=gs E 9) (p:=gi E 10) (by omega) (by omega);obtain⟨I,Y⟩:=h;exact I ⟨⟨by omega,by omega⟩,by omega,a47 q (by omega) (by omega) (by omega) (by omega),by omega,by omega⟩)|(have q:=Dv (S:=gs E 9) (p:=gi E 10) (by omega) (by omega);obtain⟨I,Y⟩:=h;exact I (a45 q (by omega) (by omega) (by omega) (.inr (.inr (by rw[E3];exact Y.1)))))|(have q:=Dv (S:=gs E 9) (p:=gi E 10) (by omega) (by omega);obtain⟨I,Y⟩:=h;exact I (a43 q (by omega) (by omega) (by omega) (by decide) rfl (by rw[E3];exact Y.1)))|(have q:=Dv (S:=gs E 9) (p:=gi E 10) (by omega) (by omega);obtain⟨I,Y⟩:=h;obtain⟨⟨-,a⟩,⟨-,Z⟩,Y⟩:=Y;exact I ⟨by omega,a44 q (by omega) (by omega) (by omega) (by omega) Z a,by omega,by omega⟩)
  )
theorem RQ:∀N,O (abV N)
  |0=>jE
  |N+1=>b6 [aC (eM ag (N+1)) [10,11,12,13,14,15] [aU (lt aj fv) [aC fE [12] [aC fE [13] [aC iE [14] [aC (Abs.CU (.sl ag)) [15] [aC fE [11] [aC (Abs.CU (.sl ag)) [10] [aU (gq aj aG) [aP (eQ ag 4) [aK,s4 (s4 n4 (ld 0 af aj) (ld 1 af aj) (ld 2 af aj) (ld 3 af aj)) ar aq au aT,fZ] [az cZ [lt (mi aj aw) fv],
 az (eM ag N) [af,mi aj aw,vf,aG,.str [],aK],
 aP (h9 ag) [af,mi aj aw,vf,aG,.str [],aK,aY,bI,bC,dG] [ay (h9 ag) [10,11,12,13,14,15,18,19,20,21]]]],
 a8 (gq aj aG) [ay (h9 ag) [10,11,12,13,14,15,12,13,14,15]]]]]]]]]]] dw (ba (RQ N) dy) (by
  repeat' first|exact b4|apply du|refine cr ?_ ?_
  all_goals intro E h
  all_goals first|(obtain⟨I, -,Y, -,W,U,h5,l,t,a,b,c⟩:=h;have q:=Ma a;exact I ⟨q.1,by omega⟩)|(obtain⟨I,d,Y, -,W,U,h5,l,t,a,b,c⟩:=h;obtain⟨u,e,f⟩:=a5h a Y c b d;exact I ⟨by omega,by omega,by omega,l,_,a,e,by omega⟩)|(obtain⟨I,⟨l,t1,g,i,j⟩,d,Y, -,W,U,h5,k,t,a,b,c⟩:=h;obtain⟨u,e,f⟩:=a5h a Y c b d;grind[->gk,->b8])|(obtain⟨I,Y, -,W,U,h5,l,t,a,b,c⟩:=h;exact I ⟨l,t,a,b,by rw[a5i (by omega) W];exact b⟩)
  )
theorem a7m:O abT:=b6 [bW aq (pl iB aw) [aU (lq iB aE) [aC iE [12] [aC fE [13] [aC iE [11] [aC iE [10] [aC fE [9] [bW aT (pl iB aw) [aC iy [12,13,10,15] [az xQ [aG,aQ],
 bW aK (pl iB aw) [aP eu [ar,aT,aG,aQ,aK,aB] [bW aY (pl iB aw) [aC iy [12,17,11,18] [ay vR [12,13,10,11,18,16]]],
 aC cY [12,17,11] [ay lu [12,13,10,11,16]]]],
 aP bU [ar,aT,aG,aQ] [az lu [ar,aq,af,aj,aG]]]],
 aC cY [12,13,10] [az lu [ar,aq,af,aj,aG]]]]]]]]]] dw (ba zX (ba Lh dy)) (by
  repeat' first|exact b4|apply du|refine cr ?_ ?_
  all_goals intro E h
  all_goals grind (ematch:=4) (splits:=6) [a9x,a2d,a2c,a5g,Tg,Tf,mN,mI,mA]
  )
theorem a69:O abO:=b6 [aC (sR ag) [8,9,10,11] [aU (eq aX aw) [aU (gq aH (i6 (-576460752303423488))) [aU (lq aH bV) [aU (eq af cX) [aU (eq bz aG) [ay (rN ag) [8,9,10,11]],
 a8 (eq bz aG) [ay (ec ag) [8,9,10,11]]],
 a8 (eq af cX) [ay (ec ag) [8,9,10,11]]],
 a8 (lq aH bV) [ay (ec ag) [8,9,10,11]]],
 a8 (gq aH (i6 (-576460752303423488))) [ay (ec ag) [8,9,10,11]]],
 a8 (eq aX aw) [aU (eq aX fZ) [aU (eq aH aG) [aU (lq fv tj) [aU (eq bz aG) [ay (rN ag) [8,9,10,11]],
 a8 (eq bz aG) [ay (ec ag) [8,9,10,11]]],
 a8 (lq fv tj) [ay (ec ag) [8,9,10,11]]],
 a8 (eq aH aG) [ay (ec ag) [8,9,10,11]]],
 a8 (eq aX fZ) [aU (eq aX i_3) [aU (gq aH aG) [aU (lq aH aQ) [aU (eq af cX) [aU (eq bz aG) [ay (rN ag) [8,9,10,11]],
 a8 (eq bz aG) [ay (ec ag) [8,9,10,11]]],
 a8 (eq af cX) [ay (ec ag) [8,9,10,11]]],
 a8 (lq aH aQ) [ay (ec ag) [8,9,10,11]]],
 a8 (gq aH aG) [ay (ec ag) [8,9,10,11]]],
 a8 (eq aX i_3) [aU (eq aX i_4) [aU (gq aH aG) [aU (lq aH aQ) [aU (eq af cX) [aU (eq bz aG) [ay (rN ag) [8,9,10,11]],
 a8 (eq bz aG) [ay (ec ag) [8,9,10,11]]],
 a8 (eq af cX) [ay (ec ag) [8,9,10,11]]],
 a8 (lq aH aQ) [ay (ec ag) [8,9,10,11]]],
 a8 (gq aH aG) [ay (ec ag) [8,9,10,11]]],
 a8 (eq aX i_4) [aU (eq aX i_6) [aU (gq aH aG) [aU (lq aH aQ) [aU (eq af cX) [aU (eq bz aG) [ay (rN ag) [8,9,10,11]],
 a8 (eq bz aG) [ay (ec ag) [8,9,10,11]]],
 a8 (eq af cX) [ay (ec ag) [8,9,10,11]]],
 a8 (lq aH aQ) [ay (ec ag) [8,9,10,11]]],
 a8 (gq aH aG) [ay (ec ag) [8,9,10,11]]],
 a8 (eq aX i_6) [aU (eq aX Qs) [aU (gq aH aG) [aU (lq aH aQ) [aU (eq af cX) [aU (lq bz tj) [ay (rN ag) [8,9,10,11]],
 a8 (lq bz tj) [ay (ec ag) [8,9,10,11]]],
 a8 (eq af cX) [ay (ec ag) [8,9,10,11]]],
 a8 (lq aH aQ) [ay (ec ag) [8,9,10,11]]],
 a8 (gq aH aG) [ay (ec ag) [8,9,10,11]]],
 a8 (eq aX Qs) [aU (eq aX i_7) [aU (eq aH aG) [aU (eq af cX) [aU (lq bz tj) [ay (rN ag) [8,9,10,11]],
 a8 (lq bz tj) [ay (ec ag) [8,9,10,11]]],
 a8 (eq af cX) [ay (ec ag) [8,9,10,11]]],
 a8 (eq aH aG) [ay (ec ag) [8,9,10,11]]],
 a8 (eq aX i_7) [aU (eq aX tV) [aU (eq aH aG) [aU (eq af cX) [aU (eq bz aG) [ay (rN ag) [8,9,10,11]],
 a8 (eq bz aG) [ay (ec ag) [8,9,10,11]]],
 a8 (eq af cX) [ay (ec ag) [8,9,10,11]]],
 a8 (eq aH aG) [ay (ec ag) [8,9,10,11]]],
 a8 (eq aX tV) [aU (eq aX vf) [aU (eq aH aG) [aU (eq af cX) [aU (eq bz fZ) [ay (rN ag) [8,9,10,11]],
 a8 (eq bz fZ) [ay (ec ag) [8,9,10,11]]],
 a8 (eq af cX) [ay (ec ag) [8,9,10,11]]],
 a8 (eq aH aG) [ay (ec ag) [8,9,10,11]]],
 a8 (eq aX vf) [ay (ec ag) [8,9,10,11]]]]]]]]]]]] dw dy (by
  repeat' first|exact b4|apply du|refine cr ?_ ?_
  all_goals intro E h
  all_goals first|(simp only[<-hx]at h;obtain⟨h,w⟩:=h;obtain⟨t,a,d,c,e,b⟩:=ow w;simp only[hx]at h;obtain⟨I,Y⟩:=h;exact I ⟨t,a,b.2 (by omega)⟩)|(simp only[<-hx]at h;obtain⟨h,w⟩:=h;obtain⟨t,a,d,c,e,b⟩:=ow w;simp only[hx]at h;obtain⟨I,Y⟩:=h;simp only[wf1,mI,mA,mN]at c;refine I ⟨t,a,λf=>?_⟩;have:=b.1 f;first|omega|grind)
  )
theorem UA:∀N,O (a8P N)
  |0=>jE
  |N+1=>b6 [aC (l9 ag (N+1)) [10,11,12,13,14,16] [aC fE [10] [aC fE [11] [aC iE [12] [aC (Abs.CU (.sl ag)) [13] [aU (eq af vf) [mg sM [aG,WC],
 gS (eS 4 56 1) [16,14],
 bW au ca [mg sM [aw,WC],
 az (l9 ag N) [ld 0 aq aw,ld 1 aq aw,ld 2 aq aw,ld 3 aq aw,ca,s4 (tk 4 aB au) (ld 0 aq aG) (ld 1 aq aG) (ld 2 aq aG) (ld 3 aq aG)],
 aP (lv ag) [ld 0 aq aw,ld 1 aq aw,ld 2 aq aw,ld 3 aq aw,ca,s4 (tk 4 aB au) (ld 0 aq aG) (ld 1 aq aG) (ld 2 aq aG) (ld 3 aq aG),bC] [ay (lv ag) [10,11,12,13,14,16,20]],
 aP (gI ag) [ld 0 aq aw,ld 1 aq aw,ld 2 aq aw,ld 3 aq aw,ca,s4 (tk 4 aB au) (ld 0 aq aG) (ld 1 aq aG) (ld 2 aq aG) (ld 3 aq aG)] [ay (gI ag) [10,11,12,13,14,16]]]],
 a8 (eq af vf) [aU (eq af tV) [gS (cJ 4) [16,14],
 aC (eQ ag 4) [17,16,14] [ay (lv ag) [10,11,12,13,14,16,17]]],
 a8 (eq af tV) [gS (cJ 4) [16,14],
 gS (cJ 4) [16,14],
 aC (eQ ag 4) [17,16,14] [ay (gI ag) [10,11,12,13,14,16]]]]]]]]]] dw (ba (UA N) dy) (by
  repeat' first|exact b4|apply du|refine cr ?_ ?_
  all_goals intro E h
  all_goals first|(obtain⟨I,h6,i0,i1,t,l,c,f,d,j,k⟩:=h;exact ke d (by omega) I)|(obtain⟨I, -,h6,i0,i1,t,l,c,f,d,j,k⟩:=h;obtain⟨a,b,s,e,g0,g1,g2,g3,m,n,g,u,i⟩:=itA d h6 c f;subst e;rw[TC]at j k;have:=size_pos (t:=a);refine I ⟨g0,g1,g2,g3,by rw[n];exact rfl,by omega,by omega,b,_,m,i,by rw[n];exact g,by omega,by omega⟩)|(obtain⟨I,⟨-, -, -, -, -,F,C,o,r,v⟩, -,h6,i0,i1,t,l,c,f,d,j,k⟩:=h;obtain⟨a,b,s,e,g0,g1,g2,g3,m,n,g,u,i⟩:=itA d h6 c f;subst e;rw[n]at r;have w:=b8 m o;have D:=ei g r;subst w;subst D;exact I ⟨l,a::C,c,d,by simpa using v⟩)|(obtain⟨I,⟨-, -, -, -, -,t1,o,y⟩, -,h6,i0,i1,t,l,c,f,d,j,k⟩:=h;obtain⟨a,b,s,e,g0,g1,g2,g3,m,n,g,u,i⟩:=itA d h6 c f;subst e;have w:=b8 m o;subst w;refine I ⟨_,c,λl p=>?_⟩;cases l with|nil=>cases p|cons x l=>exact y l (by injection p with _ _ _ p;injection p with _ p;injection p))|(obtain⟨⟨I,Y⟩,h6,i0,i1,t,l,c,f,d,j,k⟩:=h;obtain⟨a,b,s,e,g0,g1,g2,g3,m,n,g,u,i⟩:=itA d h6 c f;subst e;have q:ln _=((2:Nat):Int):=(zC c).2;omega)|(obtain⟨⟨I,Y⟩, -,h6,i0,i1,t,l,c,f,d,j,k⟩:=h;obtain⟨a,b,s,e,g0,g1,g2,g3,m,n,g,u,i⟩:=itA d h6 c f;subst e;have q:ln _=((2:Nat):Int):=(zC c).2;omega)|(obtain⟨I,A,B,i0,i1,t,l,c,f,d,j,k⟩:=h;exact gA d I)|(obtain⟨I,z,A,B,i0,i1,t,l,c,f,d,j,k⟩:=h;have e:=it8 (by omega) c f;subst e;exact I ⟨l,[],c,d,by simpa using kr z d⟩)|(obtain⟨I, -,A,B,i0,i1,t,l,c,f,d,j,k⟩:=h;exact I ⟨t,c,UD (by omega) (by omega) c⟩)
  )
theorem a7w:O abX:=b6 [aC (sR ag) [8,9,10,11] [aU (eq aX vf) [mg sM [aG,bz],
 mg sM [aw,bz],
 az (l9 ag 20000) [ld 0 aj aw,ld 1 aj aw,ld 2 aj aw,ld 3 aj aw,aw,s4 n4 (ld 0 aj aG) (ld 1 aj aG) (ld 2 aj aG) (ld 3 aj aG)],
 aP (lv ag) [ld 0 aj aw,ld 1 aj aw,ld 2 aj aw,ld 3 aj aw,aw,s4 n4 (ld 0 aj aG) (ld 1 aj aG) (ld 2 aj aG) (ld 3 aj aG),aB] [ay (vk ag) [8,9,10,11,16]],
 aP (gI ag) [ld 0 aj aw,ld 1 aj aw,ld 2 aj aw,ld 3 aj aw,aw,s4 n4 (ld 0 aj aG) (ld 1 aj aG) (ld 2 aj aG) (ld 3 aj aG)] [ay (ly ag) [8,9,10,11]]],
 a8 (eq aX vf) [aU (eq aX tV) [az (vk ag) [aX,aH,af,aj,ns]],
 a8 (eq aX tV) [ay (ly ag) [8,9,10,11]]]]] dw (ba (UA 20000) dy) (by
  repeat' first|exact b4|apply du|refine cr ?_ ?_
  all_goals intro E h
  all_goals first|(obtain⟨I,h6,t,c,d,m⟩:=h;obtain⟨a,b,p,e,g0,g1,g2,g3,i,j,n,r,f⟩:=it9 h6 c d;subst e;have z:=iL (Tm.mk 9 0 [] [a,b]);rw[TC]at z;refine I ⟨g0,g1,g2,g3,by rw[j];exact rfl,by decide,by decide,b,[a],i,f,by rw[j];exact n,by omega,by omega⟩)|(obtain⟨I,⟨-, -, -, -, -,l,A,g,o,s⟩,h6,t,c,d,m⟩:=h;obtain⟨a,b,p,e,g0,g1,g2,g3,i,j,n,r,f⟩:=it9 h6 c d;subst e;rw[j]at o;have u:=b8 i g;have B:=ei n o;subst u;subst B;exact I ⟨a::A,c,s⟩)|(obtain⟨I,⟨-, -, -, -, -,t1,g,v⟩,h6,t,c,d,m⟩:=h;obtain⟨a,b,p,e,g0,g1,g2,g3,i,j,n,r,f⟩:=it9 h6 c d;subst e;have u:=b8 i g;subst u;refine I ⟨_,c,λl k=>?_⟩;cases l with|nil=>cases k|cons x l=>exact v l (by injection k with _ _ _ k;injection k with _ k;injection k))|(obtain⟨⟨I,Y⟩,h6,t,c,d,m⟩:=h;obtain⟨a,b,p,e,g0,g1,g2,g3,i,j,n,r,f⟩:=it9 h6 c d;subst e;have q:ln _=((2:Nat):Int):=(zC c).2;omega)|(obtain⟨I,w,y,t,c,d,m⟩:=h;exact I ⟨t,c,UD w y c⟩)|(obtain⟨I,w,y,t,c,d,m⟩:=h;have e:=it8 w c d;subst e;exact I ⟨[],c,jD⟩)
  )
theorem U2:∀N,O (a8S N)
  |0=>jE
  |N+1=>b6 [aC (oz (N+1)) [8,9] [bW aH (pl eR aw) [aU (lq eR aE) [aC fE [9] [aC iE [8] [aU (lt aH eR) [aU (eq (ix aX aH) Iq) [az nK [aX,aR aX aG aH,aR aX V8 eR]],
 a8 (eq (ix aX aH) Iq) [az eC [V8,pl eR aw],
 az (oz N) [aX,V8],
 aC nK [8,10,11] [ay nK [8,10,11]],
 aC iN [8] [ay iN [8]]]],
 a8 (lt aH eR) [ay iN [8]]]]]]]] dw (ba (U2 N) dy) (by
  repeat' first|exact b4|apply du|refine cr ?_ ?_
  all_goals intro E h
  all_goals first|omega|grind (ematch:=4) (splits:=6) [a6z,a6y,a6A]
  )
theorem Ui:∀N,O (a8M N)
  |0=>jE
  |N+1=>b6 [aC (pC (N+1)) [8,9,10] [bW af (pl eR aw) [aU (lq eR aE) [aC fE [10] [aC fE [9] [aC iE [8] [aU (lt af eR) [aU (lt (ix aX af) oP) [ay fg [8]],
 a8 (lt (ix aX af) oP) [aU (gt (ix aX af) AU) [ay fg [8]],
 a8 (gt (ix aX af) AU) [az eC [bo,pl eR aw],
 az (pC N) [aX,pl (mu xX aH) (.a1 (.conv .i64) (mi (ix aX af) oP)),bo],
 aC lW [8,11] [ay lW [8,11]],
 aC fg [8] [ay fg [8]]]]],
 a8 (lt af eR) [aU (lq aH aQ) [ay lW [8,9]],
 a8 (lq aH aQ) [ay fg [8]]]]]]]]]] dw (ba (Ui N) dy) (by
  repeat' first|exact b4|apply du|refine cr ?_ ?_
  all_goals intro E h
  all_goals first|omega|grind (ematch:=4) (splits:=6) [a9w,mN]|(obtain⟨I,Y,W, -, -, -, -, -,U,h5, -⟩:=h;exact I (a6t U (by omega) h5 (by rw[mN];omega)))|(obtain⟨I,Y,W,U,h5,h6,h7,i,j,e,f,g,k,l⟩:=h;obtain⟨a,b,c,d⟩:=acN i e h6.1 U (by omega) (by omega) f g;exact I ⟨by omega,h7,i,j,a,b,c,d,by omega⟩)|(obtain⟨I,Y,W,U,h5,h7,i,j,e,f,g⟩:=h;exact I (a9u h7 e j (by omega) f (by rw[mN];omega)))
  )
theorem a7j:O abQ:=b6 [aU (lq eR aE) [aC iE [8] [aU (eq aX cX) [ay fg [8]],
 a8 (eq aX cX) [aU (gt eR xX) [ay fg [8]],
 a8 (gt eR xX) [aU (gt eR aw) [mg sM [aG,eR],
 aU (eq (ix aX aG) oP) [ay fg [8]],
 a8 (eq (ix aX aG) oP) [az eC [aG,pl eR aw],
 az (pC 5000) [aX,aG,aG],
 aC lW [8,9] [ay lW [8,9]],
 aC fg [8] [ay fg [8]]]],
 a8 (gt eR aw) [az eC [aG,pl eR aw],
 az (pC 5000) [aX,aG,aG],
 aC lW [8,9] [ay lW [8,9]],
 aC fg [8] [ay fg [8]]]]]]]] dw (ba (Ui 5000) dy) (by
  repeat' first|exact b4|apply du|refine cr ?_ ?_
  all_goals intro E h
  all_goals first|omega|grind (ematch:=4) (splits:=6) [a6w,a6v,a6u,adu,RO]
  )
end Go.Proofs.YtokipodjggomfaaGreatDoor
