/- A part of the proof of ScriptReads: 1K4. Conditions: those of each theorem. -/
import Derived.Test.YtokipodjggomfaaGreatDoorScr1K3
import Derived.Test.YtokipodjggomfaaGreatDoorScr1Chk
set_option linter.unusedVariables false
set_option linter.unusedSimpArgs false
namespace Go.Proofs.YtokipodjggomfaaGreatDoor
open Go.Proofs.YtokipodjggomfaaGreatDoor.Txt
set_option maxRecDepth 100000
set_option maxHeartbeats 4000000
theorem a5C:O adq:=b6 [aU (lq eR aE) [aC iE [8] [az eC [aG,pl eR aw],
 az (ms 5000) [aX,aG],
 bW aK (pl eR aw) [aP (jq ag (PT true)) [aX,aG,aK,aq,au,aT,aB] [aU (eq aK eR) [ay (Abs.oG kK ag kB) [13,14,15,16],
 ay Abs.pY [13,14,15,16],
 ay (Eu ag) [8,13,14,15,16]],
 a8 (eq aK eR) [ay lU [8]]]],
 aP (hK (PT true)) [aX,aG] [ay lU [8]]]]] dw (ba (a6M 5000) (ba a8z dy)) (by
  repeat' first|exact b4|apply du|refine cr ?_ ?_
  all_goals intro E h
  all_goals first|omega|grind (ematch:=4) (splits:=6) [a6Y,a6Z,aam]|(obtain⟨I, -,⟨t,Y,W⟩, -,U⟩:=h;exact I (abD kN kBe W U Y))|(obtain⟨I, -,⟨t,Y,W⟩, -,U⟩:=h;exact I (abE W Y))
  )
theorem UC:∀N,O (a8Q N)
  |0=>jE
  |N+1=>b6 [aC (l9 ag (N+1)) [10,11,12,13,14,16] [aC fE [10] [aC fE [11] [aC iE [12] [aC (Abs.CU (.sl ag)) [13] [aU (eq af vf) [aU (eq WC fZ) [mg sM [aG,WC],
 gS (eS 4 56 1) [16,14],
 bW au ca [mg sM [aw,WC],
 az (l9 ag N) [ld 0 aq aw,ld 1 aq aw,ld 2 aq aw,ld 3 aq aw,ca,s4 (tk 4 aB au) (ld 0 aq aG) (ld 1 aq aG) (ld 2 aq aG) (ld 3 aq aG)],
 aP (lv ag) [ld 0 aq aw,ld 1 aq aw,ld 2 aq aw,ld 3 aq aw,ca,s4 (tk 4 aB au) (ld 0 aq aG) (ld 1 aq aG) (ld 2 aq aG) (ld 3 aq aG),bC] [ay (lv ag) [10,11,12,13,14,16,20]],
 aP (gI ag) [ld 0 aq aw,ld 1 aq aw,ld 2 aq aw,ld 3 aq aw,ca,s4 (tk 4 aB au) (ld 0 aq aG) (ld 1 aq aG) (ld 2 aq aG) (ld 3 aq aG)] [ay (gI ag) [10,11,12,13,14,16]]]],
 a8 (eq WC fZ) [ay (gI ag) [10,11,12,13,14,16]]],
 a8 (eq af vf) [aU (ne af tV) [ay (gI ag) [10,11,12,13,14,16]],
 a8 (ne af tV) [gS (cJ 4) [16,14],
 aC (eQ ag 4) [17,16,14] [ay (lv ag) [10,11,12,13,14,16,17]]]]]]]]]] dw (ba (UC N) dy) (by
  repeat' first|exact b4|apply du|refine cr ?_ ?_
  all_goals intro E h
  all_goals first|omega|(obtain⟨I, -,h6,i0,i1,t,l,c,f,d,j,k⟩:=h;exact ke d (by omega) I)|(obtain⟨I, -, -,h6,i0,i1,t,l,c,f,d,j,k⟩:=h;obtain⟨a,b,r,e,g0,g1,g2,g3,n,o,g,s,i⟩:=itA d h6 c f;subst e;rw[TC]at j k;have:=size_pos (t:=a);refine I ⟨g0,g1,g2,g3,by rw[o];exact rfl,by omega,by omega,b,_,n,i,by rw[o];exact g,by omega,by omega⟩)|(obtain⟨I,⟨-, -, -, -, -,D,B,m,q,u⟩, -, -,h6,i0,i1,t,l,c,f,d,j,k⟩:=h;obtain⟨a,b,r,e,g0,g1,g2,g3,n,o,g,s,i⟩:=itA d h6 c f;subst e;rw[o]at q;have v:=b8 n m;have C:=ei g q;subst v;subst C;exact I ⟨l,a::B,c,d,by simpa using u⟩)|(obtain⟨I,⟨-, -, -, -, -,t1,m,w⟩, -, -,h6,i0,i1,t,l,c,f,d,j,k⟩:=h;obtain⟨a,b,r,e,g0,g1,g2,g3,n,o,g,s,i⟩:=itA d h6 c f;subst e;have v:=b8 n m;subst v;refine I ⟨_,c,λl p=>?_⟩;cases l with|nil=>cases p|cons x l=>exact w l (by injection p with _ _ _ p;injection p with _ p;injection p))|(obtain⟨I,⟨-,Y⟩,h6,i0,i1,t,l,c,f,d,j,k⟩:=h;obtain⟨a,b,r,e,g0,g1,g2,g3,n,o,g,s,i⟩:=itA d h6 c f;subst e;exact Y (zC c).2)|(obtain⟨I,z,A,i0,i1,t,l,c,f,d,j,k⟩:=h;exact I ⟨t,c,UD (by omega) (by omega) c⟩)|(obtain⟨I,z,A,i0,i1,t,l,c,f,d,j,k⟩:=h;exact gA d I)|(obtain⟨I,y,z,A,i0,i1,t,l,c,f,d,j,k⟩:=h;have e:=it8 (by omega) c f;subst e;exact I ⟨l,[],c,d,by simpa using kr y d⟩)
  )
theorem a7x:O abY:=b6 [aC (sR ag) [8,9,10,11] [aU (eq aX vf) [aU (eq bz fZ) [mg sM [aG,bz],
 mg sM [aw,bz],
 az (l9 ag 20000) [ld 0 aj aw,ld 1 aj aw,ld 2 aj aw,ld 3 aj aw,aw,s4 n4 (ld 0 aj aG) (ld 1 aj aG) (ld 2 aj aG) (ld 3 aj aG)],
 aP (lv ag) [ld 0 aj aw,ld 1 aj aw,ld 2 aj aw,ld 3 aj aw,aw,s4 n4 (ld 0 aj aG) (ld 1 aj aG) (ld 2 aj aG) (ld 3 aj aG),aB] [ay (vk ag) [8,9,10,11,16]],
 aP (gI ag) [ld 0 aj aw,ld 1 aj aw,ld 2 aj aw,ld 3 aj aw,aw,s4 n4 (ld 0 aj aG) (ld 1 aj aG) (ld 2 aj aG) (ld 3 aj aG)] [ay (ly ag) [8,9,10,11]]],
 a8 (eq bz fZ) [ay (ly ag) [8,9,10,11]]],
 a8 (eq aX vf) [aU (ne aX tV) [ay (ly ag) [8,9,10,11]],
 a8 (ne aX tV) [az (vk ag) [aX,aH,af,aj,ns]]]]] dw (ba (UC 20000) dy) (by
  repeat' first|exact b4|apply du|refine cr ?_ ?_
  all_goals intro E h
  all_goals first|omega|(obtain⟨I, -,h6,t,c,d,m⟩:=h;obtain⟨a,b,p,e,g0,g1,g2,g3,i,j,n,q,f⟩:=it9 h6 c d;subst e;have y:=iL (Tm.mk 9 0 [] [a,b]);rw[TC]at y;refine I ⟨g0,g1,g2,g3,by rw[j];exact rfl,by decide,by decide,b,[a],i,f,by rw[j];exact n,by omega,by omega⟩)|(obtain⟨I,⟨-, -, -, -, -,l,z,g,o,r⟩, -,h6,t,c,d,m⟩:=h;obtain⟨a,b,p,e,g0,g1,g2,g3,i,j,n,q,f⟩:=it9 h6 c d;subst e;rw[j]at o;have s:=b8 i g;have A:=ei n o;subst s;subst A;exact I ⟨a::z,c,r⟩)|(obtain⟨I,⟨-, -, -, -, -,t1,g,u⟩, -,h6,t,c,d,m⟩:=h;obtain⟨a,b,p,e,g0,g1,g2,g3,i,j,n,q,f⟩:=it9 h6 c d;subst e;have s:=b8 i g;subst s;refine I ⟨_,c,λl k=>?_⟩;cases l with|nil=>cases k|cons x l=>exact u l (by injection k with _ _ _ k;injection k with _ k;injection k))|(obtain⟨I,⟨-,Y⟩,h6,t,c,d,m⟩:=h;obtain⟨a,b,p,e,g0,g1,g2,g3,i,j,n,q,f⟩:=it9 h6 c d;subst e;exact Y (zC c).2)|(obtain⟨I,v,w,t,c,d,m⟩:=h;exact I ⟨t,c,UD v w c⟩)|(obtain⟨I,v,w,t,c,d,m⟩:=h;have e:=it8 v c d;subst e;exact I ⟨[],c,jD⟩)
  )
theorem Uj:∀N,O (a8N N)
  |0=>jE
  |N+1=>b6 [aC (fW (N+1)) [9,10] [bW af (pl cj aw) [aU (lq cj aE) [aC fE [10] [aP fE [cj] [aC iE [9] [aC iE [9] [aU (lt af cj) [aU (ne (ix aH af) Iq) [az eC [bo,pl cj aw],
 az (fW N) [aH,bo],
 aC (fM ag) [9,11,12] [ay (fM ag) [9,11,12]],
 aC dH [9] [ay dH [9]]],
 a8 (ne (ix aH af) Iq) [az cZ [lq (ln1 (aR aH aG af)) aE],
 aP (Eu ag) [aR aH aG af,aj,ar,aq,au] [az cZ [lq (ln1 (aR aH bo cj)) aE],
 aP (Eu ag) [aR aH bo cj,aB,aK,aY,bI] [aU (ne aj fZ) [az eC [bo,pl cj aw],
 az (fW N) [aH,bo],
 aC (fM ag) [9,21,22] [ay (fM ag) [9,21,22]],
 aC dH [9] [ay dH [9]]],
 a8 (ne aj fZ) [ay (sR ag) [16,17,18,19],
 aC (vk ag) [16,17,18,19,21] [ay (fM ag) [9,13,21]],
 aC (ly ag) [16,17,18,19] [az eC [bo,pl cj aw],
 az (fW N) [aH,bo],
 aC (fM ag) [9,22,23] [ay (fM ag) [9,22,23]],
 aC dH [9] [ay dH [9]]]]],
 aP lU [aR aH bo cj] [az eC [bo,pl cj aw],
 az (fW N) [aH,bo],
 aC (fM ag) [9,17,18] [ay (fM ag) [9,17,18]],
 aC dH [9] [ay dH [9]]]],
 aP lU [aR aH aG af] [az cZ [lq (ln1 (aR aH bo cj)) aE],
 aP (Eu ag) [aR aH bo cj,ar,aq,au,aT] [az eC [bo,pl cj aw],
 az (fW N) [aH,bo],
 aC (fM ag) [9,17,18] [ay (fM ag) [9,17,18]],
 aC dH [9] [ay dH [9]]],
 aP lU [aR aH bo cj] [az eC [bo,pl cj aw],
 az (fW N) [aH,bo],
 aC (fM ag) [9,13,14] [ay (fM ag) [9,13,14]],
 aC dH [9] [ay dH [9]]]]]],
 a8 (lt af cj) [ay dH [9]]]]]]]]]] dw (ba (Uj N) (ba a5C (ba a7x dy))) (by
  repeat' first|exact b4|apply du|refine cr ?_ ?_
  all_goals intro E h
  all_goals first|omega|grind (ematch:=4) (splits:=6) [Xt,QA,Qz,Qy,Qx,Xs,Xu,->jA,->Lq,->aak,->aaj,->b8]
  )
theorem a7k:O abR:=b6 [aU (lq eR aE) [aC iE [8] [az eC [aG,pl eR aw],
 az (fW 5000) [aX,aG],
 aC (fM ag) [8,10,11] [ay (fM ag) [8,10,11]],
 aC dH [8] [ay dH [8]]]]] dw (ba (Uj 5000) dy) (by
  repeat' first|exact b4|apply du|refine cr ?_ ?_
  all_goals intro E h
  all_goals first|omega|grind (ematch:=4) (splits:=6) [a41]
  )
theorem Zp:O abM:=b6 [aU (lq eR aE) [aC iE [8] [aU (gt eR Mp) [ay oC [8]],
 a8 (gt eR Mp) [ay sN [8],
 aP Abs.OJ [aX,.str [32],af,aj] [aU (eq af (.str [115,112,97,119,110])) [az cZ [lq bz aE],
 aC (fM ag) [11,15,16] [ay (oB ag) [8,15,16]],
 aC dH [11] [ay bp [8]]],
 a8 (eq af (.str [115,112,97,119,110])) [aU (eq af (.str [115,116,101,112])) [ay sN [11],
 aC Abs.nO [11,15] [aU (gq aT aG) [aU (lq aT aQ) [ay Ao [15],
 aC qD [15,16] [aU (eq aB aj) [az gW [aX,fZ,aT]],
 a8 (eq aB aj) [ay bp [8]]]],
 a8 (lq aT aQ) [ay bp [8]]],
 a8 (gq aT aG) [ay bp [8]]],
 aC Abs.iR [11] [ay bp [8]]],
 a8 (eq af (.str [115,116,101,112])) [aU (eq af (.str [115,101,110,100])) [ay sN [11],
 aP Abs.OJ [aj,.str [32],aT,aB] [az cZ [lq a0p aE],
 aC (Eu ag) [16,17,18,19,20] [ay sN [15],
 aC Abs.nO [15,22] [aU (gq bT aG) [aU (lq bT aQ) [ay Ao [22],
 aC qD [22,23] [aU (eq cQ aT) [az (mc ag) [aX,i_3,bT,aK,aY,bI,bC]],
 a8 (eq cQ aT) [ay bp [8]]]],
 a8 (lq bT aQ) [ay bp [8]]],
 a8 (gq bT aG) [ay bp [8]]],
 aC Abs.iR [15] [ay bp [8]]],
 aC lU [16] [ay sN [15],
 aC Abs.nO [15,18] [aU (gq aY aG) [aU (lq aY aQ) [ay Ao [18],
 aC qD [18,19] [aU (eq bI aT) [ay bp [8]],
 a8 (eq bI aT) [ay bp [8]]]],
 a8 (lq aY aQ) [ay bp [8]]],
 a8 (gq aY aG) [ay bp [8]]],
 aC Abs.iR [15] [ay bp [8]]]],
 aP Abs.OK [aj,.str [32]] [ay sN [11],
 aC Abs.nO [11,24] [aU (gq cG aG) [aU (lq cG aQ) [ay Ao [24],
 aC qD [24,25] [aU (eq cW aj) [ay bp [8]],
 a8 (eq cW aj) [ay bp [8]]]],
 a8 (lq cG aQ) [ay bp [8]]],
 a8 (gq cG aG) [ay bp [8]]],
 aC Abs.iR [11] [ay bp [8]]]],
 a8 (eq af (.str [115,101,110,100])) [aU (eq af (.str [101,120,105,116])) [ay sN [11],
 aP Abs.OJ [aj,.str [32],aT,aB] [az cZ [lq a0p aE],
 aC (Eu ag) [16,17,18,19,20] [ay sN [15],
 aC Abs.nO [15,22] [aU (gq bT aG) [aU (lq bT aQ) [ay Ao [22],
 aC qD [22,23] [aU (eq cQ aT) [az (mc ag) [aX,i_4,bT,aK,aY,bI,bC]],
 a8 (eq cQ aT) [ay bp [8]]]],
 a8 (lq bT aQ) [ay bp [8]]],
 a8 (gq bT aG) [ay bp [8]]],
 aC Abs.iR [15] [ay bp [8]]],
 aC lU [16] [ay sN [15],
 aC Abs.nO [15,18] [aU (gq aY aG) [aU (lq aY aQ) [ay Ao [18],
 aC qD [18,19] [aU (eq bI aT) [ay bp [8]],
 a8 (eq bI aT) [ay bp [8]]]],
 a8 (lq aY aQ) [ay bp [8]]],
 a8 (gq aY aG) [ay bp [8]]],
 aC Abs.iR [15] [ay bp [8]]]],
 aP Abs.OK [aj,.str [32]] [ay sN [11],
 aC Abs.nO [11,24] [aU (gq cG aG) [aU (lq cG aQ) [ay Ao [24],
 aC qD [24,25] [aU (eq cW aj) [ay bp [8]],
 a8 (eq cW aj) [ay bp [8]]]],
 a8 (lq cG aQ) [ay bp [8]]],
 a8 (gq cG aG) [ay bp [8]]],
 aC Abs.iR [11] [ay bp [8]]]],
 a8 (eq af (.str [101,120,105,116])) [aU (eq af (.str [99,111,108,108,101,99,116])) [ay sN [11],
 aC Abs.nO [11,15] [aU (gq aT aG) [aU (lq aT aQ) [ay Ao [15],
 aC qD [15,16] [aU (eq aB aj) [az gW [aX,Qs,aT]],
 a8 (eq aB aj) [ay bp [8]]]],
 a8 (lq aT aQ) [ay bp [8]]],
 a8 (gq aT aG) [ay bp [8]]],
 aC Abs.iR [11] [ay bp [8]]],
 a8 (eq af (.str [99,111,108,108,101,99,116])) [aU (eq af (.str [112,97,115,115])) [ay sN [11],
 aC Abs.nO [11,15] [aU (gq aT aG) [aU (lq aT aQ) [ay Ao [15],
 aC qD [15,16] [aU (eq aB aj) [az gW [aX,i_6,aT]],
 a8 (eq aB aj) [ay bp [8]]]],
 a8 (lq aT aQ) [ay bp [8]]],
 a8 (gq aT aG) [ay bp [8]]],
 aC Abs.iR [11] [ay bp [8]]],
 a8 (eq af (.str [112,97,115,115])) [aU (eq af (.str [114,111,117,110,100])) [ay sN [11],
 aC Abs.nO [11,15] [aU (gq aT aG) [aU (lq aT aQ) [ay Ao [15],
 aC qD [15,16] [aU (eq aB aj) [az gW [aX,i_7,aT]],
 a8 (eq aB aj) [ay bp [8]]]],
 a8 (lq aT aQ) [ay bp [8]]],
 a8 (gq aT aG) [ay bp [8]]],
 aC Abs.iR [11] [ay bp [8]]],
 a8 (eq af (.str [114,111,117,110,100])) [aU (eq af (.str [114,117,110])) [ay sN [11],
 aC Abs.nO [11,15] [aU (gq aT aG) [aU (lq aT aQ) [ay Ao [15],
 aC qD [15,16] [aU (eq aB aj) [az gW [aX,tV,aT]],
 a8 (eq aB aj) [ay bp [8]]]],
 a8 (lq aT aQ) [ay bp [8]]],
 a8 (gq aT aG) [ay bp [8]]],
 aC Abs.iR [11] [ay bp [8]]],
 a8 (eq af (.str [114,117,110])) [aU (eq af (.str [115,101,116,116,108,101])) [ay sN [11],
 aC Abs.nO [11,15] [aU (gq aT aG) [aU (lq aT aQ) [ay Ao [15],
 aC qD [15,16] [aU (eq aB aj) [az gW [aX,vf,aT]],
 a8 (eq aB aj) [ay bp [8]]]],
 a8 (lq aT aQ) [ay bp [8]]],
 a8 (gq aT aG) [ay bp [8]]],
 aC Abs.iR [11] [ay bp [8]]],
 a8 (eq af (.str [115,101,116,116,108,101])) [ay me [8]]]]]]]]]]],
 aP Abs.OK [aX,.str [32]] [aU (eq aX (.str [115,112,97,119,110])) [ay bp [8]],
 a8 (eq aX (.str [115,112,97,119,110])) [aU (eq aX (.str [115,116,101,112])) [ay bp [8]],
 a8 (eq aX (.str [115,116,101,112])) [aU (eq aX (.str [115,101,110,100])) [ay bp [8]],
 a8 (eq aX (.str [115,101,110,100])) [aU (eq aX (.str [101,120,105,116])) [ay bp [8]],
 a8 (eq aX (.str [101,120,105,116])) [aU (eq aX (.str [99,111,108,108,101,99,116])) [ay bp [8]],
 a8 (eq aX (.str [99,111,108,108,101,99,116])) [aU (eq aX (.str [112,97,115,115])) [ay bp [8]],
 a8 (eq aX (.str [112,97,115,115])) [aU (eq aX (.str [114,111,117,110,100])) [ay bp [8]],
 a8 (eq aX (.str [114,111,117,110,100])) [aU (eq aX (.str [114,117,110])) [ay bp [8]],
 a8 (eq aX (.str [114,117,110])) [aU (eq aX (.str [115,101,116,116,108,101])) [ay bp [8]],
 a8 (eq aX (.str [115,101,116,116,108,101])) [ay me [8]]]]]]]]]]]]]]] (vo a5M (vo Mh (vo Mf dw))) (ba a7k (ba a5C dy)) (by
  repeat' first|exact b4|apply du|refine cr ?_ ?_
  all_goals intro E h
  all_goals first|omega|(obtain⟨I,Y⟩:=h;revert Y;simp only[bq,bu];intros;have b:=‹Lib.cut (gs E 8) [32]=_›;have e:=bm b;have d:=‹¬(4000:Int)<_›;(first|have a:=‹Lib.cut (gs E 11) [32]=_›;have c:=bm a|skip);exact I (by omega))|(obtain⟨I,Y⟩:=h;revert Y;simp only[bq,bu];intros;have b:=‹Lib.cut (gs E 8) [32]=_›;have e:=bm b;have d:=‹¬(4000:Int)<_›;(first|have a:=‹Lib.cut (gs E 11) [32]=_›;have c:=bm a|skip);exact I (pb d b (by rw[‹gs E 10=_::_›];decide) (.inr (.inl ⟨(by rw[‹gs E 10=_::_›];decide),(by assumption)⟩))))|(obtain⟨I,Y⟩:=h;revert Y;simp only[bq,bu];intros;have b:=‹Lib.cut (gs E 8) [32]=_›;have e:=bm b;have d:=‹¬(4000:Int)<_›;(first|have a:=‹Lib.cut (gs E 11) [32]=_›;have c:=bm a|skip);exact I (pb d b (by rw[‹gs E 10=_::_›];decide) (.inr (.inr (.inl ⟨(by rw[‹gs E 10=_::_›];decide),nt1 a⟩)))))|(obtain⟨I,Y⟩:=h;revert Y;simp only[bq,bu];intros;have b:=‹Lib.cut (gs E 8) [32]=_›;have e:=bm b;have d:=‹¬(4000:Int)<_›;(first|have a:=‹Lib.cut (gs E 11) [32]=_›;have c:=bm a|skip);exact I (pb d b (by rw[‹gs E 10=_::_›];decide) (.inr (.inr (.inl ⟨(by rw[‹gs E 10=_::_›];decide),nt3 a (by assumption)⟩)))))|(obtain⟨I,Y⟩:=h;revert Y;simp only[bq,bu];intros;have b:=‹Lib.cut (gs E 8) [32]=_›;have e:=bm b;have d:=‹¬(4000:Int)<_›;(first|have a:=‹Lib.cut (gs E 11) [32]=_›;have c:=bm a|skip);exact I (pb d b (by rw[‹gs E 10=_::_›];decide) (.inr (.inr (.inl ⟨(by rw[‹gs E 10=_::_›];decide),nt2 a (pN1 (by assumption) (by assumption) (by assumption))⟩)))))|(obtain⟨I,Y⟩:=h;revert Y;simp only[bq,bu];intros;have b:=‹Lib.cut (gs E 8) [32]=_›;have e:=bm b;have d:=‹¬(4000:Int)<_›;(first|have a:=‹Lib.cut (gs E 11) [32]=_›;have c:=bm a|skip);exact I (pb d b (by rw[‹gs E 10=_::_›];decide) (.inr (.inr (.inl ⟨(by rw[‹gs E 10=_::_›];decide),nt2 a (pN2 (by assumption) (by assumption))⟩)))))|(obtain⟨I,Y⟩:=h;revert Y;simp only[bq,bu];intros;have b:=‹Lib.cut (gs E 8) [32]=_›;have e:=bm b;have d:=‹¬(4000:Int)<_›;(first|have a:=‹Lib.cut (gs E 11) [32]=_›;have c:=bm a|skip);exact I (pb d b (by rw[‹gs E 10=_::_›];decide) (.inr (.inr (.inl ⟨(by rw[‹gs E 10=_::_›];decide),nt2 a (pN3 (by assumption) (by assumption))⟩)))))|(obtain⟨I,Y⟩:=h;revert Y;simp only[bq,bu];intros;have b:=‹Lib.cut (gs E 8) [32]=_›;have e:=bm b;have d:=‹¬(4000:Int)<_›;(first|have a:=‹Lib.cut (gs E 11) [32]=_›;have c:=bm a|skip);exact I (pb d b (by rw[‹gs E 10=_::_›];decide) (.inr (.inr (.inl ⟨(by rw[‹gs E 10=_::_›];decide),nt2 a (pN4 (by assumption))⟩)))))|(obtain⟨I,Y⟩:=h;revert Y;simp only[bq,bu];intros;have b:=‹Lib.cut (gs E 8) [32]=_›;have e:=bm b;have d:=‹¬(4000:Int)<_›;(first|have a:=‹Lib.cut (gs E 11) [32]=_›;have c:=bm a|skip);exact I (pb d b (by rw[‹gs E 10=_::_›];decide) (.inr (.inr (.inr ⟨(by rw[‹gs E 10=_::_›];decide),(by rw[‹gs E 10=_::_›];decide),(by rw[‹gs E 10=_::_›];decide),(pN1 (by assumption) (by assumption) (by assumption))⟩)))))|(obtain⟨I,Y⟩:=h;revert Y;simp only[bq,bu];intros;have b:=‹Lib.cut (gs E 8) [32]=_›;have e:=bm b;have d:=‹¬(4000:Int)<_›;(first|have a:=‹Lib.cut (gs E 11) [32]=_›;have c:=bm a|skip);exact I (pb d b (by rw[‹gs E 10=_::_›];decide) (.inr (.inr (.inr ⟨(by rw[‹gs E 10=_::_›];decide),(by rw[‹gs E 10=_::_›];decide),(by rw[‹gs E 10=_::_›];decide),(pN2 (by assumption) (by assumption))⟩)))))|(obtain⟨I,Y⟩:=h;revert Y;simp only[bq,bu];intros;have b:=‹Lib.cut (gs E 8) [32]=_›;have e:=bm b;have d:=‹¬(4000:Int)<_›;(first|have a:=‹Lib.cut (gs E 11) [32]=_›;have c:=bm a|skip);exact I (pb d b (by rw[‹gs E 10=_::_›];decide) (.inr (.inr (.inr ⟨(by rw[‹gs E 10=_::_›];decide),(by rw[‹gs E 10=_::_›];decide),(by rw[‹gs E 10=_::_›];decide),(pN3 (by assumption) (by assumption))⟩)))))|(obtain⟨I,Y⟩:=h;revert Y;simp only[bq,bu];intros;have b:=‹Lib.cut (gs E 8) [32]=_›;have e:=bm b;have d:=‹¬(4000:Int)<_›;(first|have a:=‹Lib.cut (gs E 11) [32]=_›;have c:=bm a|skip);exact I (pb d b (by rw[‹gs E 10=_::_›];decide) (.inr (.inr (.inr ⟨(by rw[‹gs E 10=_::_›];decide),(by rw[‹gs E 10=_::_›];decide),(by rw[‹gs E 10=_::_›];decide),(pN4 (by assumption))⟩)))))|(obtain⟨I,Y⟩:=h;revert Y;simp only[bq,bu];intros;have b:=‹Lib.cut (gs E 8) [32]=_›;have e:=bm b;have d:=‹¬(4000:Int)<_›;(first|have a:=‹Lib.cut (gs E 11) [32]=_›;have c:=bm a|skip);exact I (pn d b (by rw[‹gs E 10=_::_›];decide) (py (by assumption) (by assumption) (by assumption) (by assumption))))|(obtain⟨I,Y⟩:=h;revert Y;simp only[bq,bu];intros;have b:=‹Lib.cut (gs E 8) [32]=_›;have e:=bm b;have d:=‹¬(4000:Int)<_›;(first|have a:=‹Lib.cut (gs E 11) [32]=_›;have c:=bm a|skip);exact I (pt d b (by rw[‹gs E 10=_::_›];decide) a (py (by assumption) (by assumption) (by assumption) (by assumption)) ⟨_,by assumption,by assumption⟩))|(obtain⟨I,Y⟩:=h;revert Y;simp only[bq,bu];intros;have b:=‹Lib.cut (gs E 8) [32]=_›;have e:=bm b;have d:=‹¬(4000:Int)<_›;(first|have a:=‹Lib.cut (gs E 11) [32]=_›;have c:=bm a|skip);exact I (ps d b (by rw[‹gs E 10=_::_›];decide) ⟨_,by assumption,by assumption⟩))|(obtain⟨I,Y⟩:=h;revert Y;simp only[bq,bu];intros;have b:=‹Lib.cut (gs E 8) [32]=_›;have e:=bm b;have d:=‹¬(4000:Int)<_›;(first|have a:=‹Lib.cut (gs E 11) [32]=_›;have c:=bm a|skip);exact I (lw0 (by simp only[tf,cC,fJ,fm];grind) d b))|(obtain⟨I,Y⟩:=h;revert Y;simp only[bq,bu];intros;have b:=‹Lib.cut (gs E 8) [32]=_›;have e:=bm b;have d:=‹¬(4000:Int)<_›;(first|have a:=‹Lib.cut (gs E 11) [32]=_›;have c:=bm a|skip);exact I (pb d b (by rw[‹gs E 8=_::_›];decide) (.inl rfl)))
  )
end Go.Proofs.YtokipodjggomfaaGreatDoor
