/- A part of the proof of ScriptReads: 1K7. Conditions: those of each theorem. -/
import Derived.Test.YtokipodjggomfaaGreatDoorScr1K6
set_option linter.unusedVariables false
set_option linter.unusedSimpArgs false
namespace Go.Proofs.YtokipodjggomfaaGreatDoor
open Go.Proofs.YtokipodjggomfaaGreatDoor.Txt
set_option maxRecDepth 100000
set_option maxHeartbeats 4000000
theorem a2Q(N:Nat)(b:O (Vc N)):O (a1s (N+1)):=b6 [aC (ms (N+1)) [9,10] [bW af (pl cj aw) [aU (lq cj aE) [aC iE [9] [aC fE [10] [bW ar (pl cj aw) [aP iy [aH,af,.str [35,70,117,110,60],ar] [az xQ [aG,aQ],
 bW au (pl cj aw) [aP eu [aH,ar,aG,aQ,au,aq] [aP iy [aH,au,.str [44],pl au (ln1 (.str [44]))] [bW aB (pl cj aw) [aP iy [aH,au,.str [44],aB] [az (Uk N) [aH,aB,.str [62]],
 bW aY (pl cj aw) [aP (xV ag) [aH,aB,.str [62],aY,aK] [aU (eq hO aG) [az (cK ag Aq) [aH,af,Qs,aq,.str [],aK]],
 a8 (eq hO aG) [az (jq ag Aq) [aH,af,aY,Qs,aq,.str [],aK]]]],
 aP nL [aH,aB,.str [62]] [az (cK ag Aq) [aH,af,Qs,aq,.str [],ns]]]],
 aP cY [aH,au,.str [44]] [az (cK ag Aq) [aH,af,Qs,aq,.str [],ns]]],
 aP cY [aH,au,.str [44]] [bW aB (pl cj aw) [aP iy [aH,au,.str [62],aB] [az (jq ag Aq) [aH,af,aB,Qs,aq,.str [],ns]]],
 aP cY [aH,au,.str [62]] [az (cK ag Aq) [aH,af,Qs,aq,.str [],ns]]]]],
 aP bU [aH,ar,aG,aQ] [az (cK ag Aq) [aH,af,Qs,aG,.str [],ns]]]],
 aP cY [aH,af,.str [35,70,117,110,60]] [az (cK ag Aq) [aH,af,Qs,aG,.str [],ns]]]]]]]] dw (ba zg (ba zX (ba Lh (ba b dy)))) (by
  repeat' first|exact b4|apply du|refine cr ?_ ?_
  all_goals intro E h
  all_goals first|grind (ematch:=4) (splits:=6) [a16,XE,QE,XD,QC,Ky,QB,Ma,->wc,mN,EB,ph,kc,kI,qK,ke,gA,mq,->kr,->ei,->gk,->jA,->b8,h3,jD,->cm,->eN]|(refine h.1 ⟨_,zp,?_⟩;grind (ematch:=4) (splits:=6) [a16,XE,QE,XD,QC,Ky,QB,Ma,->wc,mN,EB,ph,kc,kI,qK,ke,gA,mq,->kr,->ei,->gk,->jA,->b8,h3,jD,->cm,->eN])|(refine h.1 ⟨?_,_,zp⟩;grind (ematch:=4) (splits:=6) [a16,XE,QE,XD,QC,Ky,QB,Ma,->wc,mN,EB,ph,kc,kI,qK,ke,gA,mq,->kr,->ei,->gk,->jA,->b8,h3,jD,->cm,->eN])|(obtain⟨I,Y,⟨l,a,c⟩,W⟩:=h;refine I ⟨_,rK a,?_⟩;grind[a16,Ma,mN,EB])|(exact h.1 ⟨by rw[mI];omega,by rw[mA];omega⟩)|(obtain⟨I,Y,⟨l,a,c⟩,W⟩:=h;refine I ⟨?_,_,rK a⟩;grind[Ky,Ma,mN,EB])
  )
theorem a2P(N:Nat)(a:O (Ai N))(I:O (FB N)):O (a1r (N+1)):=b6 [aC (ms (N+1)) [9,10] [bW af (pl cj aw) [aU (lq cj aE) [aC iE [9] [aC fE [10] [bW aq (pl cj aw) [aP iy [aH,af,.str [91],aq] [aP iy [aH,aq,.str [93],pl aq (ln1 (.str [93]))] [bW au (pl cj aw) [aP iy [aH,aq,.str [93],au] [az (jq ag zn) [aH,af,au,tV,aG,.str [],ns]]],
 aP cY [aH,aq,.str [93]] [az (cK ag zn) [aH,af,tV,aG,.str [],ns]]],
 aP cY [aH,aq,.str [93]] [ay (ms N) [9,13],
 bW aY (pl cj aw) [aC (jq ag (PT false)) [9,13,18,14,15,16,17] [aP iy [aH,aY,.str [44],pl aY (ln1 (.str [44]))] [bW dG (pl cj aw) [aP iy [aH,aY,.str [44],dG] [az (nI ag N) [aH,dG,aw,s4 n4 au aT aB aK],
 bW er (pl cj aw) [aP (qH ag kJ) [aH,dG,aw,s4 n4 au aT aB aK,er,cQ,cG,cW,di] [ay (jq ag zn) [9,10,27,23,24,25,26]]],
 aP (ft ag kJ) [aH,dG,aw,s4 n4 au aT aB aK,cQ,cG,cW,di] [ay (cK ag zn) [9,10,23,24,25,26]]]],
 aP cY [aH,aY,.str [44]] [aP (eQ ag 4) [di,s4 n4 au aT aB aK,aw] [aP (eQ ag 4) [er,s4 (s4 n4 au aT aB aK) tV aG cX ns,fZ] [az cZ [lt (i6 (-1)) Mi],
 az (eM ag 20000) [di,i6 (-1),vf,aG,.str [],er],
 aP (h9 ag) [di,i6 (-1),vf,aG,.str [],er,eJ,gj,fq,oj] [ay (cK ag zn) [9,10,28,29,30,31]]]]]],
 aP cY [aH,aY,.str [44]] [aP iy [aH,aY,.str [124],pl aY (ln1 (.str [124]))] [bW dG (pl cj aw) [aP iy [aH,aY,.str [124],dG] [ay (ms N) [9,21],
 bW di (pl cj aw) [aC (jq ag (PT false)) [9,21,26,22,23,24,25] [aU (eq bT tV) [aP (eQ ag 4) [fq,s4 n4 au aT aB aK,aw] [az cZ [lt aG WB],
 az (eM ag 20000) [fq,aG,bT,cQ,cG,cW],
 aP (h9 ag) [fq,aG,bT,cQ,cG,cW,oj,oi,FV,jo] [ay (cK ag zn) [9,10,31,32,33,34]]]],
 a8 (eq bT tV) [aU (eq bT vf) [aP (eQ ag 4) [fq,s4 n4 au aT aB aK,aw] [az cZ [lt aG WB],
 az (eM ag 20000) [fq,aG,bT,cQ,cG,cW],
 aP (h9 ag) [fq,aG,bT,cQ,cG,cW,oj,oi,FV,jo] [ay (cK ag zn) [9,10,31,32,33,34]]]],
 a8 (eq bT vf) [bW er (pl cj aw) [aP iy [aH,di,.str [93],er] [aP (eQ ag 4) [oj,s4 n4 au aT aB aK,aw] [az cZ [lt aG aaX],
 az (eM ag 20000) [oj,aG,bT,cQ,cG,cW],
 aP (h9 ag) [oj,aG,bT,cQ,cG,cW,oi,FV,jo,zd] [ay (jq ag zn) [9,10,27,32,33,34,35]]]]],
 aP cY [aH,di,.str [93]] [aP (eQ ag 4) [oj,s4 n4 au aT aB aK,aw] [az cZ [lt aG aaX],
 az (eM ag 20000) [oj,aG,bT,cQ,cG,cW],
 aP (h9 ag) [oj,aG,bT,cQ,cG,cW,oi,FV,jo,zd] [ay (cK ag zn) [9,10,32,33,34,35]]]]]]]],
 aC (cK ag (PT false)) [9,21,22,23,24,25] [aU (eq bT tV) [aP (eQ ag 4) [fq,s4 n4 au aT aB aK,aw] [az cZ [lt aG WB],
 az (eM ag 20000) [fq,aG,bT,cQ,cG,cW],
 aP (h9 ag) [fq,aG,bT,cQ,cG,cW,oj,oi,FV,jo] [ay (cK ag zn) [9,10,31,32,33,34]]]],
 a8 (eq bT tV) [aU (eq bT vf) [aP (eQ ag 4) [fq,s4 n4 au aT aB aK,aw] [az cZ [lt aG WB],
 az (eM ag 20000) [fq,aG,bT,cQ,cG,cW],
 aP (h9 ag) [fq,aG,bT,cQ,cG,cW,oj,oi,FV,jo] [ay (cK ag zn) [9,10,31,32,33,34]]]],
 a8 (eq bT vf) [aP (eQ ag 4) [fq,s4 n4 au aT aB aK,aw] [az cZ [lt aG WB],
 az (eM ag 20000) [fq,aG,bT,cQ,cG,cW],
 aP (h9 ag) [fq,aG,bT,cQ,cG,cW,oj,oi,FV,jo] [ay (cK ag zn) [9,10,31,32,33,34]]]]]]]],
 aP cY [aH,aY,.str [124]] [aP (eQ ag 4) [er,s4 n4 au aT aB aK,aw] [aP (eQ ag 4) [eJ,s4 (s4 n4 au aT aB aK) aG aG cX ns,fZ] [az cZ [lt (i6 (-1)) a7u],
 az (eM ag 20000) [er,i6 (-1),vf,aG,.str [],eJ],
 aP (h9 ag) [er,i6 (-1),vf,aG,.str [],eJ,gj,fq,oj,oi] [ay (cK ag zn) [9,10,29,30,31,32]]]]]],
 aP cY [aH,aY,.str [124]] [bW dG (pl cj aw) [aP iy [aH,aY,.str [93],dG] [aP (eQ ag 4) [di,s4 n4 au aT aB aK,aw] [aP (eQ ag 4) [er,s4 (s4 n4 au aT aB aK) tV aG cX ns,fZ] [az cZ [lt (i6 (-1)) Mi],
 az (eM ag 20000) [di,i6 (-1),vf,aG,.str [],er],
 aP (h9 ag) [di,i6 (-1),vf,aG,.str [],er,eJ,gj,fq,oj] [ay (jq ag zn) [9,10,21,28,29,30,31]]]]]],
 aP cY [aH,aY,.str [93]] [aP (eQ ag 4) [di,s4 n4 au aT aB aK,aw] [aP (eQ ag 4) [er,s4 (s4 n4 au aT aB aK) tV aG cX ns,fZ] [az cZ [lt (i6 (-1)) Mi],
 az (eM ag 20000) [di,i6 (-1),vf,aG,.str [],er],
 aP (h9 ag) [di,i6 (-1),vf,aG,.str [],er,eJ,gj,fq,oj] [ay (cK ag zn) [9,10,28,29,30,31]]]]]]]]],
 aC (cK ag (PT false)) [9,13,14,15,16,17] [aP (eQ ag 4) [cW,s4 n4 au aT aB aK,aw] [aP (eQ ag 4) [di,s4 (s4 n4 au aT aB aK) tV aG cX ns,fZ] [az cZ [lt (i6 (-1)) a0o],
 az (eM ag 20000) [cW,i6 (-1),vf,aG,.str [],di],
 aP (h9 ag) [cW,i6 (-1),vf,aG,.str [],di,er,eJ,gj,fq] [ay (cK ag zn) [9,10,27,28,29,30]]]]]]]],
 aP cY [aH,af,.str [91]] [az (cK ag zn) [aH,af,tV,aG,.str [],ns]]]]]]]] dw (ba zg (ba zX (ba a (ba I (ba (RQ 20000) dy))))) (by
  repeat' first|exact b4|apply du|refine cr ?_ ?_
  all_goals intro E h
  all_goals first|omega|(obtain⟨I,Y⟩:=h;revert Y;simp only[bq,bu];intros;(first|have q:=cm (S:=gs E 9) (p:=gi E 10+1) (p':=gi E 18) (by assumption) (by omega) (by omega)|skip);exact no2 (x:=must [44] (dr (gs E 9) (gi E 18))) (by assumption) (by assumption))|(obtain⟨I,Y⟩:=h;revert Y;simp only[bq,bu];intros;(first|have q:=cm (S:=gs E 9) (p:=gi E 10+1) (p':=gi E 18) (by assumption) (by omega) (by omega)|skip);exact no2 (x:=must [124] (dr (gs E 9) (gi E 18))) (by assumption) (by assumption))|(obtain⟨I,Y⟩:=h;revert Y;simp only[bq,bu];intros;(first|have q:=cm (S:=gs E 9) (p:=gi E 10+1) (p':=gi E 18) (by assumption) (by omega) (by omega)|skip);exact no2 (x:=must [93] (dr (gs E 9) (gi E 10+1))) (by assumption) (by assumption))|(obtain⟨I,Y⟩:=h;revert Y;simp only[bq,bu];intros;(first|have q:=cm (S:=gs E 9) (p:=gi E 10+1) (p':=gi E 18) (by assumption) (by omega) (by omega)|skip);exact I ⟨_,zp,a9p (by assumption) (by assumption)⟩)|(obtain⟨I,Y⟩:=h;revert Y;simp only[bq,bu];intros;(first|have q:=cm (S:=gs E 9) (p:=gi E 10+1) (p':=gi E 18) (by assumption) (by omega) (by omega)|skip);exact I ⟨a9o (by assumption),_,zp⟩)|(obtain⟨I,Y⟩:=h;revert Y;simp only[bq,bu];intros;(first|have q:=cm (S:=gs E 9) (p:=gi E 10+1) (p':=gi E 18) (by assumption) (by omega) (by omega)|skip);exact I ⟨(a0G (by assumption)).1,by omega,by omega,by omega,_,(a0G (by assumption)).2⟩)|(obtain⟨I,Y⟩:=h;revert Y;simp only[bq,bu];intros;(first|have q:=cm (S:=gs E 9) (p:=gi E 10+1) (p':=gi E 18) (by assumption) (by omega) (by omega)|skip);exact I ⟨_,by assumption,(a5A (by assumption) (by assumption) (by assumption) (by assumption) (by assumption) (by assumption)).trans (by assumption)⟩)|(obtain⟨I,Y⟩:=h;revert Y;simp only[bq,bu];intros;(first|have q:=cm (S:=gs E 9) (p:=gi E 10+1) (p':=gi E 18) (by assumption) (by omega) (by omega)|skip);exact I ⟨(a5A (by assumption) (by assumption) (by assumption) (by assumption) (by assumption) (by assumption)).trans (by assumption),_,by assumption⟩)|(obtain⟨I,Y⟩:=h;revert Y;simp only[bq,bu];intros;(first|have q:=cm (S:=gs E 9) (p:=gi E 10+1) (p':=gi E 18) (by assumption) (by omega) (by omega)|skip);exact I ⟨(fz1 (by assumption) (by assumption) (by assumption)).2.1,(fz1 (by assumption) (by assumption) (by assumption)).2.2⟩)|(obtain⟨I,Y⟩:=h;revert Y;simp only[bq,bu];intros;(first|have q:=cm (S:=gs E 9) (p:=gi E 10+1) (p':=gi E 18) (by assumption) (by omega) (by omega)|skip);exact I ⟨(fz1 (by assumption) (by assumption) (by assumption)).2.1,Int.lt_trans (by decide) (fz1 (by assumption) (by assumption) (by assumption)).2.2⟩)|(obtain⟨I,Y⟩:=h;revert Y;simp only[bq,bu];intros;(first|have q:=cm (S:=gs E 9) (p:=gi E 10+1) (p':=gi E 18) (by assumption) (by omega) (by omega)|skip);exact I ⟨by decide,by decide,by decide,_,_,(fz1 (by assumption) (by assumption) (by assumption)).1,fz2 (by assumption) (by assumption) (by assumption) zp,by show(-1:Int)<1;decide⟩)|(obtain⟨I,Y⟩:=h;revert Y;simp only[bq,bu];intros;(first|have q:=cm (S:=gs E 9) (p:=gi E 10+1) (p':=gi E 18) (by assumption) (by omega) (by omega)|skip);exact I ⟨by decide,by decide,by decide,_,_,(fz1 (by assumption) (by assumption) (by assumption)).1,by assumption,by show(0:Int)<1;decide⟩)|(obtain⟨I,Y⟩:=h;revert Y;simp only[bq,bu];intros;(first|have q:=cm (S:=gs E 9) (p:=gi E 10+1) (p':=gi E 18) (by assumption) (by omega) (by omega)|skip);exact I (by omega))|(obtain⟨I,Y⟩:=h;revert Y;simp only[bq,bu];intros;(first|have q:=cm (S:=gs E 9) (p:=gi E 10+1) (p':=gi E 18) (by assumption) (by omega) (by omega)|skip);exact I (ex2 _ ((Gj (by assumption) (by assumption) (by assumption)).trans (XP (by assumption) (by assumption) (by assumption))) (mk1 (fz2 (by assumption) (by assumption) (by assumption) zp) (by assumption) (by assumption))))|(obtain⟨I,Y⟩:=h;revert Y;simp only[bq,bu];intros;(first|have q:=cm (S:=gs E 9) (p:=gi E 10+1) (p':=gi E 18) (by assumption) (by omega) (by omega)|skip);exact I (ex2 _ ((Gj (by assumption) (by assumption) (by assumption)).trans (XN (by assumption) (by assumption) (by assumption) (tkN (by assumption) (by assumption) (by assumption)) (by assumption))) (mkR (fz1 (by assumption) (by assumption) (by assumption)).1 (by assumption) (by assumption) (by assumption) (by assumption) (by exact bD 1))))|(obtain⟨I,Y⟩:=h;revert Y;simp only[bq,bu];intros;(first|have q:=cm (S:=gs E 9) (p:=gi E 10+1) (p':=gi E 18) (by assumption) (by omega) (by omega)|skip);exact I ⟨(a6n (by assumption) (by assumption)).trans (a42 (by assumption)),_,by assumption⟩)|(obtain⟨I,Y⟩:=h;revert Y;simp only[bq,bu];intros;(first|have q:=cm (S:=gs E 9) (p:=gi E 10+1) (p':=gi E 18) (by assumption) (by omega) (by omega)|skip);exact I ⟨(Gj (by assumption) (by assumption) (by assumption)).trans (QF (by assumption) (by assumption) (by assumption)),_,by assumption⟩)|(obtain⟨I,Y⟩:=h;revert Y;simp only[bq,bu];intros;(first|have q:=cm (S:=gs E 9) (p:=gi E 10+1) (p':=gi E 18) (by assumption) (by omega) (by omega)|skip);exact I ⟨(Gj (by assumption) (by assumption) (by assumption)).trans (Ar (by assumption) (by assumption) (by assumption) (tk8 (by assumption) (by assumption))),_,by assumption⟩)|(obtain⟨I,Y⟩:=h;revert Y;simp only[bq,bu];intros;(first|have q:=cm (S:=gs E 9) (p:=gi E 10+1) (p':=gi E 18) (by assumption) (by omega) (by omega)|skip);exact I ⟨(Gj (by assumption) (by assumption) (by assumption)).trans (Ar (by assumption) (by assumption) (by assumption) (tk9 (by assumption) (by assumption))),_,by assumption⟩)|(obtain⟨I,Y⟩:=h;revert Y;simp only[bq,bu];intros;(first|have q:=cm (S:=gs E 9) (p:=gi E 10+1) (p':=gi E 18) (by assumption) (by omega) (by omega)|skip);exact I ⟨(Gj (by assumption) (by assumption) (by assumption)).trans (KA (by assumption) (by assumption) (by assumption) (by assumption)),_,by assumption⟩)|(obtain⟨I,Y⟩:=h;revert Y;simp only[bq,bu];intros;(first|have q:=cm (S:=gs E 9) (p:=gi E 10+1) (p':=gi E 18) (by assumption) (by omega) (by omega)|skip);exact I ⟨(Gj (by assumption) (by assumption) (by assumption)).trans (KB (by assumption) (by assumption) (by assumption)),_,by assumption⟩)
  )
theorem a4R(N:Nat)(a:O (Ai (N+1)))(I:O (MY N)):O (MY (N+1)):=b6 [aC (qS ag (N+1)) [10,11,15,12,14] [bW aj (pl fv aw) [aU (lq fv aE) [aC iE [10] [aC fE [11] [aC iE [15] [ay (ms (N+1)) [10,11],
 bW bC (pl fv aw) [aC (jq ag (PT false)) [10,11,20,16,17,18,19] [gS (eS 4 56 1) [14,12],
 bW ar bK [aP iy [af,bC,aT,pl bC acO] [bW cG (pl fv aw) [aC iy [10,20,15,24] [mg (cJ 4) [s4 (tk 4 au ar) aB aK aY bI,bK],
 aP (eQ ag 4) [cW,s4 (tk 4 au ar) aB aK aY bI,bK] [ay (pP ag) [10,11,15,12,14,24,25]]]],
 aC cY [10,20,15] [mg (cJ 4) [s4 (tk 4 au ar) aB aK aY bI,bK]],
 gS cY [10,20,15]],
 aC cY [10,20,15] [bW cG (pl fv aw) [aP iy [af,bC,.str [44],cG] [az (qS ag N) [af,cG,aT,bK,s4 (tk 4 au ar) aB aK aY bI],
 bW di (pl fv aw) [aP (pP ag) [af,cG,aT,bK,s4 (tk 4 au ar) aB aK aY bI,di,cW] [ay (pP ag) [10,11,15,12,14,26,25]]],
 aP (jH ag) [af,cG,aT,bK,s4 (tk 4 au ar) aB aK aY bI] [ay (jH ag) [10,11,15,12,14]]]],
 aP cY [af,bC,.str [44]] [ay (jH ag) [10,11,15,12,14]]]]]],
 aC (cK ag (PT false)) [10,11,16,17,18,19] [gS (eS 4 56 1) [14,12],
 bW ar bK [ay (jH ag) [10,11,15,12,14]]]]]]]]]] dw (ba zg (ba zX (ba a (ba I dy)))) (by
  repeat' first|exact b4|apply du|refine cr ?_ ?_
  all_goals intro E h
  all_goals first|omega|grind (ematch:=4) (splits:=6) [a5o,a5q,a5p,X4,Np,ph,kc,kI,qK,ke,gA,mq,->kr,->ei,->gk,->jA,->b8,h3,jD,->cm,->eN]
  )
theorem Y0(N:Nat)(a:O (Ai (N+1)))(I:O (FB N)):O (FB (N+1)):=b6 [aC (nI ag (N+1)) [12,13,14,16] [bW aq (pl iB aw) [aU (lq iB aE) [aC iE [12] [aC fE [13] [ay (ms (N+1)) [12,13],
 bW dG (pl iB aw) [aC (jq ag (PT false)) [12,13,21,17,18,19,20] [gS (eS 4 56 1) [16,14],
 bW au ca [aP iy [ar,dG,.str [44],pl dG (ln1 (.str [44]))] [bW cW (pl iB aw) [aP iy [ar,dG,.str [44],cW] [az (nI ag N) [ar,cW,ca,s4 (tk 4 aB au) aK aY bI bC],
 bW fq (pl iB aw) [aP (qH ag kJ) [ar,cW,ca,s4 (tk 4 aB au) aK aY bI bC,fq,di,er,eJ,gj] [ay (qH ag kJ) [12,13,14,16,30,26,27,28,29]]],
 aP (ft ag kJ) [ar,cW,ca,s4 (tk 4 aB au) aK aY bI bC,di,er,eJ,gj] [ay (ft ag kJ) [12,13,14,16,26,27,28,29]]]],
 aP cY [ar,dG,.str [44]] [mg (cJ 4) [s4 (tk 4 aB au) aK aY bI bC,ca],
 aP (eQ ag 4) [gj,s4 (tk 4 aB au) aK aY bI bC,ca] [az cZ [lt (mi ca aw) a7s],
 az (eM ag 20000) [gj,mi ca aw,tV,aG,.str [],ns],
 aP (h9 ag) [gj,mi ca aw,tV,aG,.str [],ns,fq,oj,oi,FV] [ay (ft ag kJ) [12,13,14,16,30,31,32,33]]]]],
 aP cY [ar,dG,.str [44]] [aP iy [ar,dG,.str [124],pl dG (ln1 (.str [124]))] [bW cW (pl iB aw) [aP iy [ar,dG,.str [124],cW] [ay (ms (N+1)) [12,25],
 bW fq (pl iB aw) [aC (jq ag (PT false)) [12,25,30,26,27,28,29] [aU (eq di tV) [mg (cJ 4) [s4 (tk 4 aB au) aK aY bI bC,ca],
 aP (eQ ag 4) [jo,s4 (tk 4 aB au) aK aY bI bC,ca] [az cZ [lt (mi ca aw) a0n],
 az (eM ag 20000) [jo,mi ca aw,di,er,eJ,gj],
 aP (h9 ag) [jo,mi ca aw,di,er,eJ,gj,zd,FU,KV,FT] [ay (ft ag kJ) [12,13,14,16,35,36,37,38]]]],
 a8 (eq di tV) [aU (eq di vf) [mg (cJ 4) [s4 (tk 4 aB au) aK aY bI bC,ca],
 aP (eQ ag 4) [jo,s4 (tk 4 aB au) aK aY bI bC,ca] [az cZ [lt (mi ca aw) a0n],
 az (eM ag 20000) [jo,mi ca aw,di,er,eJ,gj],
 aP (h9 ag) [jo,mi ca aw,di,er,eJ,gj,zd,FU,KV,FT] [ay (ft ag kJ) [12,13,14,16,35,36,37,38]]]],
 a8 (eq di vf) [bW oj (pl iB aw) [aP iy [ar,fq,.str [93],oj] [mg (cJ 4) [s4 (tk 4 aB au) aK aY bI bC,ca],
 aP (eQ ag 4) [zd,s4 (tk 4 aB au) aK aY bI bC,ca] [az cZ [lt (mi ca aw) aaV],
 az (eM ag 20000) [zd,mi ca aw,di,er,eJ,gj],
 aP (h9 ag) [zd,mi ca aw,di,er,eJ,gj,FU,KV,FT,a9P] [ay (qH ag kJ) [12,13,14,16,31,36,37,38,39]]]]],
 aP cY [ar,fq,.str [93]] [mg (cJ 4) [s4 (tk 4 aB au) aK aY bI bC,ca],
 aP (eQ ag 4) [zd,s4 (tk 4 aB au) aK aY bI bC,ca] [az cZ [lt (mi ca aw) aaV],
 az (eM ag 20000) [zd,mi ca aw,di,er,eJ,gj],
 aP (h9 ag) [zd,mi ca aw,di,er,eJ,gj,FU,KV,FT,a9P] [ay (ft ag kJ) [12,13,14,16,36,37,38,39]]]]]]]],
 aC (cK ag (PT false)) [12,25,26,27,28,29] [aU (eq di tV) [mg (cJ 4) [s4 (tk 4 aB au) aK aY bI bC,ca],
 aP (eQ ag 4) [jo,s4 (tk 4 aB au) aK aY bI bC,ca] [az cZ [lt (mi ca aw) a0n],
 az (eM ag 20000) [jo,mi ca aw,di,er,eJ,gj],
 aP (h9 ag) [jo,mi ca aw,di,er,eJ,gj,zd,FU,KV,FT] [ay (ft ag kJ) [12,13,14,16,35,36,37,38]]]],
 a8 (eq di tV) [aU (eq di vf) [mg (cJ 4) [s4 (tk 4 aB au) aK aY bI bC,ca],
 aP (eQ ag 4) [jo,s4 (tk 4 aB au) aK aY bI bC,ca] [az cZ [lt (mi ca aw) a0n],
 az (eM ag 20000) [jo,mi ca aw,di,er,eJ,gj],
 aP (h9 ag) [jo,mi ca aw,di,er,eJ,gj,zd,FU,KV,FT] [ay (ft ag kJ) [12,13,14,16,35,36,37,38]]]],
 a8 (eq di vf) [mg (cJ 4) [s4 (tk 4 aB au) aK aY bI bC,ca],
 aP (eQ ag 4) [jo,s4 (tk 4 aB au) aK aY bI bC,ca] [az cZ [lt (mi ca aw) a0n],
 az (eM ag 20000) [jo,mi ca aw,di,er,eJ,gj],
 aP (h9 ag) [jo,mi ca aw,di,er,eJ,gj,zd,FU,KV,FT] [ay (ft ag kJ) [12,13,14,16,35,36,37,38]]]]]]]],
 aP cY [ar,dG,.str [124]] [mg (cJ 4) [s4 (tk 4 aB au) aK aY bI bC,ca],
 aP (eQ ag 4) [fq,s4 (tk 4 aB au) aK aY bI bC,ca] [az cZ [lt (mi ca aw) WB],
 az (eM ag 20000) [fq,mi ca aw,aG,aG,.str [],ns],
 aP (h9 ag) [fq,mi ca aw,aG,aG,.str [],ns,oj,oi,FV,jo] [ay (ft ag kJ) [12,13,14,16,31,32,33,34]]]]],
 aP cY [ar,dG,.str [124]] [bW cW (pl iB aw) [aP iy [ar,dG,.str [93],cW] [mg (cJ 4) [s4 (tk 4 aB au) aK aY bI bC,ca],
 aP (eQ ag 4) [gj,s4 (tk 4 aB au) aK aY bI bC,ca] [az cZ [lt (mi ca aw) a7s],
 az (eM ag 20000) [gj,mi ca aw,tV,aG,.str [],ns],
 aP (h9 ag) [gj,mi ca aw,tV,aG,.str [],ns,fq,oj,oi,FV] [ay (qH ag kJ) [12,13,14,16,25,30,31,32,33]]]]],
 aP cY [ar,dG,.str [93]] [mg (cJ 4) [s4 (tk 4 aB au) aK aY bI bC,ca],
 aP (eQ ag 4) [gj,s4 (tk 4 aB au) aK aY bI bC,ca] [az cZ [lt (mi ca aw) a7s],
 az (eM ag 20000) [gj,mi ca aw,tV,aG,.str [],ns],
 aP (h9 ag) [gj,mi ca aw,tV,aG,.str [],ns,fq,oj,oi,FV] [ay (ft ag kJ) [12,13,14,16,30,31,32,33]]]]]]]]],
 aC (cK ag (PT false)) [12,13,17,18,19,20] [gS (eS 4 56 1) [16,14],
 bW au ca [mg (cJ 4) [s4 (tk 4 aB au) aK aY bI bC,ca],
 aP (eQ ag 4) [eJ,s4 (tk 4 aB au) aK aY bI bC,ca] [az cZ [lt (mi ca aw) a7t],
 az (eM ag 20000) [eJ,mi ca aw,tV,aG,.str [],ns],
 aP (h9 ag) [eJ,mi ca aw,tV,aG,.str [],ns,gj,fq,oj,oi] [ay (ft ag kJ) [12,13,14,16,29,30,31,32]]]]]]]]]]] dw (ba zg (ba zX (ba a (ba I (ba (RQ 20000) dy))))) (by
  repeat' first|exact b4|apply du|refine cr ?_ ?_
  all_goals intro E h
  all_goals first|omega|(obtain⟨I,Y⟩:=h;revert Y;simp only[bq,bu];intros;(first|have q:=cm (S:=gs E 12) (p:=gi E 13) (p':=gi E 21) (by assumption) (by omega) (by omega)|skip);exact no2 (x:=must [44] (dr (gs E 12) (gi E 21))) (by assumption) (by assumption))|(obtain⟨I,Y⟩:=h;revert Y;simp only[bq,bu];intros;(first|have q:=cm (S:=gs E 12) (p:=gi E 13) (p':=gi E 21) (by assumption) (by omega) (by omega)|skip);exact no2 (x:=must [124] (dr (gs E 12) (gi E 21))) (by assumption) (by assumption))|(obtain⟨I,Y⟩:=h;revert Y;simp only[bq,bu];intros;(first|have q:=cm (S:=gs E 12) (p:=gi E 13) (p':=gi E 21) (by assumption) (by omega) (by omega)|skip);exact ke (by assumption) (by omega) I)|(obtain⟨I,Y⟩:=h;revert Y;simp only[bq,bu];intros;(first|have q:=cm (S:=gs E 12) (p:=gi E 13) (p':=gi E 21) (by assumption) (by omega) (by omega)|skip);exact Np (by assumption) (by assumption) I)|(obtain⟨I,Y⟩:=h;revert Y;simp only[bq,bu];intros;(first|have q:=cm (S:=gs E 12) (p:=gi E 13) (p':=gi E 21) (by assumption) (by omega) (by omega)|skip);exact I ⟨(a1N (by assumption) (by assumption)).1,by omega,by omega,by omega,_,(a1N (by assumption) (by assumption)).2⟩)|(obtain⟨I,Y⟩:=h;revert Y;simp only[bq,bu];intros;(first|have q:=cm (S:=gs E 12) (p:=gi E 13) (p':=gi E 21) (by assumption) (by omega) (by omega)|skip);exact I (by omega))|(obtain⟨I,Y⟩:=h;revert Y;simp only[bq,bu];intros;(first|have q:=cm (S:=gs E 12) (p:=gi E 13) (p':=gi E 21) (by assumption) (by omega) (by omega)|skip);exact I ⟨_,_,by assumption,by assumption,by rw[Xw (by assumption) (by assumption),ei (a1N (by assumption) (by assumption)).2 (by assumption)];assumption⟩)|(obtain⟨I,Y⟩:=h;revert Y;simp only[bq,bu];intros;(first|have q:=cm (S:=gs E 12) (p:=gi E 13) (p':=gi E 21) (by assumption) (by omega) (by omega)|skip);exact I ⟨⟨_,by assumption,by rw[Xw (by assumption) (by assumption),ei (a1N (by assumption) (by assumption)).2 (by assumption)];assumption⟩,_,by assumption⟩)|(obtain⟨I,Y⟩:=h;revert Y;simp only[bq,bu];intros;(first|have q:=cm (S:=gs E 12) (p:=gi E 13) (p':=gi E 21) (by assumption) (by omega) (by omega)|skip);exact I ⟨(fzA (by assumption) (by assumption) (by assumption)).2.1,(fzA (by assumption) (by assumption) (by assumption)).2.2.1⟩)|(obtain⟨I,Y⟩:=h;revert Y;simp only[bq,bu];intros;(first|have q:=cm (S:=gs E 12) (p:=gi E 13) (p':=gi E 21) (by assumption) (by omega) (by omega)|skip);exact I ⟨by omega,by omega,by omega,_,_,(fzA (by assumption) (by assumption) (by assumption)).1,zp,(fzA (by assumption) (by assumption) (by assumption)).2.2.2⟩)|(obtain⟨I,Y⟩:=h;revert Y;simp only[bq,bu];intros;(first|have q:=cm (S:=gs E 12) (p:=gi E 13) (p':=gi E 21) (by assumption) (by omega) (by omega)|skip);exact I ⟨by omega,by omega,by omega,_,_,(fzA (by assumption) (by assumption) (by assumption)).1,by assumption,(fzA (by assumption) (by assumption) (by assumption)).2.2.2⟩)|(obtain⟨I,Y⟩:=h;revert Y;simp only[bq,bu];intros;(first|have q:=cm (S:=gs E 12) (p:=gi E 13) (p':=gi E 21) (by assumption) (by omega) (by omega)|skip);exact I ⟨⟨_,by assumption,a42 (by assumption)⟩,_,by assumption⟩)|(obtain⟨I,Y⟩:=h;revert Y;simp only[bq,bu];intros;(first|have q:=cm (S:=gs E 12) (p:=gi E 13) (p':=gi E 21) (by assumption) (by omega) (by omega)|skip);refine I ⟨_,_,by assumption,?_,(Nq (by assumption)).trans (XP (by assumption) (by assumption) (by assumption))⟩;exact mkR (fzA (by assumption) (by assumption) (by assumption)).1 zp (by assumption) (by assumption) (by assumption) (by have:=eN ‹ff _ _ _ _›;simp;omega))|(obtain⟨I,Y⟩:=h;revert Y;simp only[bq,bu];intros;(first|have q:=cm (S:=gs E 12) (p:=gi E 13) (p':=gi E 21) (by assumption) (by omega) (by omega)|skip);refine I ⟨_,_,by assumption,?_,(Nq (by assumption)).trans (XN (by assumption) (by assumption) (by assumption) (tkN (by assumption) (by assumption) (by assumption)) (by assumption))⟩;exact mkR (fzA (by assumption) (by assumption) (by assumption)).1 (by assumption) (by assumption) (by assumption) (by assumption) (by have:=eN ‹ff _ _ _ _›;simp;omega))|(obtain⟨I,Y⟩:=h;revert Y;simp only[bq,bu];intros;(first|have q:=cm (S:=gs E 12) (p:=gi E 13) (p':=gi E 21) (by assumption) (by omega) (by omega)|skip);exact I ⟨⟨_,by assumption,(Nq (by assumption)).trans (QF (by assumption) (by assumption) (by assumption))⟩,_,by assumption⟩)|(obtain⟨I,Y⟩:=h;revert Y;simp only[bq,bu];intros;(first|have q:=cm (S:=gs E 12) (p:=gi E 13) (p':=gi E 21) (by assumption) (by omega) (by omega)|skip);exact I ⟨⟨_,by assumption,(Nq (by assumption)).trans (Ar (by assumption) (by assumption) (by assumption) (tk8 (by assumption) (by assumption)))⟩,_,by assumption⟩)|(obtain⟨I,Y⟩:=h;revert Y;simp only[bq,bu];intros;(first|have q:=cm (S:=gs E 12) (p:=gi E 13) (p':=gi E 21) (by assumption) (by omega) (by omega)|skip);exact I ⟨⟨_,by assumption,(Nq (by assumption)).trans (Ar (by assumption) (by assumption) (by assumption) (tk9 (by assumption) (by assumption)))⟩,_,by assumption⟩)|(obtain⟨I,Y⟩:=h;revert Y;simp only[bq,bu];intros;(first|have q:=cm (S:=gs E 12) (p:=gi E 13) (p':=gi E 21) (by assumption) (by omega) (by omega)|skip);exact I ⟨⟨_,by assumption,(Nq (by assumption)).trans (KA (by assumption) (by assumption) (by assumption) (by assumption))⟩,_,by assumption⟩)|(obtain⟨I,Y⟩:=h;revert Y;simp only[bq,bu];intros;(first|have q:=cm (S:=gs E 12) (p:=gi E 13) (p':=gi E 21) (by assumption) (by omega) (by omega)|skip);exact I ⟨⟨_,by assumption,(Nq (by assumption)).trans (KB (by assumption) (by assumption) (by assumption))⟩,_,by assumption⟩)
  )
theorem a83(N:Nat)(a:O (Ai (N+1)))(I:O (MY N)):O (Vc (N+1)):=b6 [aC (Uk (N+1)) [9,10,11] [bW af (pl cj aw) [aU (lq cj aE) [aC iE [9] [aC fE [10] [aC iE [11] [aP iy [aH,af,aj,pl af bz] [bW ar (pl cj aw) [aC iy [9,10,11,12] [az (xV ag) [aH,af,aj,ar,ns]]],
 aC cY [9,10,11] [ay nL [9,10,11]]],
 aC cY [9,10,11] [ay (ms (N+1)) [9,10],
 bW aB (pl cj aw) [aC (jq ag (PT false)) [9,10,16,12,13,14,15] [aP iy [aH,aB,aj,pl aB bz] [bW bI (pl cj aw) [aC iy [9,16,11,19] [aP (eQ ag 4) [bC,s4 n4 ar aq au aT,aw] [ay (xV ag) [9,10,11,19,20]]]],
 gS cY [9,16,11]],
 aC cY [9,16,11] [bW bI (pl cj aw) [aP iy [aH,aB,.str [44],bI] [az (qS ag N) [aH,bI,aj,aw,s4 n4 ar aq au aT],
 bW bT (pl cj aw) [aP (pP ag) [aH,bI,aj,aw,s4 n4 ar aq au aT,bT,dG] [ay (xV ag) [9,10,11,22,21]]],
 aP (jH ag) [aH,bI,aj,aw,s4 n4 ar aq au aT] [ay nL [9,10,11]]]],
 aP cY [aH,aB,.str [44]] [ay nL [9,10,11]]]]],
 aC (cK ag (PT false)) [9,10,12,13,14,15] [ay nL [9,10,11]]]]]]]]]] dw (ba zg (ba zX (ba a (ba I dy)))) (by
  repeat' first|exact b4|apply du|refine cr ?_ ?_
  all_goals intro E h
  all_goals first|omega|grind (ematch:=4) (splits:=6) [Bx,a9H,a5o,a5q,a5p,X4,Xv,ph,kc,kI,qK,ke,gA,mq,->kr,->ei,->gk,->jA,->b8,h3,jD,->cm,->eN]
  )
end Go.Proofs.YtokipodjggomfaaGreatDoor
