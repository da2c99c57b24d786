/- A part of the proof of ScriptReads: 1K2. Conditions: those of each theorem. -/
import Derived.Test.YtokipodjggomfaaGreatDoorScr1K1
set_option linter.unusedVariables false
set_option linter.unusedSimpArgs false
namespace Go.Proofs.YtokipodjggomfaaGreatDoor
open Go.Proofs.YtokipodjggomfaaGreatDoor.Txt
set_option maxRecDepth 100000
set_option maxHeartbeats 4000000
theorem U4:∀N,O (a8T N)
  |0=>jE
  |N+1=>b6 [aC (ks (N+1)) [11,13,12,16,14] [aU (lq aq ar) [bW aq (pl bz aw) [bW ar (pl bz aw) [aU (lq bz aE) [aC iE [11] [aC fE [12] [aC fE [13] [aU (gq ar bz) [ay gy [11,13]],
 a8 (gq ar bz) [aU (eq (ix aj ar) sT) [gS (cJ 1) [16,14],
 aU (gt (ln1 (.a1 .bs (tk 1 aB au))) tj) [ay gy [11,13]],
 a8 (gt (ln1 (.a1 .bs (tk 1 aB au))) tj) [az cZ [lq (ln1 (.a1 .bs (tk 1 aB au))) aE],
 aP jG [.a1 .bs (tk 1 aB au)] [ay gy [11,13]],
 aP et [.a1 .bs (tk 1 aB au)] [az cZ [lq (ln1 (.a1 .bs (tk 1 aB au))) aE],
 aP h4 [.a1 .bs (tk 1 aB au),aK] [aU (ne aK (aR aj aq bK)) [ay gy [11,13]],
 a8 (ne aK (aR aj aq bK)) [az lV [aj,aq,bK,.a1 .bs (tk 1 aB au)],
 az eC [bK,pl bz aw]]]]]],
 a8 (eq (ix aj ar) sT) [aU (ne (ix aj ar) vi) [gS (eS 1 1 1) [16,14],
 bW au ca [az eC [bK,pl bz aw],
 az cZ [lq aq bK],
 az (ks N) [aj,aq,bK,sn (tk 1 aB au) (ix aj ar),ca],
 bW dG (pl bz aw) [aC lV [11,13,21,20] [ay lV [11,13,21,20]]],
 aC gy [11,13] [ay gy [11,13]]]],
 a8 (ne (ix aj ar) vi) [az eC [bK,pl bz aw],
 bW aK (pl bz aw) [aP iy [aj,bK,.str [39],aK] [gS (eS 1 1 1) [16,14],
 bW au ca [az cZ [lq aq aK],
 az (ks N) [aj,aq,aK,sn (tk 1 aB au) sT,ca],
 bW bT (pl bz aw) [aC lV [11,13,22,21] [ay lV [11,13,22,21]]],
 aC gy [11,13] [ay gy [11,13]]]]],
 aP cY [aj,bK,.str [39]] [az eC [bK,pl bz aw],
 bW aK (pl bz aw) [aP iy [aj,bK,.str [92],aK] [gS (eS 1 1 1) [16,14],
 bW au ca [az cZ [lq aq aK],
 az (ks N) [aj,aq,aK,sn (tk 1 aB au) vi,ca],
 bW bT (pl bz aw) [aC lV [11,13,22,21] [ay lV [11,13,22,21]]],
 aC gy [11,13] [ay gy [11,13]]]]],
 aP cY [aj,bK,.str [92]] [az eC [bK,pl bz aw],
 bW aK (pl bz aw) [aP iy [aj,bK,.str [120],aK] [aU (gt (pl aK fZ) bz) [ay gy [11,13]],
 a8 (gt (pl aK fZ) bz) [aP Abs.JQ [.str [48,49,50,51,52,53,54,55,56,57,97,98,99,100,101,102],ix aj aK,aY] [aP Abs.JQ [.str [48,49,50,51,52,53,54,55,56,57,97,98,99,100,101,102],ix aj acK,bI] [aU (lt aY aG) [ay gy [11,13]],
 a8 (lt aY aG) [aU (lt bI aG) [ay gy [11,13]],
 a8 (lt bI aG) [gS (eS 1 1 1) [16,14],
 bW au ca [az eC [pl aK fZ,pl bz aw],
 az cZ [lq aq (pl aK fZ)],
 az (ks N) [aj,aq,pl aK fZ,sn (tk 1 aB au) (.a1 (.conv .u8) (.a2 (.bin .or) (.a2 (.bin .shl) aY (.int .u64 4)) bI)),ca],
 bW cG (pl bz aw) [aC lV [11,13,24,23] [ay lV [11,13,24,23]]],
 aC gy [11,13] [ay gy [11,13]]]]]]]]]],
 aP cY [aj,bK,.str [120]] [ay gy [11,13]]]]]]]]]]]]]]]] (vo a0m dw) (ba (U4 N) (ba wv (ba Rj (ba Ls dy)))) (by
  repeat' first|exact b4|apply du|refine cr ?_ ?_
  all_goals intro E h
  all_goals first|omega|(have e2:=pG (l:=gc E 16) (i:=gi E 14) (by omega);(try simp only[e2]at h);have q:fS (gs E 11) (gi E 13).toNat (gi E 12).toNat (gc E 16):=(by simp only[<-hx]at h;exact h.1.1.1.2);obtain⟨I,Y⟩:=h;exact I Y.1)|(have e2:=pG (l:=gc E 16) (i:=gi E 14) (by omega);(try simp only[e2]at h);have q:fS (gs E 11) (gi E 13).toNat (gi E 12).toNat (gc E 16):=(by simp only[<-hx]at h;exact h.1.1.1.2);obtain⟨I,Y⟩:=h;exact I (XH q (by omega)))|(have e2:=pG (l:=gc E 16) (i:=gi E 14) (by omega);(try simp only[e2]at h);have q:fS (gs E 11) (gi E 13).toNat (gi E 12).toNat (gc E 16):=(by simp only[<-hx]at h;exact h.1.1.1.2);obtain⟨I,Y⟩:=h;exact I (S8 q (by omega) (by omega) (by omega) (.inr (.inl (by omega)))))|(have e2:=pG (l:=gc E 16) (i:=gi E 14) (by omega);(try simp only[e2]at h);have q:fS (gs E 11) (gi E 13).toNat (gi E 12).toNat (gc E 16):=(by simp only[<-hx]at h;exact h.1.1.1.2);obtain⟨I,Y⟩:=h;exact I (S8 q (by omega) (by omega) (by omega) (.inl Y.1.2)))|(have e2:=pG (l:=gc E 16) (i:=gi E 14) (by omega);(try simp only[e2]at h);have q:fS (gs E 11) (gi E 13).toNat (gi E 12).toNat (gc E 16):=(by simp only[<-hx]at h;exact h.1.1.1.2);obtain⟨I,Y⟩:=h;obtain⟨b,⟨-,f⟩,Y⟩:=Y;exact I (S8 q (by omega) (by omega) (by omega) (.inr (.inr (by rw[<-f];exact b)))))|(have e2:=pG (l:=gc E 16) (i:=gi E 14) (by omega);(try simp only[e2]at h);have q:fS (gs E 11) (gi E 13).toNat (gi E 12).toNat (gc E 16):=(by simp only[<-hx]at h;exact h.1.1.1.2);obtain⟨I,Y⟩:=h;obtain⟨b,⟨-,f⟩,⟨-,g⟩,Y⟩:=Y;exact I ⟨⟨by omega,by omega⟩,a5e q (by omega) (by omega) (by omega) (by omega) (by omega) g (by rw[<-f];exact b)⟩)|(have e2:=pG (l:=gc E 16) (i:=gi E 14) (by omega);(try simp only[e2]at h);have q:fS (gs E 11) (gi E 13).toNat (gi E 12).toNat (gc E 16):=(by simp only[<-hx]at h;exact h.1.1.1.2);obtain⟨I,Y⟩:=h;exact I ⟨⟨⟨by omega,by omega⟩,by omega,by omega⟩,by omega,a5f q (by omega) (by omega) (by omega) (by omega),by omega,by omega,by omega⟩)|(have e2:=pG (l:=gc E 16) (i:=gi E 14) (by omega);(try simp only[e2]at h);have q:fS (gs E 11) (gi E 13).toNat (gi E 12).toNat (gc E 16):=(by simp only[<-hx]at h;exact h.1.1.1.2);obtain⟨I,Y⟩:=h;exact I ⟨⟨by omega,by omega⟩,by omega,Ta q (by omega) (by omega) (by omega) (.inl rfl) Y.2.1,by omega,by omega,by omega⟩)|(have e2:=pG (l:=gc E 16) (i:=gi E 14) (by omega);(try simp only[e2]at h);have q:fS (gs E 11) (gi E 13).toNat (gi E 12).toNat (gc E 16):=(by simp only[<-hx]at h;exact h.1.1.1.2);obtain⟨I,Y⟩:=h;exact I ⟨⟨by omega,by omega⟩,by omega,Ta q (by omega) (by omega) (by omega) (.inr rfl) Y.2.1,by omega,by omega,by omega⟩)|(have e2:=pG (l:=gc E 16) (i:=gi E 14) (by omega);(try simp only[e2]at h);have q:fS (gs E 11) (gi E 13).toNat (gi E 12).toNat (gc E 16):=(by simp only[<-hx]at h;exact h.1.1.1.2);obtain⟨I,Y⟩:=h;exact I (a5c q (by omega) (by omega) (by omega) Y.2.1 (by omega)))|(have e2:=pG (l:=gc E 16) (i:=gi E 14) (by omega);(try simp only[e2]at h);have q:fS (gs E 11) (gi E 13).toNat (gi E 12).toNat (gc E 16):=(by simp only[<-hx]at h;exact h.1.1.1.2);obtain⟨I,Y⟩:=h;obtain⟨b,⟨-,c⟩,⟨-,d⟩,e,a,Y⟩:=Y;exact I (S9 q (by omega) (by omega) (by omega) a e d c (by omega)))|(have e2:=pG (l:=gc E 16) (i:=gi E 14) (by omega);(try simp only[e2]at h);have q:fS (gs E 11) (gi E 13).toNat (gi E 12).toNat (gc E 16):=(by simp only[<-hx]at h;exact h.1.1.1.2);obtain⟨I,Y⟩:=h;obtain⟨b,j,⟨-,c⟩,⟨-,d⟩,e,a,Y⟩:=Y;exact I (S9 q (by omega) (by omega) (by omega) a e d c (by omega)))|(have e2:=pG (l:=gc E 16) (i:=gi E 14) (by omega);(try simp only[e2]at h);have q:fS (gs E 11) (gi E 13).toNat (gi E 12).toNat (gc E 16):=(by simp only[<-hx]at h;exact h.1.1.1.2);obtain⟨I,Y⟩:=h;obtain⟨-,k,Z,⟨-,c⟩,⟨-,d⟩,e,a,Y⟩:=Y;exact I ⟨⟨by omega,by omega⟩,by omega,a5d q (by omega) (by omega) (by omega) a e d c Z k,by omega,by omega,by omega⟩)|(have e2:=pG (l:=gc E 16) (i:=gi E 14) (by omega);(try simp only[e2]at h);have q:fS (gs E 11) (gi E 13).toNat (gi E 12).toNat (gc E 16):=(by simp only[<-hx]at h;exact h.1.1.1.2);obtain⟨I,Y⟩:=h;obtain⟨a,m,n,Y⟩:=Y;exact I (XG q (by omega) (by omega) (by omega) n m a))
  )
theorem a74:O ab2:=b6 [aU (lq (mi af aw) af) [bW (mi af aw) (pl cj aw) [bW af (pl cj aw) [aU (lq cj aE) [aC iE [9] [aC fE [10] [aU (gq af cj) [az gy [aH,mi af aw]],
 a8 (gq af cj) [aU (eq (ix aH af) sT) [aU (ne (.str [39,39]) (aR aH (mi af aw) bo)) [az gy [aH,mi af aw]],
 a8 (ne (.str [39,39]) (aR aH (mi af aw) bo)) [az lV [aH,mi af aw,bo,.str []],
 az eC [bo,pl cj aw]]],
 a8 (eq (ix aH af) sT) [aU (ne (ix aH af) vi) [az eC [bo,pl cj aw],
 az cZ [lq (mi af aw) bo],
 az (ks 5000) [aH,mi af aw,bo,sn (.a1 (.nl [(.int .u8)]) (.bool true)) (ix aH af),aw],
 bW aB (pl cj aw) [aP lV [aH,mi af aw,aB,aT] [az lV [aH,mi af aw,aB,aT]]],
 aP gy [aH,mi af aw] [az gy [aH,mi af aw]]],
 a8 (ne (ix aH af) vi) [az eC [bo,pl cj aw],
 bW ar (pl cj aw) [aP iy [aH,bo,.str [39],ar] [az cZ [lq (mi af aw) ar],
 az (ks 5000) [aH,mi af aw,ar,sn (.a1 (.nl [(.int .u8)]) (.bool true)) sT,aw],
 bW aK (pl cj aw) [aP lV [aH,mi af aw,aK,aB] [az lV [aH,mi af aw,aK,aB]]],
 aP gy [aH,mi af aw] [az gy [aH,mi af aw]]]],
 aP cY [aH,bo,.str [39]] [az eC [bo,pl cj aw],
 bW ar (pl cj aw) [aP iy [aH,bo,.str [92],ar] [az cZ [lq (mi af aw) ar],
 az (ks 5000) [aH,mi af aw,ar,sn (.a1 (.nl [(.int .u8)]) (.bool true)) vi,aw],
 bW aK (pl cj aw) [aP lV [aH,mi af aw,aK,aB] [az lV [aH,mi af aw,aK,aB]]],
 aP gy [aH,mi af aw] [az gy [aH,mi af aw]]]],
 aP cY [aH,bo,.str [92]] [az eC [bo,pl cj aw],
 bW ar (pl cj aw) [aP iy [aH,bo,.str [120],ar] [aU (gt (pl ar fZ) cj) [az gy [aH,mi af aw]],
 a8 (gt (pl ar fZ) cj) [aP Abs.JQ [.str [48,49,50,51,52,53,54,55,56,57,97,98,99,100,101,102],ix aH ar,aq] [aP Abs.JQ [.str [48,49,50,51,52,53,54,55,56,57,97,98,99,100,101,102],ix aH bK,au] [aU (lt aq aG) [az gy [aH,mi af aw]],
 a8 (lt aq aG) [aU (lt au aG) [az gy [aH,mi af aw]],
 a8 (lt au aG) [az eC [pl ar fZ,pl cj aw],
 az cZ [lq (mi af aw) (pl ar fZ)],
 az (ks 5000) [aH,mi af aw,pl ar fZ,sn (.a1 (.nl [(.int .u8)]) (.bool true)) (.a1 (.conv .u8) (.a2 (.bin .or) (.a2 (.bin .shl) aq (.int .u64 4)) au)),aw],
 bW bI (pl cj aw) [aP lV [aH,mi af aw,bI,aY] [az lV [aH,mi af aw,bI,aY]]],
 aP gy [aH,mi af aw] [az gy [aH,mi af aw]]]]]]]]],
 aP cY [aH,bo,.str [120]] [az gy [aH,mi af aw]]]]]]]]]]]]]] (vo a0m dw) (ba (U4 5000) (ba wv (ba Rj (ba Ls dy)))) (by
  repeat' first|exact b4|apply du|refine cr ?_ ?_
  all_goals intro E h
  all_goals first|omega|(have q:=n9 (S:=gs E 9) (p:=gi E 10) (by omega) (by omega);obtain⟨I,Y⟩:=h;exact I Y.1)|(have q:=n9 (S:=gs E 9) (p:=gi E 10) (by omega) (by omega);obtain⟨I,Y⟩:=h;exact I (XH q (by omega)))|(have q:=n9 (S:=gs E 9) (p:=gi E 10) (by omega) (by omega);obtain⟨I,Y⟩:=h;exact I (S8 q (by omega) (by omega) (by omega) (.inr (.inr (by rw[E3];exact Y.1)))))|(have q:=n9 (S:=gs E 9) (p:=gi E 10) (by omega) (by omega);obtain⟨I,Y⟩:=h;exact I (a5e q (by omega) (by omega) (by omega) (by omega) (by decide) rfl (by rw[E3];exact Y.1)))|(have q:=n9 (S:=gs E 9) (p:=gi E 10) (by omega) (by omega);obtain⟨I,Y⟩:=h;exact I ⟨⟨by omega,by omega⟩,by omega,a5f q (by omega) (by omega) (by omega) (by omega),by omega,by omega⟩)|(have q:=n9 (S:=gs E 9) (p:=gi E 10) (by omega) (by omega);obtain⟨I,Y⟩:=h;exact I ⟨by omega,Ta q (by omega) (by omega) (by omega) (.inl rfl) Y.1,by omega,by omega⟩)|(have q:=n9 (S:=gs E 9) (p:=gi E 10) (by omega) (by omega);obtain⟨I,Y⟩:=h;exact I ⟨by omega,Ta q (by omega) (by omega) (by omega) (.inr rfl) Y.1,by omega,by omega⟩)|(have q:=n9 (S:=gs E 9) (p:=gi E 10) (by omega) (by omega);obtain⟨I,Y⟩:=h;exact I (a5c q (by omega) (by omega) (by omega) Y.2.1 (by omega)))|(have q:=n9 (S:=gs E 9) (p:=gi E 10) (by omega) (by omega);obtain⟨I,Y⟩:=h;obtain⟨e,⟨-,b⟩,⟨-,c⟩,d,a,Y⟩:=Y;exact I (S9 q (by omega) (by omega) (by omega) a d c b (by omega)))|(have q:=n9 (S:=gs E 9) (p:=gi E 10) (by omega) (by omega);obtain⟨I,Y⟩:=h;obtain⟨e,f,⟨-,b⟩,⟨-,c⟩,d,a,Y⟩:=Y;exact I (S9 q (by omega) (by omega) (by omega) a d c b (by omega)))|(have q:=n9 (S:=gs E 9) (p:=gi E 10) (by omega) (by omega);obtain⟨I,Y⟩:=h;obtain⟨g,Z,⟨-,b⟩,⟨-,c⟩,d,a,Y⟩:=Y;exact I ⟨by omega,a5d q (by omega) (by omega) (by omega) a d c b Z g,by omega,by omega⟩)|(have q:=n9 (S:=gs E 9) (p:=gi E 10) (by omega) (by omega);obtain⟨I,Y⟩:=h;obtain⟨a,i,j,Y⟩:=Y;exact I (XG q (by omega) (by omega) (by omega) j i a))
  )
theorem L4:∀N,O (a8O N)
  |0=>jE
  |N+1=>b6 [aC (pD ag (N+1)) [14,16,13,21,22,23,24] [aC fE [21] [aC fE [22] [aC iE [23] [aC (Abs.CU (.sl ag)) [24] [aC fE [13] [aU (gq aq aG) [gS sM [13,14],
 gS (Abs.GJ 4) [16,13],
 aP (eQ ag 4) [er,s4 (s4 n4 (.a2 (.at 4 0) aB aq) (.a2 (.at 4 1) aB aq) (.a2 (.at 4 2) aB aq) (.a2 (.at 4 3) aB aq)) dG bT cQ cG,fZ] [az (pD ag N) [au,aB,mi aq aw,vf,aG,.str [],er],
 aP (oE ag) [aB,mi aq aw,vf,aG,.str [],er,eJ,gj,fq,oj] [ay (oE ag) [16,13,21,22,23,24,28,29,30,31]]]],
 a8 (gq aq aG) [ay (oE ag) [16,13,21,22,23,24,21,22,23,24]]]]]]]]] dw (ba (L4 N) dy) (by
  repeat' first|exact b4|apply du|refine cr ?_ ?_
  all_goals intro E h
  all_goals first|omega|grind (ematch:=4) (splits:=6) [mq,a9y,a5i,->ei,->b8]
  )
theorem Z2:O abU:=b6 [aC (CE ag) [9,11,12,13,14,15] [az (pD ag 20000) [aH,aj,mi aH aw,ar,aq,au,aT],
 aP (oE ag) [aj,mi aH aw,ar,aq,au,aT,dG,bT,cQ,cG] [ay (CP ag) [9,11,12,13,14,15,21,22,23,24]]]] dw (ba (L4 20000) dy) (by
  repeat' first|exact b4|apply du|refine cr ?_ ?_
  all_goals intro E h
  all_goals grind (ematch:=4) (splits:=6) [Yn,->ei,->b8]
  )
theorem a7l:O abS:=b6 [bW ar (pl bz aw) [aU (lq bz aE) [aC iE [11] [aC fE [12] [aC iE [10] [aC fE [9] [bW aT (pl bz aw) [aP eu [aj,ar,aG,aQ,aT,au] [bW aK (pl bz aw) [aC iy [11,15,10,17] [ay zu [11,12,10,17,14]]],
 aC cY [11,15,10] [ay oD [11,12,10]]]],
 aP bU [aj,ar,aG,aQ] [ay oD [11,12,10]]]]]]]]] dw (ba C2 (ba wv dy)) (by
  repeat' first|exact b4|apply du|refine cr ?_ ?_
  all_goals intro E h
  all_goals grind (ematch:=4) (splits:=6) [a5g,Tg,Tf,mN,mI,mA]
  )
end Go.Proofs.YtokipodjggomfaaGreatDoor
