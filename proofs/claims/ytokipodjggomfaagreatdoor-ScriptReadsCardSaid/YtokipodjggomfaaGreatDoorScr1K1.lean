/- A part of the proof of ScriptReads: 1K1. Conditions: those of each theorem. -/
import Derived.Test.YtokipodjggomfaaGreatDoorScr1Fx
set_option linter.unusedVariables false
set_option linter.unusedSimpArgs false
namespace Go.Proofs.YtokipodjggomfaaGreatDoor
open Go.Proofs.YtokipodjggomfaaGreatDoor.Txt
set_option maxRecDepth 100000
set_option maxHeartbeats 4000000
theorem wv:O adr:=b6 [bW aj (pl fv aw) [aU (lq fv aE) [aC iE [10] [aC fE [11] [aC iE [9] [aU (gq (ln1 (aR af aj fv)) cj) [mg Abs.v7 [aG,cj,ln1 (aR af aj fv)],
 aU (eq (aR (aR af aj fv) aG cj) aH) [az iy [af,aj,aH,pl aj cj],
 az eC [pl aj cj,pl fv aw]],
 a8 (eq (aR (aR af aj fv) aG cj) aH) [ay cY [10,11,9]]],
 a8 (gq (ln1 (aR af aj fv)) cj) [ay cY [10,11,9]]]]]]]] dw dy (by
  repeat' first|exact b4|apply du|refine cr ?_ ?_
  all_goals intro E h
  all_goals first|omega|grind (ematch:=4) (splits:=6) [a9C,XS,XR]
  )
theorem QZ:O abJ:=b6 [aC kdU [8] [aU (gq aX FX) [aU (lq aX Dz) [ay zr [8]],
 a8 (lq aX Dz) [ay oA [8]]],
 a8 (gq aX FX) [ay oA [8]]]] dw dy (by
  repeat' first|exact b4|apply du|refine cr ?_ ?_
  all_goals intro E h
  all_goals try simp only[Nk,Uq]at h
  all_goals omega
  )
theorem Z5:O abW:=b6 [aC kdU [8] [aC zr [8] [ay vj [8]],
 aC oA [8] [aU (gq aX a2m) [aU (lq aX a2l) [ay vj [8]],
 a8 (lq aX a2l) [aU (eq aX a2k) [ay vj [8]],
 a8 (eq aX a2k) [ay oF [8]]]],
 a8 (gq aX a2m) [aU (gq aX oP) [aU (lq aX AU) [ay vj [8]],
 a8 (lq aX AU) [aU (eq aX a2n) [ay vj [8]],
 a8 (eq aX a2n) [ay oF [8]]]],
 a8 (gq aX oP) [ay oF [8]]]]]] dw (ba QZ dy) (by
  repeat' first|exact b4|apply du|refine cr ?_ ?_
  all_goals intro E h
  all_goals try simp only[Nk,Uq]at h
  all_goals omega
  )
theorem Uf:∀N,O (a8L N)
  |0=>jE
  |N+1=>b6 [aC (pB (N+1)) [11,13,12] [aU (lq aq ar) [bW aq (pl bz aw) [bW ar (pl bz aw) [aU (lq bz aE) [aC iE [11] [aC fE [12] [aC fE [13] [aC fE [10] [aC fE [9] [aU (lt ar bz) [aU (gq (ix aj ar) oP) [aU (lq (ix aj ar) AU) [az eC [bK,pl bz aw],
 az cZ [lq aq bK],
 az (pB N) [aj,aq,bK],
 bW aT (pl bz aw) [aC eu [11,13,9,10,15,14] [ay eu [11,13,9,10,15,14]]],
 aC bU [11,13,9,10] [ay bU [11,13,9,10]]],
 a8 (lq (ix aj ar) AU) [az sN [aR aj aq ar],
 aP Abs.nO [aR aj aq ar,au] [ay Ao [14],
 aC qD [14,15] [aU (ne aT (aR aj aq ar)) [ay bU [11,13,9,10]],
 a8 (ne aT (aR aj aq ar)) [aU (lt au aH) [ay bU [11,13,9,10]],
 a8 (lt au aH) [aU (gt au af) [ay bU [11,13,9,10]],
 a8 (gt au af) [ay eu [11,13,9,10,12,14]]]]]],
 aP Abs.iR [aR aj aq ar] [ay bU [11,13,9,10]]]],
 a8 (gq (ix aj ar) oP) [az sN [aR aj aq ar],
 aP Abs.nO [aR aj aq ar,au] [ay Ao [14],
 aC qD [14,15] [aU (ne aT (aR aj aq ar)) [ay bU [11,13,9,10]],
 a8 (ne aT (aR aj aq ar)) [aU (lt au aH) [ay bU [11,13,9,10]],
 a8 (lt au aH) [aU (gt au af) [ay bU [11,13,9,10]],
 a8 (gt au af) [ay eu [11,13,9,10,12,14]]]]]],
 aP Abs.iR [aR aj aq ar] [ay bU [11,13,9,10]]]],
 a8 (lt ar bz) [az sN [aR aj aq ar],
 aP Abs.nO [aR aj aq ar,au] [ay Ao [14],
 aC qD [14,15] [aU (ne aT (aR aj aq ar)) [ay bU [11,13,9,10]],
 a8 (ne aT (aR aj aq ar)) [aU (lt au aH) [ay bU [11,13,9,10]],
 a8 (lt au aH) [aU (gt au af) [ay bU [11,13,9,10]],
 a8 (gt au af) [ay eu [11,13,9,10,12,14]]]]]],
 aP Abs.iR [aR aj aq ar] [ay bU [11,13,9,10]]]]]]]]]]]]]] (vo Mh (vo Mf dw)) (ba (Uf N) dy) (by
  repeat' first|exact b4|apply du|refine cr ?_ ?_
  all_goals intro E h
  all_goals first|omega|grind (ematch:=4) (splits:=6) [XJ,a6s,a2b,a2a,noD,->a4O]
  )
theorem C2:O abP:=b6 [bW ar (pl bz aw) [aU (lq bz aE) [aC iE [11] [aC fE [12] [aC fE [10] [aC fE [9] [bW aq (pl bz aw) [aP iy [aj,ar,.str [45],aq] [az cZ [lq ar aq],
 ay (pB 5000) [11,12,13],
 bW aT (pl bz aw) [aC eu [11,12,9,10,15,14] [ay eu [11,12,9,10,15,14]]],
 aC bU [11,12,9,10] [ay bU [11,12,9,10]]]],
 aP cY [aj,ar,.str [45]] [az cZ [lq ar ar],
 ay (pB 5000) [11,12,12],
 bW au (pl bz aw) [aC eu [11,12,9,10,14,13] [ay eu [11,12,9,10,14,13]]],
 aC bU [11,12,9,10] [ay bU [11,12,9,10]]]]]]]]]] (vo Mh (vo Mf dw)) (ba wv (ba (Uf 5000) dy)) (by
  repeat' first|exact b4|apply du|refine cr ?_ ?_
  all_goals intro E h
  all_goals first|omega|grind (ematch:=4) (splits:=6) [XM,XL]
  )
theorem UG:∀N,O (a8R N)
  |0=>jE
  |N+1=>b6 [aC (qR (N+1)) [9,10,12] [aC fE [12] [aC fE [10] [aU (lt ar af) [gS sM [12,10],
 gS (Abs.GJ 1) [9,12],
 aP vj [.a2 (.at 1 0) aH ar] [az (qR N) [aH,af,bK],
 aC zw [9] [ay zw [9]],
 aU (gq aq aG) [aC pM [9] [ay pM [9]]]],
 aP oF [.a2 (.at 1 0) aH ar] [ay pM [9],
 az cZ [gq ar aG]]],
 a8 (lt ar af) [ay zw [9]]]]]] dw (ba (UG N) (ba Z5 dy)) (by
  repeat' first|exact b4|apply du|refine cr ?_ ?_
  all_goals intro E h
  all_goals first|omega|grind (ematch:=4) (splits:=6) [XT,QG,XU]
  )
theorem Rj:O abN:=b6 [aU (lq eR aE) [aC iE [8] [aU (eq aX cX) [ay et [8]],
 a8 (eq aX cX) [aU (gt eR tj) [ay et [8]],
 a8 (gt eR tj) [mg sM [aG,eR],
 aP zr [ix aX aG] [az sN [.str [32,97,102,116,101,114,32,97,110,100,32,97,110,100,97,108,115,111,32,98,101,103,105,110,32,99,97,115,101,32,99,97,116,99,104,32,100,105,118,32,101,110,100,32,102,117,110,32,110,111,116,32,111,102,32,111,114,32,111,114,101,108,115,101,32,114,101,99,101,105,118,101,32,114,101,109,32,116,114,121,32,119,104,101,110,32]],
 aP (Abs.Zx true) [.str [32,97,102,116,101,114,32,97,110,100,32,97,110,100,97,108,115,111,32,98,101,103,105,110,32,99,97,115,101,32,99,97,116,99,104,32,100,105,118,32,101,110,100,32,102,117,110,32,110,111,116,32,111,102,32,111,114,32,111,114,101,108,115,101,32,114,101,99,101,105,118,101,32,114,101,109,32,116,114,121,32,119,104,101,110,32],pl (pl (.str [32]) aX) (.str [32])] [ay et [8]],
 aP (Abs.Zx false) [.str [32,97,102,116,101,114,32,97,110,100,32,97,110,100,97,108,115,111,32,98,101,103,105,110,32,99,97,115,101,32,99,97,116,99,104,32,100,105,118,32,101,110,100,32,102,117,110,32,110,111,116,32,111,102,32,111,114,32,111,114,101,108,115,101,32,114,101,99,101,105,118,101,32,114,101,109,32,116,114,121,32,119,104,101,110,32],pl (pl (.str [32]) aX) (.str [32])] [az (qR 5000) [.a1 .sb aX,eR,aG],
 aP zw [.a1 .sb aX] [ay jG [8]],
 aU (gq aj aG) [aP pM [.a1 .sb aX] [ay et [8]]]]],
 aP oA [ix aX aG] [ay et [8]]]]]]] (vo a5N dw) (ba (UG 5000) (ba QZ dy)) (by
  repeat' first|exact b4|apply du|refine cr ?_ ?_
  all_goals intro E h
  all_goals grind (ematch:=4) (splits:=6) [Te,Td,Tc,a19,Tb,a6r,a6E,RO]
  )
theorem U5:∀N,O (a8U N)
  |0=>jE
  |N+1=>b6 [aC (ma (N+1)) [10,12,11] [aU (lq ar aj) [bW ar (pl fv aw) [bW aj (pl fv aw) [aU (lq fv aE) [aC iE [10] [aC fE [11] [aC fE [12] [aU (lt aj fv) [aP vj [ix af aj] [az eC [dz,pl fv aw],
 az cZ [lq ar dz],
 az (ma N) [af,ar,dz],
 bW au (pl fv aw) [aC om [10,12,14,13] [ay om [10,12,14,13]]],
 aC mf [10,12] [ay mf [10,12]]],
 aP oF [ix af aj] [az cZ [lq (ln1 (aR af ar aj)) aE],
 aP jG [aR af ar aj] [az om [af,ar,aj,aR af ar aj]],
 aP et [aR af ar aj] [ay mf [10,12]]]],
 a8 (lt aj fv) [az cZ [lq (ln1 (aR af ar aj)) aE],
 aP jG [aR af ar aj] [az om [af,ar,aj,aR af ar aj]],
 aP et [aR af ar aj] [ay mf [10,12]]]]]]]]]]]] dw (ba (U5 N) (ba Z5 (ba Rj dy))) (by
  repeat' first|exact b4|apply du|refine cr ?_ ?_
  all_goals intro E h
  all_goals first|omega|grind (ematch:=4) (splits:=6) [X1,X0,X2,noL]
  )
theorem a77:O ab3:=b6 [bW af (pl cj aw) [aU (lq cj aE) [aC iE [9] [aC fE [10] [az cZ [lq af af],
 ay (ma 5000) [9,10,10],
 bW aq (pl cj aw) [aC om [9,10,13,12] [ay om [9,10,13,12]]],
 aC mf [9,10] [ay mf [9,10]]]]]]] dw (ba (U5 5000) dy) (by
  repeat' first|exact b4|apply du|refine cr ?_ ?_
  all_goals intro E h
  all_goals first|omega|grind (ematch:=4) (splits:=6) [X3]
  )
theorem T5:∀N,O (a8I N)
  |0=>jE
  |N+1=>b6 [aC (l7 (N+1)) [11,12,14,17,15] [aC fE [14] [aC fE [12] [aC iE [11] [aU (lt au ar) [gS sM [14,12],
 mg (Abs.GJ 1) [.a1 .sb aj,au],
 aU (eq (.a2 (.at 1 0) (.a1 .sb aj) au) sT) [gS (eS 1 1 1) [17,15],
 bW aT kL [mg (eS 1 1 1) [sn (tk 1 aK aT) vi,kL],
 bW kL (pl kL aw) [az (l7 N) [aj,ar,ca,sn (tk 1 (sn (tk 1 aK aT) vi) kL) (.a2 (.at 1 0) (.a1 .sb aj) au),pl kL aw],
 aC h4 [11,24] [ay h4 [11,24]]]]],
 a8 (eq (.a2 (.at 1 0) (.a1 .sb aj) au) sT) [aU (eq (.a2 (.at 1 0) (.a1 .sb aj) au) vi) [gS (eS 1 1 1) [17,15],
 bW aT kL [mg (eS 1 1 1) [sn (tk 1 aK aT) vi,kL],
 bW kL (pl kL aw) [az (l7 N) [aj,ar,ca,sn (tk 1 (sn (tk 1 aK aT) vi) kL) (.a2 (.at 1 0) (.a1 .sb aj) au),pl kL aw],
 aC h4 [11,24] [ay h4 [11,24]]]]],
 a8 (eq (.a2 (.at 1 0) (.a1 .sb aj) au) vi) [aU (lt (.a2 (.at 1 0) (.a1 .sb aj) au) Iq) [mg (Abs.LN 1) [aK,aT,pl (pl (.str [92,120]) (aR (.str [48,49,50,51,52,53,54,55,56,57,97,98,99,100,101,102]) (.a2 (.bin .shr) (.a2 (.at 1 0) (.a1 .sb aj) au) (.int .u64 4)) (pl (.a2 (.bin .shr) (.a2 (.at 1 0) (.a1 .sb aj) au) (.int .u64 4)) Jj))) (aR (.str [48,49,50,51,52,53,54,55,56,57,97,98,99,100,101,102]) (.a2 (.bin .and) (.a2 (.at 1 0) (.a1 .sb aj) au) Em) (pl (.a2 (.bin .and) (.a2 (.at 1 0) (.a1 .sb aj) au) Em) Jj))],
 az (l7 N) [aj,ar,ca,.a2 .cat (tk 1 aK aT) (.a1 .sb (pl (pl (.str [92,120]) (aR (.str [48,49,50,51,52,53,54,55,56,57,97,98,99,100,101,102]) (.a2 (.bin .shr) (.a2 (.at 1 0) (.a1 .sb aj) au) (.int .u64 4)) (pl (.a2 (.bin .shr) (.a2 (.at 1 0) (.a1 .sb aj) au) (.int .u64 4)) Jj))) (aR (.str [48,49,50,51,52,53,54,55,56,57,97,98,99,100,101,102]) (.a2 (.bin .and) (.a2 (.at 1 0) (.a1 .sb aj) au) Em) (pl (.a2 (.bin .and) (.a2 (.at 1 0) (.a1 .sb aj) au) Em) Jj)))),pl aT (ln1 (pl (pl (.str [92,120]) (aR (.str [48,49,50,51,52,53,54,55,56,57,97,98,99,100,101,102]) (.a2 (.bin .shr) (.a2 (.at 1 0) (.a1 .sb aj) au) (.int .u64 4)) (pl (.a2 (.bin .shr) (.a2 (.at 1 0) (.a1 .sb aj) au) (.int .u64 4)) Jj))) (aR (.str [48,49,50,51,52,53,54,55,56,57,97,98,99,100,101,102]) (.a2 (.bin .and) (.a2 (.at 1 0) (.a1 .sb aj) au) Em) (pl (.a2 (.bin .and) (.a2 (.at 1 0) (.a1 .sb aj) au) Em) Jj))))],
 aC h4 [11,20] [ay h4 [11,20]]],
 a8 (lt (.a2 (.at 1 0) (.a1 .sb aj) au) Iq) [aU (gt (.a2 (.at 1 0) (.a1 .sb aj) au) Tt) [mg (Abs.LN 1) [aK,aT,pl (pl (.str [92,120]) (aR (.str [48,49,50,51,52,53,54,55,56,57,97,98,99,100,101,102]) (.a2 (.bin .shr) (.a2 (.at 1 0) (.a1 .sb aj) au) (.int .u64 4)) (pl (.a2 (.bin .shr) (.a2 (.at 1 0) (.a1 .sb aj) au) (.int .u64 4)) Jj))) (aR (.str [48,49,50,51,52,53,54,55,56,57,97,98,99,100,101,102]) (.a2 (.bin .and) (.a2 (.at 1 0) (.a1 .sb aj) au) Em) (pl (.a2 (.bin .and) (.a2 (.at 1 0) (.a1 .sb aj) au) Em) Jj))],
 az (l7 N) [aj,ar,ca,.a2 .cat (tk 1 aK aT) (.a1 .sb (pl (pl (.str [92,120]) (aR (.str [48,49,50,51,52,53,54,55,56,57,97,98,99,100,101,102]) (.a2 (.bin .shr) (.a2 (.at 1 0) (.a1 .sb aj) au) (.int .u64 4)) (pl (.a2 (.bin .shr) (.a2 (.at 1 0) (.a1 .sb aj) au) (.int .u64 4)) Jj))) (aR (.str [48,49,50,51,52,53,54,55,56,57,97,98,99,100,101,102]) (.a2 (.bin .and) (.a2 (.at 1 0) (.a1 .sb aj) au) Em) (pl (.a2 (.bin .and) (.a2 (.at 1 0) (.a1 .sb aj) au) Em) Jj)))),pl aT (ln1 (pl (pl (.str [92,120]) (aR (.str [48,49,50,51,52,53,54,55,56,57,97,98,99,100,101,102]) (.a2 (.bin .shr) (.a2 (.at 1 0) (.a1 .sb aj) au) (.int .u64 4)) (pl (.a2 (.bin .shr) (.a2 (.at 1 0) (.a1 .sb aj) au) (.int .u64 4)) Jj))) (aR (.str [48,49,50,51,52,53,54,55,56,57,97,98,99,100,101,102]) (.a2 (.bin .and) (.a2 (.at 1 0) (.a1 .sb aj) au) Em) (pl (.a2 (.bin .and) (.a2 (.at 1 0) (.a1 .sb aj) au) Em) Jj))))],
 aC h4 [11,20] [ay h4 [11,20]]],
 a8 (gt (.a2 (.at 1 0) (.a1 .sb aj) au) Tt) [gS (eS 1 1 1) [17,15],
 bW aT kL [az (l7 N) [aj,ar,ca,sn (tk 1 aK aT) (.a2 (.at 1 0) (.a1 .sb aj) au),kL],
 aC h4 [11,21] [ay h4 [11,21]]]]]]]],
 a8 (lt au ar) [gS (eS 1 1 1) [17,15],
 bW aT kL [mg Abs.Rw [kL],
 mg Abs.Zu [sn (tk 1 aK aT) sT,kL],
 az h4 [aj,.a1 .bs (tk 1 (sn (tk 1 aK aT) sT) kL)]]]]]]]] dw (ba (T5 N) dy) (by
  repeat' first|exact b4|apply du|refine cr ?_ ?_
  all_goals intro E h
  all_goals first|omega|(have a:gc E 17=39::qs (List.take (gi E 14).toNat (gs E 11)):=(by simp only[<-hx]at h;exact h.1.1.2);have b:=acG a;have e2:=pG (l:=gc E 17) (i:=gi E 15) (by omega);have e3:=λc=>tk1 (l:=gc E 17) (c:=c) (i:=gi E 15) (by omega);have w:=eF (n:=gi E 15+1) (by omega);have w2:=eF (n:=gi E 15+1+1) (by omega);have w3:=eF (n:=gi E 15+((2+1+1:Nat):Int)) (by omega);(try simp(disch:=omega) only[e2,e3,w,w2,w3,oK,Co,cg,ki,j4]at h);first|omega|exact h.1 h.2.1|exact h.1 ⟨⟨⟨⟨by omega,by omega⟩,by omega,by omega⟩,⟨by omega,by omega⟩⟩,by omega,by omega,by omega,by omega,qA a (by omega) (by omega) (by omega),by omega,by omega⟩|exact h.1 ⟨by omega,by omega,by omega,by omega,qB a (by omega) (by omega) (by omega),by omega,by omega⟩|exact h.1 ⟨⟨⟨by omega,by omega⟩,⟨by omega,by omega⟩⟩,by omega,by omega,by omega,by omega,qC a (by omega) (by omega) (by omega) (by omega) (by omega) (by omega),by omega,by omega⟩|exact h.1 ⟨⟨⟨by omega,by omega⟩,by omega,by omega⟩,qE a (by omega)⟩)
  )
theorem Ls:O abL:=b6 [aU (lq eR aE) [aC iE [8] [az (l7 5000) [aX,eR,aG,sn (.a1 (.nl [(.int .u8)]) (.bool true)) sT,aw],
 aC h4 [8,15] [ay h4 [8,15]]]]] dw (ba (T5 5000) dy) (by
  repeat' first|exact b4|apply du|refine cr ?_ ?_
  all_goals intro E h
  all_goals first|omega|grind (ematch:=4) (splits:=6)
  )
end Go.Proofs.YtokipodjggomfaaGreatDoor
