/- A part of the proof of ScriptReads: 2D. Conditions: those of each theorem. -/
import Derived.Test.YtokipodjggomfaaGreatDoorScr2C
set_option linter.unusedVariables false
set_option linter.unusedSimpArgs false
namespace Go.Proofs.YtokipodjggomfaaGreatDoor
open Go.Proofs.YtokipodjggomfaaGreatDoor.Txt
set_option maxRecDepth 100000
set_option maxHeartbeats 4000000
theorem TS:∀N,O (Vb N)
  |0=>Nw
  |N+1=>b6 [aC (Ni (N+1)) [8,9,11,10] [bW aj (pl eR fZ) [aU (lq cj aE) [aU (lq eR aE) [aC fE [11] [aC fE [10] [aC iE [9] [aC iE [8] [aU (lq aj eR) [aU (lt aj eR) [aU (ne (ix aX aj) a2o) [az cZ [lq (ln1 (pl aH (aR aX aj dz))) aE],
 az eC [dz,pl eR fZ],
 az (Ni N) [aX,pl aH (aR aX aj dz),dz,af],
 aP (mC ag dP) [aX,pl aH (aR aX aj dz),dz,af,ar] [ay (mC ag dP) [8,9,11,10,12]],
 aP (jR ag dP) [aX,pl aH (aR aX aj dz),dz,af,ar,aq] [ay (jR ag dP) [8,9,11,10,12,13]]],
 a8 (ne (ix aX aj) a2o) [aU (ne aH cX) [aC oC [9] [az (jR ag dP) [aX,aH,aj,af,BG,af]],
 aC me [9] [az (jR ag dP) [aX,aH,aj,af,BG,af]],
 aC bp [9] [az (jR ag dP) [aX,aH,aj,af,BG,af]],
 aC (oB ag) [9,12,13] [az cZ [lq (ln1 cX) aE],
 az eC [dz,pl eR fZ],
 az (FO ag 4202) [aX,.str [],dz,bo,aw,s4 (s4 n8 aw aG ar aG) aG cX ns aq],
 aP (jS ag dP) [aX,.str [],dz,bo,aw,s4 (s4 n8 aw aG ar aG) aG cX ns aq,aY] [ay (mC ag dP) [8,9,11,10,18]],
 aP (iw ag dP) [aX,.str [],dz,bo,aw,s4 (s4 n8 aw aG ar aG) aG cX ns aq,aY,bI] [ay (jR ag dP) [8,9,11,10,18,19]]],
 aC gW [9,12,13] [az cZ [lq (ln1 cX) aE],
 az eC [dz,pl eR fZ],
 az (FO ag 4202) [aX,.str [],dz,bo,aw,s4 (s4 n8 ar aq cX aG) aG cX ns ns],
 aP (jS ag dP) [aX,.str [],dz,bo,aw,s4 (s4 n8 ar aq cX aG) aG cX ns ns,aY] [ay (mC ag dP) [8,9,11,10,18]],
 aP (iw ag dP) [aX,.str [],dz,bo,aw,s4 (s4 n8 ar aq cX aG) aG cX ns ns,aY,bI] [ay (jR ag dP) [8,9,11,10,18,19]]],
 aC (mc ag) [9,12,13,14,15,16,17] [az cZ [lq (ln1 cX) aE],
 az eC [dz,pl eR fZ],
 az (FO ag 4202) [aX,.str [],dz,bo,aw,s4 (s4 n8 ar aq cX au) aT aB aK ns],
 aP (jS ag dP) [aX,.str [],dz,bo,aw,s4 (s4 n8 ar aq cX au) aT aB aK ns,bT] [ay (mC ag dP) [8,9,11,10,22]],
 aP (iw ag dP) [aX,.str [],dz,bo,aw,s4 (s4 n8 ar aq cX au) aT aB aK ns,bT,cQ] [ay (jR ag dP) [8,9,11,10,22,23]]]],
 a8 (ne aH cX) [az cZ [lq (ln1 cX) aE],
 az eC [dz,pl eR fZ],
 az (Ni N) [aX,.str [],dz,bo],
 aP (mC ag dP) [aX,.str [],dz,bo,ar] [ay (mC ag dP) [8,9,11,10,12]],
 aP (jR ag dP) [aX,.str [],dz,bo,ar,aq] [ay (jR ag dP) [8,9,11,10,12,13]]]]],
 a8 (lt aj eR) [aU (ne aH cX) [aC oC [9] [az (jR ag dP) [aX,aH,aj,af,BG,af]],
 aC me [9] [az (jR ag dP) [aX,aH,aj,af,BG,af]],
 aC bp [9] [az (jR ag dP) [aX,aH,aj,af,BG,af]],
 aC (oB ag) [9,12,13] [az cZ [lq (ln1 cX) aE],
 az eC [dz,pl eR fZ],
 az (FO ag 4202) [aX,.str [],dz,bo,aw,s4 (s4 n8 aw aG ar aG) aG cX ns aq],
 aP (jS ag dP) [aX,.str [],dz,bo,aw,s4 (s4 n8 aw aG ar aG) aG cX ns aq,aY] [ay (mC ag dP) [8,9,11,10,18]],
 aP (iw ag dP) [aX,.str [],dz,bo,aw,s4 (s4 n8 aw aG ar aG) aG cX ns aq,aY,bI] [ay (jR ag dP) [8,9,11,10,18,19]]],
 aC gW [9,12,13] [az cZ [lq (ln1 cX) aE],
 az eC [dz,pl eR fZ],
 az (FO ag 4202) [aX,.str [],dz,bo,aw,s4 (s4 n8 ar aq cX aG) aG cX ns ns],
 aP (jS ag dP) [aX,.str [],dz,bo,aw,s4 (s4 n8 ar aq cX aG) aG cX ns ns,aY] [ay (mC ag dP) [8,9,11,10,18]],
 aP (iw ag dP) [aX,.str [],dz,bo,aw,s4 (s4 n8 ar aq cX aG) aG cX ns ns,aY,bI] [ay (jR ag dP) [8,9,11,10,18,19]]],
 aC (mc ag) [9,12,13,14,15,16,17] [az cZ [lq (ln1 cX) aE],
 az eC [dz,pl eR fZ],
 az (FO ag 4202) [aX,.str [],dz,bo,aw,s4 (s4 n8 ar aq cX au) aT aB aK ns],
 aP (jS ag dP) [aX,.str [],dz,bo,aw,s4 (s4 n8 ar aq cX au) aT aB aK ns,bT] [ay (mC ag dP) [8,9,11,10,22]],
 aP (iw ag dP) [aX,.str [],dz,bo,aw,s4 (s4 n8 ar aq cX au) aT aB aK ns,bT,cQ] [ay (jR ag dP) [8,9,11,10,22,23]]]],
 a8 (ne aH cX) [az cZ [lq (ln1 cX) aE],
 az eC [dz,pl eR fZ],
 az (Ni N) [aX,.str [],dz,bo],
 aP (mC ag dP) [aX,.str [],dz,bo,ar] [ay (mC ag dP) [8,9,11,10,12]],
 aP (jR ag dP) [aX,.str [],dz,bo,ar,aq] [ay (jR ag dP) [8,9,11,10,12,13]]]]],
 a8 (lq aj eR) [az (mC ag dP) [aX,aH,aj,af,BG]]]]]]]]]]] dw (ba (TS N) (ba (Re 4202) (ba (T6) dy))) (by
  repeat' first|exact b4|apply du|refine CG ?_ ?_
  all_goals intro E h
  all_goals(revert h;simp only[bq,bu];intros;first
   |omega
   |(rcases TL (S:=gs E 8) (w:=gs E 9) (i:=gi E 11) (by omega)with⟨j,d,e⟩|⟨j,d,e⟩|⟨j,e⟩
     . (first|omega|(have f:=‹bt _ _=10›;exact absurd f d)|(have I:=‹jF _ _ _ _›;have Y:=‹fk _ _ _ _ _›;have a:=‹¬∃g,jF _ _ g _/\_›;exact a ⟨_,I,by rw[e];exact Y⟩))
     . (first|omega|(have f:=‹¬bt _ _=10›;exact absurd (d (by omega)) f)|(have k:=‹_=([]:B)›;have I:=‹jF _ _ _ _›;have Y:=‹fk _ _ _ _ _›;have a:=‹¬∃g,jF _ _ g _/\_›;exact a ⟨_,I,by rw[e,k];exact .UU Y⟩)|(have b:=‹¬_=([]:B)›;have a:=‹¬∃g,jF _ _ g _/\_›;exact a ⟨[],Bb,by rw[e];(first|exact .bad b (.inl ‹dL _›)|exact .bad b (.inr (.inl ‹dM _›))|exact .bad b (.inr (.inr ‹dB _›)))⟩)|(have b:=‹¬_=([]:B)›;first|(have c:=Dd.s ‹dS _ _ _ _›;(first|(have a:=‹¬(tD _/\(0:Int)<=_/\_)›;exact a ⟨(e7 c).1,by omega,by omega,by omega,by omega,by omega,by omega,_,(e7 c).2⟩)|(have V:=‹∀g,dQ _ g _ (dO _)->_›;have a:=‹¬∃g,jF _ _ g _/\_›;exact a (by obtain⟨g2,I,Y⟩:=V _ (e7 c).2;exact⟨_,I,by rw[e];exact .ok b c Y⟩))))|(have c:=Dd.n (T:=ag) ‹dN _ _ _›;(first|(have a:=‹¬(tD _/\(0:Int)<=_/\_)›;exact a ⟨(e7 c).1,by omega,by omega,by omega,by omega,by omega,by omega,_,(e7 c).2⟩)|(have V:=‹∀g,dQ _ g _ (dO _)->_›;have a:=‹¬∃g,jF _ _ g _/\_›;exact a (by obtain⟨g2,I,Y⟩:=V _ (e7 c).2;exact⟨_,I,by rw[e];exact .ok b c Y⟩))))|(have c:=Dd.t ‹dT _ _ _ _ _ _ _ _›;(first|(have a:=‹¬(tD _/\(0:Int)<=_/\_)›;exact a ⟨(e7 c).1,by omega,by omega,by omega,by omega,by omega,by omega,_,(e7 c).2⟩)|(have V:=‹∀g,dQ _ g _ (dO _)->_›;have a:=‹¬∃g,jF _ _ g _/\_›;exact a (by obtain⟨g2,I,Y⟩:=V _ (e7 c).2;exact⟨_,I,by rw[e];exact .ok b c Y⟩))))))
     . (first|omega|(have a:=‹¬∃g,jF _ _ g _/\_›;exact a ⟨[],Bb,by rw[e];exact .nil⟩))))
  )
end Go.Proofs.YtokipodjggomfaaGreatDoor
