/- A part of the proof of ScriptReads: 2C. Conditions: those of each theorem. -/
import Derived.Test.YtokipodjggomfaaGreatDoorScr2Fx
import Derived.Test.YtokipodjggomfaaGreatDoorScr1K9
set_option linter.unusedVariables false
set_option linter.unusedSimpArgs false
namespace Go.Proofs.YtokipodjggomfaaGreatDoor
open Go.Proofs.YtokipodjggomfaaGreatDoor.Txt
set_option maxRecDepth 100000
set_option maxHeartbeats 4000000
theorem Re:∀N,O (Va N)
  |0=>Nw
  |N+1=>b6 [aC (FO ag (N+1)) [9,10,12,11,13,15] [bW ar (pl cj fZ) [aU (lq fv aE) [aU (lq cj aE) [aC fE [12] [aC fE [11] [aC iE [10] [aC iE [9] [aU (lq ar cj) [aU (lt ar cj) [aU (ne (ix aH ar) a2o) [az cZ [lq (ln1 (pl af (aR aH ar bK))) aE],
 az eC [bK,pl cj fZ],
 az (FO ag N) [aH,pl af (aR aH ar bK),bK,aj,aq,aT],
 aP (jS ag dP) [aH,pl af (aR aH ar bK),bK,aj,aq,aT,aB] [ay (jS ag dP) [9,10,12,11,13,15,16]],
 aP (iw ag dP) [aH,pl af (aR aH ar bK),bK,aj,aq,aT,aB,aK] [ay (iw ag dP) [9,10,12,11,13,15,16,17]]],
 a8 (ne (ix aH ar) a2o) [aU (ne af cX) [aC oC [10] [gS (cJ 8) [15,13],
 gS (cJ 8) [15,13],
 aC (eQ dP 8) [17,15,13] [ay (iw ag dP) [9,10,12,11,13,15,17,11]]],
 aC me [10] [gS (cJ 8) [15,13],
 gS (cJ 8) [15,13],
 aC (eQ dP 8) [17,15,13] [ay (iw ag dP) [9,10,12,11,13,15,17,11]]],
 aC bp [10] [gS (cJ 8) [15,13],
 gS (cJ 8) [15,13],
 aC (eQ dP 8) [17,15,13] [ay (iw ag dP) [9,10,12,11,13,15,17,11]]],
 aC (oB ag) [10,16,17] [gS (eS 8 112 1) [15,13],
 bW aq lY [az cZ [lq (ln1 cX) aE],
 az eC [bK,pl cj fZ],
 az (FO ag N) [aH,.str [],bK,dz,lY,s4 (s4 (tk 8 aT aq) aw aG aB aG) aG cX ns aK],
 aP (jS ag dP) [aH,.str [],bK,dz,lY,s4 (s4 (tk 8 aT aq) aw aG aB aG) aG cX ns aK,bT] [ay (jS ag dP) [9,10,12,11,13,15,22]],
 aP (iw ag dP) [aH,.str [],bK,dz,lY,s4 (s4 (tk 8 aT aq) aw aG aB aG) aG cX ns aK,bT,cQ] [ay (iw ag dP) [9,10,12,11,13,15,22,23]]]],
 aC gW [10,16,17] [gS (eS 8 112 1) [15,13],
 bW aq lY [az cZ [lq (ln1 cX) aE],
 az eC [bK,pl cj fZ],
 az (FO ag N) [aH,.str [],bK,dz,lY,s4 (s4 (tk 8 aT aq) aB aK cX aG) aG cX ns ns],
 aP (jS ag dP) [aH,.str [],bK,dz,lY,s4 (s4 (tk 8 aT aq) aB aK cX aG) aG cX ns ns,bT] [ay (jS ag dP) [9,10,12,11,13,15,22]],
 aP (iw ag dP) [aH,.str [],bK,dz,lY,s4 (s4 (tk 8 aT aq) aB aK cX aG) aG cX ns ns,bT,cQ] [ay (iw ag dP) [9,10,12,11,13,15,22,23]]]],
 aC (mc ag) [10,16,17,18,19,20,21] [gS (eS 8 112 1) [15,13],
 bW aq lY [az cZ [lq (ln1 cX) aE],
 az eC [bK,pl cj fZ],
 az (FO ag N) [aH,.str [],bK,dz,lY,s4 (s4 (tk 8 aT aq) aB aK cX aY) bI bC dG ns],
 aP (jS ag dP) [aH,.str [],bK,dz,lY,s4 (s4 (tk 8 aT aq) aB aK cX aY) bI bC dG ns,di] [ay (jS ag dP) [9,10,12,11,13,15,26]],
 aP (iw ag dP) [aH,.str [],bK,dz,lY,s4 (s4 (tk 8 aT aq) aB aK cX aY) bI bC dG ns,di,er] [ay (iw ag dP) [9,10,12,11,13,15,26,27]]]]],
 a8 (ne af cX) [az cZ [lq (ln1 cX) aE],
 az eC [bK,pl cj fZ],
 az (FO ag N) [aH,.str [],bK,dz,aq,aT],
 aP (jS ag dP) [aH,.str [],bK,dz,aq,aT,aB] [ay (jS ag dP) [9,10,12,11,13,15,16]],
 aP (iw ag dP) [aH,.str [],bK,dz,aq,aT,aB,aK] [ay (iw ag dP) [9,10,12,11,13,15,16,17]]]]],
 a8 (lt ar cj) [aU (ne af cX) [aC oC [10] [gS (cJ 8) [15,13],
 gS (cJ 8) [15,13],
 aC (eQ dP 8) [17,15,13] [ay (iw ag dP) [9,10,12,11,13,15,17,11]]],
 aC me [10] [gS (cJ 8) [15,13],
 gS (cJ 8) [15,13],
 aC (eQ dP 8) [17,15,13] [ay (iw ag dP) [9,10,12,11,13,15,17,11]]],
 aC bp [10] [gS (cJ 8) [15,13],
 gS (cJ 8) [15,13],
 aC (eQ dP 8) [17,15,13] [ay (iw ag dP) [9,10,12,11,13,15,17,11]]],
 aC (oB ag) [10,16,17] [gS (eS 8 112 1) [15,13],
 bW aq lY [az cZ [lq (ln1 cX) aE],
 az eC [bK,pl cj fZ],
 az (FO ag N) [aH,.str [],bK,dz,lY,s4 (s4 (tk 8 aT aq) aw aG aB aG) aG cX ns aK],
 aP (jS ag dP) [aH,.str [],bK,dz,lY,s4 (s4 (tk 8 aT aq) aw aG aB aG) aG cX ns aK,bT] [ay (jS ag dP) [9,10,12,11,13,15,22]],
 aP (iw ag dP) [aH,.str [],bK,dz,lY,s4 (s4 (tk 8 aT aq) aw aG aB aG) aG cX ns aK,bT,cQ] [ay (iw ag dP) [9,10,12,11,13,15,22,23]]]],
 aC gW [10,16,17] [gS (eS 8 112 1) [15,13],
 bW aq lY [az cZ [lq (ln1 cX) aE],
 az eC [bK,pl cj fZ],
 az (FO ag N) [aH,.str [],bK,dz,lY,s4 (s4 (tk 8 aT aq) aB aK cX aG) aG cX ns ns],
 aP (jS ag dP) [aH,.str [],bK,dz,lY,s4 (s4 (tk 8 aT aq) aB aK cX aG) aG cX ns ns,bT] [ay (jS ag dP) [9,10,12,11,13,15,22]],
 aP (iw ag dP) [aH,.str [],bK,dz,lY,s4 (s4 (tk 8 aT aq) aB aK cX aG) aG cX ns ns,bT,cQ] [ay (iw ag dP) [9,10,12,11,13,15,22,23]]]],
 aC (mc ag) [10,16,17,18,19,20,21] [gS (eS 8 112 1) [15,13],
 bW aq lY [az cZ [lq (ln1 cX) aE],
 az eC [bK,pl cj fZ],
 az (FO ag N) [aH,.str [],bK,dz,lY,s4 (s4 (tk 8 aT aq) aB aK cX aY) bI bC dG ns],
 aP (jS ag dP) [aH,.str [],bK,dz,lY,s4 (s4 (tk 8 aT aq) aB aK cX aY) bI bC dG ns,di] [ay (jS ag dP) [9,10,12,11,13,15,26]],
 aP (iw ag dP) [aH,.str [],bK,dz,lY,s4 (s4 (tk 8 aT aq) aB aK cX aY) bI bC dG ns,di,er] [ay (iw ag dP) [9,10,12,11,13,15,26,27]]]]],
 a8 (ne af cX) [az cZ [lq (ln1 cX) aE],
 az eC [bK,pl cj fZ],
 az (FO ag N) [aH,.str [],bK,dz,aq,aT],
 aP (jS ag dP) [aH,.str [],bK,dz,aq,aT,aB] [ay (jS ag dP) [9,10,12,11,13,15,16]],
 aP (iw ag dP) [aH,.str [],bK,dz,aq,aT,aB,aK] [ay (iw ag dP) [9,10,12,11,13,15,16,17]]]]],
 a8 (lq ar cj) [gS (cJ 8) [15,13],
 aC (eQ dP 8) [16,15,13] [ay (jS ag dP) [9,10,12,11,13,15,16]]]]]]]]]]]] dw (ba (Re N) (ba (T6) dy)) (by
  repeat' first|exact b4|apply du|refine CG ?_ ?_
  all_goals intro E h
  all_goals(revert h;simp only[bq,bu];intros;first
   |omega
   |(have d:=‹dQ _ _ _ _›;have b:=‹Hr _ _ _ _ _›;exact a5R d (by omega) (by decide) b)
   |(have d:=‹dQ _ _ _ _›;have b:=‹vG _ _ _›;exact Q3 d b)
   |(rcases TL (S:=gs E 9) (w:=gs E 10) (i:=gi E 12) (by omega)with⟨m,j,e⟩|⟨m,j,e⟩|⟨m,e⟩
     . (first|omega|(have k:=‹bt _ _=10›;exact absurd k j)|(have d:=‹dQ _ _ _ _›;have a:=‹¬(_<=1099511627776/\_)›;exact a ⟨by omega,by omega,by omega,by omega,by omega,by omega,by omega,_,d⟩)|(have V:=‹∀g,dQ _ g _ _->_›;have a:=‹¬∀g,dQ _ g _ _->_›;exact a λg b=>(by obtain⟨g2,I,Y⟩:=V g b;exact⟨g2,I,by rw[e];exact Y⟩)))
     . (first|omega|(have k:=‹¬bt _ _=10›;exact absurd (j (by omega)) k)|(have o:=‹_=([]:B)›;have d:=‹dQ _ _ _ _›;have a:=‹¬((0:Int)<=_/\_)›;exact a ⟨by omega,by omega,by omega,by omega,by omega,by omega,_,d⟩)|(have o:=‹_=([]:B)›;have V:=‹∀g,dQ _ g _ _->_›;have a:=‹¬∀g,dQ _ g _ _->_›;exact a λg b=>(by obtain⟨g2,I,Y⟩:=V g b;exact⟨g2,I,by rw[e,o];exact .UU Y⟩))|(have c:=‹¬_=([]:B)›;have l:=‹WM _ _ _ _›;have a:=‹¬∀g,dQ _ g _ _->_›;exact a λg b=>⟨[],by simpa using Bc l b,by rw[e];(first|exact .bad c (.inl ‹dL _›)|exact .bad c (.inr (.inl ‹dM _›))|exact .bad c (.inr (.inr ‹dB _›)))⟩)|(have c:=‹¬_=([]:B)›;have d:=‹dQ _ _ _ _›;first|(have f:=Dd.s ‹dS _ _ _ _›;(first|(have a:=‹¬(tD _/\(0:Int)<=_/\_)›;exact a ⟨(ap8 d f).1,by omega,by omega,by omega,by omega,by omega,by omega,_,(ap8 d f).2⟩)|(have V:=‹∀g,dQ _ g _ (dO _)->_›;have a:=‹¬∀g,dQ _ g _ _->_›;exact a λg b=>(by obtain⟨g2,I,Y⟩:=V _ (ap8 b f).2;exact⟨_::g2,by simpa using I,by rw[e];exact .ok c f Y⟩))))|(have f:=Dd.n (T:=ag) ‹dN _ _ _›;(first|(have a:=‹¬(tD _/\(0:Int)<=_/\_)›;exact a ⟨(ap8 d f).1,by omega,by omega,by omega,by omega,by omega,by omega,_,(ap8 d f).2⟩)|(have V:=‹∀g,dQ _ g _ (dO _)->_›;have a:=‹¬∀g,dQ _ g _ _->_›;exact a λg b=>(by obtain⟨g2,I,Y⟩:=V _ (ap8 b f).2;exact⟨_::g2,by simpa using I,by rw[e];exact .ok c f Y⟩))))|(have f:=Dd.t ‹dT _ _ _ _ _ _ _ _›;(first|(have a:=‹¬(tD _/\(0:Int)<=_/\_)›;exact a ⟨(ap8 d f).1,by omega,by omega,by omega,by omega,by omega,by omega,_,(ap8 d f).2⟩)|(have V:=‹∀g,dQ _ g _ (dO _)->_›;have a:=‹¬∀g,dQ _ g _ _->_›;exact a λg b=>(by obtain⟨g2,I,Y⟩:=V _ (ap8 b f).2;exact⟨_::g2,by simpa using I,by rw[e];exact .ok c f Y⟩))))))
     . (first|omega|(have l:=‹WM _ _ _ _›;have a:=‹¬∀g,dQ _ g _ _->_›;exact a λg b=>⟨[],by simpa using Bc l b,by rw[e];exact .nil⟩))))
  )
end Go.Proofs.YtokipodjggomfaaGreatDoor
