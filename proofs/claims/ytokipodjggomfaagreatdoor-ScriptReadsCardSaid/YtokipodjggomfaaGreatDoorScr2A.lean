/- A part of the proof of ScriptReads: 2A. Conditions: those of each theorem. -/
import Derived.Test.YtokipodjggomfaaGreatDoorScr2Fx
import Derived.Test.YtokipodjggomfaaGreatDoorScr1K4
set_option linter.unusedVariables false
set_option linter.unusedSimpArgs false
namespace Go.Proofs.YtokipodjggomfaaGreatDoor
open Go.Proofs.YtokipodjggomfaaGreatDoor.Txt
set_option maxRecDepth 100000
set_option maxHeartbeats 4000000
theorem Q5:∀N,O (U9 N)
  |0=>Nw
  |N+1=>b6 [aC (QH ag (N+1)) [18,19,20,22] [aU (lq ju aE) [aC fE [19] [aC iE [18] [ay sN [18],
 aP Ru [aY,.str [10],cQ] [aU (lt cQ aG) [aU (eq aY cX) [ay (IG ag) [18,19]],
 a8 (eq aY cX) [aC oC [18] [az (zt ag) [aY,bI,eK]],
 aC me [18] [az (zt ag) [aY,bI,eK]],
 aC bp [18] [az (zt ag) [aY,bI,eK]],
 aC (oB ag) [18,24,25] [gS (eS 8 112 1) [22,20],
 bW bC oX [az (E4 ag) [aY,bI,bC,bT,oX,s4 (s4 (tk 8 bT bC) aw aG cG aG) aG cX ns cW]]],
 aC gW [18,24,25] [gS (eS 8 112 1) [22,20],
 bW bC oX [az (E4 ag) [aY,bI,bC,bT,oX,s4 (s4 (tk 8 bT bC) cG cW cX aG) aG cX ns ns]]],
 aC (mc ag) [18,24,25,26,27,28,29] [gS (eS 8 112 1) [22,20],
 bW bC oX [az (E4 ag) [aY,bI,bC,bT,oX,s4 (s4 (tk 8 bT bC) cG cW cX di) er eJ gj ns]]]]],
 a8 (lt cQ aG) [mg Abs.v7 [aG,pl cQ aG,ju],
 aU (eq (aR aY aG (pl cQ aG)) cX) [mg Abs.v7 [lX,ju,ju],
 az cZ [lq (ln1 (aR aY lX ju)) aE],
 az (QH ag N) [aR aY lX ju,eK,bC,bT],
 aP (IG ag) [aR aY lX ju,eK] [ay (IG ag) [18,19]],
 aP (E4 ag) [aR aY lX ju,eK,bC,bT,di,eJ] [ay (E4 ag) [18,19,20,22,26,28]],
 aP (zt ag) [aR aY lX ju,eK,cG] [ay (zt ag) [18,19,24]],
 aP (IH ag) [aR aY lX ju,eK,bC,bT,di,eJ,cG] [ay (IH ag) [18,19,20,22,26,28,24]]],
 a8 (eq (aR aY aG (pl cQ aG)) cX) [az cZ [lq (ln1 (aR aY aG (pl cQ aG))) aE],
 aP oC [aR aY aG (pl cQ aG)] [az (zt ag) [aY,bI,eK]],
 aP me [aR aY aG (pl cQ aG)] [az (zt ag) [aY,bI,eK]],
 aP bp [aR aY aG (pl cQ aG)] [az (zt ag) [aY,bI,eK]],
 aP (oB ag) [aR aY aG (pl cQ aG),cG,cW] [gS (eS 8 112 1) [22,20],
 bW bC oX [mg Abs.v7 [lX,ju,ju],
 az cZ [lq (ln1 (aR aY lX ju)) aE],
 az (QH ag N) [aR aY lX ju,eK,oX,s4 (s4 (tk 8 bT bC) aw aG cG aG) aG cX ns cW],
 aP (IG ag) [aR aY lX ju,eK] [az (E4 ag) [aY,bI,bC,bT,oX,s4 (s4 (tk 8 bT bC) aw aG cG aG) aG cX ns cW]],
 aP (E4 ag) [aR aY lX ju,eK,oX,s4 (s4 (tk 8 bT bC) aw aG cG aG) aG cX ns cW,oi,jo] [ay (E4 ag) [18,19,20,22,32,34]],
 aP (zt ag) [aR aY lX ju,eK,fq] [az (IH ag) [aY,bI,bC,bT,oX,s4 (s4 (tk 8 bT bC) aw aG cG aG) aG cX ns cW,fq]],
 aP (IH ag) [aR aY lX ju,eK,oX,s4 (s4 (tk 8 bT bC) aw aG cG aG) aG cX ns cW,oi,jo,fq] [ay (IH ag) [18,19,20,22,32,34,30]]]],
 aP gW [aR aY aG (pl cQ aG),cG,cW] [gS (eS 8 112 1) [22,20],
 bW bC oX [mg Abs.v7 [lX,ju,ju],
 az cZ [lq (ln1 (aR aY lX ju)) aE],
 az (QH ag N) [aR aY lX ju,eK,oX,s4 (s4 (tk 8 bT bC) cG cW cX aG) aG cX ns ns],
 aP (IG ag) [aR aY lX ju,eK] [az (E4 ag) [aY,bI,bC,bT,oX,s4 (s4 (tk 8 bT bC) cG cW cX aG) aG cX ns ns]],
 aP (E4 ag) [aR aY lX ju,eK,oX,s4 (s4 (tk 8 bT bC) cG cW cX aG) aG cX ns ns,oi,jo] [ay (E4 ag) [18,19,20,22,32,34]],
 aP (zt ag) [aR aY lX ju,eK,fq] [az (IH ag) [aY,bI,bC,bT,oX,s4 (s4 (tk 8 bT bC) cG cW cX aG) aG cX ns ns,fq]],
 aP (IH ag) [aR aY lX ju,eK,oX,s4 (s4 (tk 8 bT bC) cG cW cX aG) aG cX ns ns,oi,jo,fq] [ay (IH ag) [18,19,20,22,32,34,30]]]],
 aP (mc ag) [aR aY aG (pl cQ aG),cG,cW,di,er,eJ,gj] [gS (eS 8 112 1) [22,20],
 bW bC oX [mg Abs.v7 [lX,ju,ju],
 az cZ [lq (ln1 (aR aY lX ju)) aE],
 az (QH ag N) [aR aY lX ju,eK,oX,s4 (s4 (tk 8 bT bC) cG cW cX di) er eJ gj ns],
 aP (IG ag) [aR aY lX ju,eK] [az (E4 ag) [aY,bI,bC,bT,oX,s4 (s4 (tk 8 bT bC) cG cW cX di) er eJ gj ns]],
 aP (E4 ag) [aR aY lX ju,eK,oX,s4 (s4 (tk 8 bT bC) cG cW cX di) er eJ gj ns,FU,FT] [ay (E4 ag) [18,19,20,22,36,38]],
 aP (zt ag) [aR aY lX ju,eK,jo] [az (IH ag) [aY,bI,bC,bT,oX,s4 (s4 (tk 8 bT bC) cG cW cX di) er eJ gj ns,jo]],
 aP (IH ag) [aR aY lX ju,eK,oX,s4 (s4 (tk 8 bT bC) cG cW cX di) er eJ gj ns,FU,FT,jo] [ay (IH ag) [18,19,20,22,36,38,34]]]]]]]]]]]] (vo Mg dw) (ba (Q5 N) (ba (Zp) dy)) (by
  repeat' first|exact b4|apply du|refine CG ?_ ?_
  all_goals intro E h
  all_goals(revert h;simp only[bq,bu];intros;first
   |omega
   |(have f:=‹dQ _ _ _ _›;have d:=‹Hr _ _ _ _ _›;exact a5R f (by omega) (by decide) d)
   |(have Z:=‹_=Lib.index _ [10]›;have k:=‹((List.length _:Nat):Int)<=4200›;rcases a0u Z k with⟨m,e⟩|⟨w0,l,o,p,e⟩
     .first|omega|(first|(have b:=‹¬fk _ _ _ _ _›;have j:=‹_=([]:B)›;exact b (by rw[e,j];exact .UU .nil))|(have b:=‹¬fk _ _ _ _ _›;have c:=‹¬_=([]:B)›;exact b (by rw[e];(first|exact .bad c (.inl ‹dL _›)|exact .bad c (.inr (.inl ‹dM _›))|exact .bad c (.inr (.inr ‹dB _›)))))|(have c:=‹¬_=([]:B)›;have f:=‹dQ _ _ _ _›;first|(have a:=Dd.s ‹dS _ _ _ _›;(first|(have b:=‹¬(tD _/\∀g,_)›;exact b ⟨(ap8 f a).1,λg d=>⟨_,(ap8 d a).2,by rw[e];exact .ok c a .nil⟩⟩)|(have b:=‹¬(tD _/\(0:Int)<=_/\_)›;exact b ⟨(ap8 f a).1,by omega,by omega,by omega,by omega,_,(ap8 f a).2⟩)|(have b:=‹¬(tD _/\∀g,_)›;have i:=‹fk _ _ _ _ _›;exact b ⟨(ap8 f a).1,λg d=>⟨_,(ap8 d a).2,by rw[e];exact .ok c a i⟩⟩)|(have V:=‹∀g,dQ _ g _ (dO _)->_›;have b:=‹¬∀g,dQ _ g _ _->_›;exact b λg d=>(by obtain⟨g2,I,Y⟩:=V _ (ap8 d a).2;exact⟨_::g2,by simpa using I,by rw[e];exact .ok c a Y⟩))))|(have a:=Dd.n (T:=ag) ‹dN _ _ _›;(first|(have b:=‹¬(tD _/\∀g,_)›;exact b ⟨(ap8 f a).1,λg d=>⟨_,(ap8 d a).2,by rw[e];exact .ok c a .nil⟩⟩)|(have b:=‹¬(tD _/\(0:Int)<=_/\_)›;exact b ⟨(ap8 f a).1,by omega,by omega,by omega,by omega,_,(ap8 f a).2⟩)|(have b:=‹¬(tD _/\∀g,_)›;have i:=‹fk _ _ _ _ _›;exact b ⟨(ap8 f a).1,λg d=>⟨_,(ap8 d a).2,by rw[e];exact .ok c a i⟩⟩)|(have V:=‹∀g,dQ _ g _ (dO _)->_›;have b:=‹¬∀g,dQ _ g _ _->_›;exact b λg d=>(by obtain⟨g2,I,Y⟩:=V _ (ap8 d a).2;exact⟨_::g2,by simpa using I,by rw[e];exact .ok c a Y⟩))))|(have a:=Dd.t ‹dT _ _ _ _ _ _ _ _›;(first|(have b:=‹¬(tD _/\∀g,_)›;exact b ⟨(ap8 f a).1,λg d=>⟨_,(ap8 d a).2,by rw[e];exact .ok c a .nil⟩⟩)|(have b:=‹¬(tD _/\(0:Int)<=_/\_)›;exact b ⟨(ap8 f a).1,by omega,by omega,by omega,by omega,_,(ap8 f a).2⟩)|(have b:=‹¬(tD _/\∀g,_)›;have i:=‹fk _ _ _ _ _›;exact b ⟨(ap8 f a).1,λg d=>⟨_,(ap8 d a).2,by rw[e];exact .ok c a i⟩⟩)|(have V:=‹∀g,dQ _ g _ (dO _)->_›;have b:=‹¬∀g,dQ _ g _ _->_›;exact b λg d=>(by obtain⟨g2,I,Y⟩:=V _ (ap8 d a).2;exact⟨_::g2,by simpa using I,by rw[e];exact .ok c a Y⟩))))))
     .simp only[w0,l]at *;first|omega|(first|(have b:=‹¬((0:Int)<=_/\_)›;have f:=‹dQ _ _ _ _›;exact b ⟨by omega,by omega,by omega,by omega,_,f⟩)|(have b:=‹¬fk _ _ _ _ _›;have j:=‹List.take _ _=([]:B)›;have i:=‹fk _ _ _ _ _›;exact b (by rw[e,j];exact .UU i))|(have V:=‹∀g,dQ _ g _ _->_›;have b:=‹¬∀g,dQ _ g _ _->_›;have j:=‹List.take _ _=([]:B)›;exact b λg d=>(by obtain⟨g2,I,Y⟩:=V g d;exact⟨g2,I,by rw[e,j];exact .UU Y⟩))|(have b:=‹¬fk _ _ _ _ _›;have c:=‹¬List.take _ _=([]:B)›;exact b (by rw[e];(first|exact .bad c (.inl ‹dL _›)|exact .bad c (.inr (.inl ‹dM _›))|exact .bad c (.inr (.inr ‹dB _›)))))|(have c:=‹¬List.take _ _=([]:B)›;have f:=‹dQ _ _ _ _›;first|(have a:=Dd.s ‹dS _ _ _ _›;(first|(have b:=‹¬(tD _/\∀g,_)›;exact b ⟨(ap8 f a).1,λg d=>⟨_,(ap8 d a).2,by rw[e];exact .ok c a .nil⟩⟩)|(have b:=‹¬(tD _/\(0:Int)<=_/\_)›;exact b ⟨(ap8 f a).1,by omega,by omega,by omega,by omega,_,(ap8 f a).2⟩)|(have b:=‹¬(tD _/\∀g,_)›;have i:=‹fk _ _ _ _ _›;exact b ⟨(ap8 f a).1,λg d=>⟨_,(ap8 d a).2,by rw[e];exact .ok c a i⟩⟩)|(have V:=‹∀g,dQ _ g _ (dO _)->_›;have b:=‹¬∀g,dQ _ g _ _->_›;exact b λg d=>(by obtain⟨g2,I,Y⟩:=V _ (ap8 d a).2;exact⟨_::g2,by simpa using I,by rw[e];exact .ok c a Y⟩))))|(have a:=Dd.n (T:=ag) ‹dN _ _ _›;(first|(have b:=‹¬(tD _/\∀g,_)›;exact b ⟨(ap8 f a).1,λg d=>⟨_,(ap8 d a).2,by rw[e];exact .ok c a .nil⟩⟩)|(have b:=‹¬(tD _/\(0:Int)<=_/\_)›;exact b ⟨(ap8 f a).1,by omega,by omega,by omega,by omega,_,(ap8 f a).2⟩)|(have b:=‹¬(tD _/\∀g,_)›;have i:=‹fk _ _ _ _ _›;exact b ⟨(ap8 f a).1,λg d=>⟨_,(ap8 d a).2,by rw[e];exact .ok c a i⟩⟩)|(have V:=‹∀g,dQ _ g _ (dO _)->_›;have b:=‹¬∀g,dQ _ g _ _->_›;exact b λg d=>(by obtain⟨g2,I,Y⟩:=V _ (ap8 d a).2;exact⟨_::g2,by simpa using I,by rw[e];exact .ok c a Y⟩))))|(have a:=Dd.t ‹dT _ _ _ _ _ _ _ _›;(first|(have b:=‹¬(tD _/\∀g,_)›;exact b ⟨(ap8 f a).1,λg d=>⟨_,(ap8 d a).2,by rw[e];exact .ok c a .nil⟩⟩)|(have b:=‹¬(tD _/\(0:Int)<=_/\_)›;exact b ⟨(ap8 f a).1,by omega,by omega,by omega,by omega,_,(ap8 f a).2⟩)|(have b:=‹¬(tD _/\∀g,_)›;have i:=‹fk _ _ _ _ _›;exact b ⟨(ap8 f a).1,λg d=>⟨_,(ap8 d a).2,by rw[e];exact .ok c a i⟩⟩)|(have V:=‹∀g,dQ _ g _ (dO _)->_›;have b:=‹¬∀g,dQ _ g _ _->_›;exact b λg d=>(by obtain⟨g2,I,Y⟩:=V _ (ap8 d a).2;exact⟨_::g2,by simpa using I,by rw[e];exact .ok c a Y⟩))))))))
  )
end Go.Proofs.YtokipodjggomfaaGreatDoor
