/- A part of the proof of ScriptReads: 2B. Conditions: those of each theorem. -/
import Derived.Test.YtokipodjggomfaaGreatDoorScr2A
set_option linter.unusedVariables false
set_option linter.unusedSimpArgs false
namespace Go.Proofs.YtokipodjggomfaaGreatDoor
open Go.Proofs.YtokipodjggomfaaGreatDoor.Txt
set_option maxRecDepth 100000
set_option maxHeartbeats 4000000
theorem TF:∀N,O (U8 N)
  |0=>Nw
  |N+1=>b6 [aC (xZq (N+1)) [17,18] [aU (lq hO aE) [aC fE [18] [aC iE [17] [ay sN [17],
 aP Ru [aK,.str [10],bI] [aU (lt bI aG) [aU (eq aK cX) [ay (IG ag) [17,18]],
 a8 (eq aK cX) [aC oC [17] [az (zt ag) [aK,aY,lB]],
 aC me [17] [az (zt ag) [aK,aY,lB]],
 aC bp [17] [az (zt ag) [aK,aY,lB]],
 aC (oB ag) [17,20,21] [ay (Zk ag) [17,18,20,21]],
 aC gW [17,20,21] [ay (Zl ag) [17,18,20,21]],
 aC (mc ag) [17,20,21,22,23,24,25] [ay (Zj ag) [17,18,20,21,22,23,24,25]]]],
 a8 (lt bI aG) [mg Abs.v7 [aG,pl bI aG,hO],
 aU (eq (aR aK aG (pl bI aG)) cX) [mg Abs.v7 [eK,hO,hO],
 az cZ [lq (ln1 (aR aK eK hO)) aE],
 az (xZq N) [aR aK eK hO,lB],
 aP (IG ag) [aR aK eK hO,lB] [ay (IG ag) [17,18]],
 aP (Qq ag) [aR aK eK hO,lB,bT,cG] [ay (Qq ag) [17,18,22,24]],
 aP (zt ag) [aR aK eK hO,lB,bC] [ay (zt ag) [17,18,20]],
 aP (Qp ag) [aR aK eK hO,lB,bT,cG,bC] [ay (Qp ag) [17,18,22,24,20]],
 aP (Zk ag) [aR aK eK hO,lB,bT,cQ] [ay (Zk ag) [17,18,22,23]],
 aP (Zl ag) [aR aK eK hO,lB,bT,cQ] [ay (Zl ag) [17,18,22,23]],
 aP (Zj ag) [aR aK eK hO,lB,bT,cQ,cG,cW,di,er] [ay (Zj ag) [17,18,22,23,24,25,26,27]]],
 a8 (eq (aR aK aG (pl bI aG)) cX) [az cZ [lq (ln1 (aR aK aG (pl bI aG))) aE],
 aP oC [aR aK aG (pl bI aG)] [az (zt ag) [aK,aY,lB]],
 aP me [aR aK aG (pl bI aG)] [az (zt ag) [aK,aY,lB]],
 aP bp [aR aK aG (pl bI aG)] [az (zt ag) [aK,aY,lB]],
 aP (oB ag) [aR aK aG (pl bI aG),bC,dG] [mg Abs.v7 [eK,hO,hO],
 az cZ [lq (ln1 (aR aK eK hO)) aE],
 az (QH ag 4201) [aR aK eK hO,lB,aw,s4 (s4 n8 aw aG bC aG) aG cX ns dG],
 aP (IG ag) [aR aK eK hO,lB] [az (Qq ag) [aK,aY,aw,s4 (s4 n8 aw aG bC aG) aG cX ns dG]],
 aP (E4 ag) [aR aK eK hO,lB,aw,s4 (s4 n8 aw aG bC aG) aG cX ns dG,eJ,fq] [ay (Qq ag) [17,18,28,30]],
 aP (zt ag) [aR aK eK hO,lB,di] [az (Qp ag) [aK,aY,aw,s4 (s4 n8 aw aG bC aG) aG cX ns dG,di]],
 aP (IH ag) [aR aK eK hO,lB,aw,s4 (s4 n8 aw aG bC aG) aG cX ns dG,eJ,fq,di] [ay (Qp ag) [17,18,28,30,26]]],
 aP gW [aR aK aG (pl bI aG),bC,dG] [mg Abs.v7 [eK,hO,hO],
 az cZ [lq (ln1 (aR aK eK hO)) aE],
 az (QH ag 4201) [aR aK eK hO,lB,aw,s4 (s4 n8 bC dG cX aG) aG cX ns ns],
 aP (IG ag) [aR aK eK hO,lB] [az (Qq ag) [aK,aY,aw,s4 (s4 n8 bC dG cX aG) aG cX ns ns]],
 aP (E4 ag) [aR aK eK hO,lB,aw,s4 (s4 n8 bC dG cX aG) aG cX ns ns,eJ,fq] [ay (Qq ag) [17,18,28,30]],
 aP (zt ag) [aR aK eK hO,lB,di] [az (Qp ag) [aK,aY,aw,s4 (s4 n8 bC dG cX aG) aG cX ns ns,di]],
 aP (IH ag) [aR aK eK hO,lB,aw,s4 (s4 n8 bC dG cX aG) aG cX ns ns,eJ,fq,di] [ay (Qp ag) [17,18,28,30,26]]],
 aP (mc ag) [aR aK aG (pl bI aG),bC,dG,bT,cQ,cG,cW] [mg Abs.v7 [eK,hO,hO],
 az cZ [lq (ln1 (aR aK eK hO)) aE],
 az (QH ag 4201) [aR aK eK hO,lB,aw,s4 (s4 n8 bC dG cX bT) cQ cG cW ns],
 aP (IG ag) [aR aK eK hO,lB] [az (Qq ag) [aK,aY,aw,s4 (s4 n8 bC dG cX bT) cQ cG cW ns]],
 aP (E4 ag) [aR aK eK hO,lB,aw,s4 (s4 n8 bC dG cX bT) cQ cG cW ns,oi,jo] [ay (Qq ag) [17,18,32,34]],
 aP (zt ag) [aR aK eK hO,lB,fq] [az (Qp ag) [aK,aY,aw,s4 (s4 n8 bC dG cX bT) cQ cG cW ns,fq]],
 aP (IH ag) [aR aK eK hO,lB,aw,s4 (s4 n8 bC dG cX bT) cQ cG cW ns,oi,jo,fq] [ay (Qp ag) [17,18,32,34,30]]]]]]]]]]] (vo Mg dw) (ba (TF N) (ba (Q5 4201) (ba (Zp) dy))) (by
  repeat' first|exact b4|apply du|refine CG ?_ ?_
  all_goals intro E h
  all_goals(revert h;simp only[bq,bu];intros;first
   |omega
   |(have Z:=‹_=Lib.index _ [10]›;have i:=‹((List.length _:Nat):Int)<=4200›;rcases a0u Z i with⟨k,e⟩|⟨w0,j,l,m,e⟩
     .first|omega|(first|(have a:=‹¬∃L,Dd _ L _/\_›;have c:=‹¬_=([]:B)›;first|exact a ⟨_,Dd.s ‹dS _ _ _ _›,by rw[e];exact .ok c (Dd.s ‹dS _ _ _ _›) .nil⟩|exact a ⟨_,Dd.n (T:=ag) ‹dN _ _ _›,by rw[e];exact .ok c (Dd.n (T:=ag) ‹dN _ _ _›) .nil⟩|exact a ⟨_,Dd.t ‹dT _ _ _ _ _ _ _ _›,by rw[e];exact .ok c (Dd.t ‹dT _ _ _ _ _ _ _ _›) .nil⟩)|(have a:=‹¬fk _ _ _ _ _›;have f:=‹_=([]:B)›;exact a (by rw[e,f];exact .UU .nil))|(have a:=‹¬fk _ _ _ _ _›;have c:=‹¬_=([]:B)›;exact a (by rw[e];(first|exact .bad c (.inl ‹dL _›)|exact .bad c (.inr (.inl ‹dM _›))|exact .bad c (.inr (.inr ‹dB _›)))))|(have c:=‹¬_=([]:B)›;first|(have b:=Dd.s ‹dS _ _ _ _›;(first|(have a:=‹¬(tD _/\∃g,_)›;exact a ⟨(e7 b).1,_,(e7 b).2,by rw[e];exact .ok c b .nil⟩)|(have a:=‹¬(tD _/\(0:Int)<=_/\_)›;exact a ⟨(e7 b).1,by omega,by omega,by omega,by omega,_,(e7 b).2⟩)|(have a:=‹¬(tD _/\∃g,_)›;have d:=‹fk _ _ _ _ _›;exact a ⟨(e7 b).1,_,(e7 b).2,by rw[e];exact .ok c b d⟩)|(have V:=‹∀g,dQ _ g _ (dO _)->_›;have a:=‹¬∃g,dQ _ g _ _/\_›;exact a (by obtain⟨g2,I,Y⟩:=V _ (e7 b).2;exact⟨_,I,by rw[e];exact .ok c b Y⟩))))|(have b:=Dd.n (T:=ag) ‹dN _ _ _›;(first|(have a:=‹¬(tD _/\∃g,_)›;exact a ⟨(e7 b).1,_,(e7 b).2,by rw[e];exact .ok c b .nil⟩)|(have a:=‹¬(tD _/\(0:Int)<=_/\_)›;exact a ⟨(e7 b).1,by omega,by omega,by omega,by omega,_,(e7 b).2⟩)|(have a:=‹¬(tD _/\∃g,_)›;have d:=‹fk _ _ _ _ _›;exact a ⟨(e7 b).1,_,(e7 b).2,by rw[e];exact .ok c b d⟩)|(have V:=‹∀g,dQ _ g _ (dO _)->_›;have a:=‹¬∃g,dQ _ g _ _/\_›;exact a (by obtain⟨g2,I,Y⟩:=V _ (e7 b).2;exact⟨_,I,by rw[e];exact .ok c b Y⟩))))|(have b:=Dd.t ‹dT _ _ _ _ _ _ _ _›;(first|(have a:=‹¬(tD _/\∃g,_)›;exact a ⟨(e7 b).1,_,(e7 b).2,by rw[e];exact .ok c b .nil⟩)|(have a:=‹¬(tD _/\(0:Int)<=_/\_)›;exact a ⟨(e7 b).1,by omega,by omega,by omega,by omega,_,(e7 b).2⟩)|(have a:=‹¬(tD _/\∃g,_)›;have d:=‹fk _ _ _ _ _›;exact a ⟨(e7 b).1,_,(e7 b).2,by rw[e];exact .ok c b d⟩)|(have V:=‹∀g,dQ _ g _ (dO _)->_›;have a:=‹¬∃g,dQ _ g _ _/\_›;exact a (by obtain⟨g2,I,Y⟩:=V _ (e7 b).2;exact⟨_,I,by rw[e];exact .ok c b Y⟩))))))
     .simp only[w0,j]at *;first|omega|(first|(have a:=‹¬∃L,Dd _ L _/\_›;have f:=‹List.take _ _=([]:B)›;have I:=‹Dd _ _ _›;have Y:=‹fk _ _ _ _ _›;exact a ⟨_,I,by rw[e,f];exact .UU Y⟩)|(have a:=‹¬((0:Int)<=_/\_)›;exact a ⟨by omega,by omega,by omega⟩)|(have a:=‹¬fk _ _ _ _ _›;have f:=‹List.take _ _=([]:B)›;have d:=‹fk _ _ _ _ _›;exact a (by rw[e,f];exact .UU d))|(have a:=‹¬∃g,dQ _ g _ _/\_›;have f:=‹List.take _ _=([]:B)›;have I:=‹dQ _ _ _ _›;have Y:=‹fk _ _ _ _ _›;exact a ⟨_,I,by rw[e,f];exact .UU Y⟩)|(have a:=‹¬fk _ _ _ _ _›;have c:=‹¬List.take _ _=([]:B)›;exact a (by rw[e];(first|exact .bad c (.inl ‹dL _›)|exact .bad c (.inr (.inl ‹dM _›))|exact .bad c (.inr (.inr ‹dB _›)))))|(have c:=‹¬List.take _ _=([]:B)›;first|(have b:=Dd.s ‹dS _ _ _ _›;(first|(have a:=‹¬(tD _/\∃g,_)›;exact a ⟨(e7 b).1,_,(e7 b).2,by rw[e];exact .ok c b .nil⟩)|(have a:=‹¬(tD _/\(0:Int)<=_/\_)›;exact a ⟨(e7 b).1,by omega,by omega,by omega,by omega,_,(e7 b).2⟩)|(have a:=‹¬(tD _/\∃g,_)›;have d:=‹fk _ _ _ _ _›;exact a ⟨(e7 b).1,_,(e7 b).2,by rw[e];exact .ok c b d⟩)|(have V:=‹∀g,dQ _ g _ (dO _)->_›;have a:=‹¬∃g,dQ _ g _ _/\_›;exact a (by obtain⟨g2,I,Y⟩:=V _ (e7 b).2;exact⟨_,I,by rw[e];exact .ok c b Y⟩))))|(have b:=Dd.n (T:=ag) ‹dN _ _ _›;(first|(have a:=‹¬(tD _/\∃g,_)›;exact a ⟨(e7 b).1,_,(e7 b).2,by rw[e];exact .ok c b .nil⟩)|(have a:=‹¬(tD _/\(0:Int)<=_/\_)›;exact a ⟨(e7 b).1,by omega,by omega,by omega,by omega,_,(e7 b).2⟩)|(have a:=‹¬(tD _/\∃g,_)›;have d:=‹fk _ _ _ _ _›;exact a ⟨(e7 b).1,_,(e7 b).2,by rw[e];exact .ok c b d⟩)|(have V:=‹∀g,dQ _ g _ (dO _)->_›;have a:=‹¬∃g,dQ _ g _ _/\_›;exact a (by obtain⟨g2,I,Y⟩:=V _ (e7 b).2;exact⟨_,I,by rw[e];exact .ok c b Y⟩))))|(have b:=Dd.t ‹dT _ _ _ _ _ _ _ _›;(first|(have a:=‹¬(tD _/\∃g,_)›;exact a ⟨(e7 b).1,_,(e7 b).2,by rw[e];exact .ok c b .nil⟩)|(have a:=‹¬(tD _/\(0:Int)<=_/\_)›;exact a ⟨(e7 b).1,by omega,by omega,by omega,by omega,_,(e7 b).2⟩)|(have a:=‹¬(tD _/\∃g,_)›;have d:=‹fk _ _ _ _ _›;exact a ⟨(e7 b).1,_,(e7 b).2,by rw[e];exact .ok c b d⟩)|(have V:=‹∀g,dQ _ g _ (dO _)->_›;have a:=‹¬∃g,dQ _ g _ _/\_›;exact a (by obtain⟨g2,I,Y⟩:=V _ (e7 b).2;exact⟨_,I,by rw[e];exact .ok c b Y⟩))))))))
  )
end Go.Proofs.YtokipodjggomfaaGreatDoor
