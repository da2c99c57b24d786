/- A part of the proof of ScriptReads: 1K5. Conditions: those of each theorem. -/
import Derived.Test.YtokipodjggomfaaGreatDoorScr1Fx
set_option linter.unusedVariables false
set_option linter.unusedSimpArgs false
namespace Go.Proofs.YtokipodjggomfaaGreatDoor
open Go.Proofs.YtokipodjggomfaaGreatDoor.Txt
set_option maxRecDepth 100000
set_option maxHeartbeats 4000000
theorem zg:O abH:=b6 [bW aj (pl fv aw) [aU (lq fv aE) [aC iE [10] [aC fE [11] [aC iE [9] [aU (gq (mi fv aj) cj) [aU (eq (aR af aj (pl aj cj)) aH) [az iy [af,aj,aH,pl aj cj]],
 a8 (eq (aR af aj (pl aj cj)) aH) [ay cY [10,11,9]]],
 a8 (gq (mi fv aj) cj) [ay cY [10,11,9]]]]]]]] dw dy (by
  repeat' first|exact b4|apply du|refine cr ?_ ?_
  all_goals intro E h
  all_goals grind (ematch:=4) (splits:=6) [a5l,XQ,Th]
  )
theorem zX:O ab0:=b6 [bW aj (pl fv aw) [aU (lq fv aE) [aC iE [10] [aC fE [11] [aC iE [9] [aU (lt (mi fv aj) cj) [ay cY [10,11,9]],
 a8 (lt (mi fv aj) cj) [aU (ne (aR af aj (pl aj cj)) aH) [ay cY [10,11,9]],
 a8 (ne (aR af aj (pl aj cj)) aH) [az iy [af,aj,aH,pl aj cj],
 az eC [pl aj cj,pl fv aw]]]]]]]]] dw dy (by
  repeat' first|exact b4|apply du|refine cr ?_ ?_
  all_goals intro E h
  all_goals first|omega|grind (ematch:=4) (splits:=6) [a5l,XQ,Th]
  )
theorem FR:O abG:=b6 [aC kdU [10] [aC kdU [9] [aC kdU [8] [aU (gq aX aH) [aU (lq aX af) [ay rL [8,9,10]],
 a8 (lq aX af) [ay jB [8,9,10]]],
 a8 (gq aX aH) [ay jB [8,9,10]]]]]] dw dy (by
  repeat' first|exact b4|apply du|refine cr ?_ ?_
  all_goals intro E h
  all_goals try simp only[Nk,Uq]at h
  all_goals omega
  )
theorem a0y:O abZ:=b6 [aC kdU [8] [aP rL [aX,oP,AU] [az vl [aX,.a1 (.conv .i64) (mi aX oP)]],
 aP jB [aX,oP,AU] [aP rL [aX,FX,a5w] [az vl [aX,pl (.a1 (.conv .i64) (mi aX FX)) xX]],
 aP jB [aX,FX,a5w] [az vl [aX,i6 (-1)]]]]] dw (ba FR dy) (by
  repeat' first|exact b4|apply du|refine cr ?_ ?_
  all_goals intro E h
  all_goals omega
  )
theorem Sz:∀N,O (ab1 N)
  |0=>jE
  |N+1=>b6 [aC (vy (N+1)) [8] [aC fE [8] [aU (lt aX aG) [az (vy N) [.a1 (.un .neg) aX],
 aU (lq cj Pu) [aP ux [.a1 (.un .neg) aX,aH] [az ux [aX,pl (.str [45]) aH],
 az cZ [lq (ln1 (pl (.str [45]) aH)) Pu]]]],
 a8 (lt aX aG) [aU (lt aX xX) [mg Abs.v7 [aX,p_8,ln1 (.str [48,49,50,51,52,53,54,55,56,57])],
 az ux [aX,aR (.str [48,49,50,51,52,53,54,55,56,57]) aX p_8],
 az cZ [lq (ln1 (aR (.str [48,49,50,51,52,53,54,55,56,57]) aX p_8)) Pu]],
 a8 (lt aX xX) [az (vy N) [qu aX xX],
 aU (lq cj Pu) [aP ux [qu aX xX,aH] [az (vy N) [re aX xX],
 aU (lq fv Pu) [aP ux [re aX xX,af] [az ux [aX,pl aH af],
 az cZ [lq (ln1 (pl aH af)) Pu]]]]]]]]]] dw (ba (Sz N) dy) (by
  repeat' first|exact b4|apply du|refine cr ?_ ?_
  all_goals intro E h
  all_goals first|omega|(obtain⟨I,Y,W,U,h5⟩:=h;exact I (adp Y W h5))|(obtain⟨I,l,k,Y,W,U,h5⟩:=h;exact I ⟨by omega,ado Y l⟩)|(obtain⟨I,l,k,Y,W,U,h5⟩:=h;have j:=fo List.length l;have m:=λa b=>a06 (n:= -(Go.Proofs.YtokipodjggomfaaGreatDoor.Txt.gi E 8)) a b;have m:=m (by omega) (by omega);rw[<-j]at m;exact I ⟨by omega,by omega⟩)|(obtain⟨I,Y,W,U⟩:=h;exact I ⟨by omega,by omega,by simp;omega⟩)|(obtain⟨I,Y,W,U⟩:=h;exact I (adn (by omega) Y))|(obtain⟨I,c,o,g,hh,i⟩:=h;have d:=a4n c hh;have h6:=a4o c i;have j:=a06 (Int.le_trans (by decide) g) hh;exact I ⟨by decide,by rw[d.1];omega,by rw[d.1];omega,by rw[d.1,av (by omega)];exact h6.1⟩)|(obtain⟨I,Y,k,c,o,g,hh,i⟩:=h;have d:=a4n c hh;have h6:=a4o c i;have j:=a06 (Int.le_trans (by decide) g) hh;rw[d.2]at I;exact I ⟨by omega,by omega,by rw[av (by omega)];exact h6.2⟩)|(obtain⟨I,e,p,⟨-,f⟩,k,c,o,g,hh,i⟩:=h;have d:=a4n c hh;have h6:=a4o c i;have j:=a06 (Int.le_trans (by decide) g) hh;rw[d.2]at e;rw[d.1]at f;exact I ⟨by omega,by rw[f,e];exact a7W c⟩)|(obtain⟨I,e,p,⟨-,f⟩,k,c,o,g,hh,i⟩:=h;have d:=a4n c hh;have h6:=a4o c i;have j:=a06 (Int.le_trans (by decide) g) hh;rw[d.2]at e;rw[d.1]at f;have q:=fo List.length (a7W c);rw[cg,<-f,<-e]at q;exact I ⟨by omega,by omega⟩)
  )
theorem N4:∀N,O (a4G N)
  |0=>jE
  |N+1=>b6 [aC (mz true (N+1)) [11,13,12,15,14,9,10] [aU (lq aT ar) [aU (lq aq ar) [bW aT (pl bz aw) [bW aq (pl bz aw) [bW ar (pl bz aw) [aU (lq bz aE) [aC iE [11] [aC fE [12] [aC fE [15] [aC fE [14] [aC fE [13] [aC fE [10] [aC fE [9] [aU (lt aT ar) [mg sM [aT,bz],
 aU (eq (ix aj aT) El) [az eC [kL,pl bz aw],
 az cZ [lq kL ar],
 az (mz true N) [aj,aq,ar,kL,au,aH,af],
 bW aK (pl bz aw) [aC eu [11,13,9,10,17,16] [ay eu [11,13,9,10,17,16]]],
 aC bU [11,13,9,10] [ay bU [11,13,9,10]]],
 a8 (eq (ix aj aT) El) [mg sM [aT,bz],
 aU (lt au (qu (pl (i6 (-576460752303423488)) (.a1 (.conv .i64) (mi (ix aj aT) oP))) xX)) [ay bU [11,13,9,10]],
 a8 (lt au (qu (pl (i6 (-576460752303423488)) (.a1 (.conv .i64) (mi (ix aj aT) oP))) xX)) [az eC [kL,pl bz aw],
 az cZ [lq kL ar],
 az (mz true N) [aj,aq,ar,kL,mi (mu xX au) (.a1 (.conv .i64) (mi (ix aj aT) oP)),aH,af],
 bW aK (pl bz aw) [aC eu [11,13,9,10,17,16] [ay eu [11,13,9,10,17,16]]],
 aC bU [11,13,9,10] [ay bU [11,13,9,10]]]]],
 a8 (lt aT ar) [aU (lt au aH) [ay bU [11,13,9,10]],
 a8 (lt au aH) [aU (gt au af) [ay bU [11,13,9,10]],
 a8 (gt au af) [ay (vy 30) [14],
 aU (lq a0p Pu) [aC ux [14,16] [aU (ne (aR aj aq ar) aB) [ay bU [11,13,9,10]],
 a8 (ne (aR aj aq ar) aB) [ay eu [11,13,9,10,12,14]]]]]]]]]]]]]]]]]]]]]] dw (ba (N4 N) (ba (Sz 30) dy)) (by
  repeat' first|exact b4|apply du|refine cr ?_ ?_
  all_goals intro E h
  all_goals first|omega|grind (ematch:=4) (splits:=6) [a5b,XC,XB,a48,aad,->YS,mI,mA]|(obtain⟨I,Y,W,U,h5,h6,h7,i,j,c,d,e,f,g,a,b⟩:=h;exact I (a05 a b.1 W Y))
  )
theorem N5:∀N,O (a4H N)
  |0=>jE
  |N+1=>b6 [aC (mz false (N+1)) [11,13,12,15,14,9,10] [aU (lq aT ar) [aU (lq aq ar) [bW aT (pl bz aw) [bW aq (pl bz aw) [bW ar (pl bz aw) [aU (lq bz aE) [aC iE [11] [aC fE [12] [aC fE [15] [aC fE [14] [aC fE [13] [aC fE [10] [aC fE [9] [aU (lt aT ar) [mg sM [aT,bz],
 aU (eq (ix aj aT) El) [az eC [kL,pl bz aw],
 az cZ [lq kL ar],
 az (mz false N) [aj,aq,ar,kL,au,aH,af],
 bW aK (pl bz aw) [aC eu [11,13,9,10,17,16] [ay eu [11,13,9,10,17,16]]],
 aC bU [11,13,9,10] [ay bU [11,13,9,10]]],
 a8 (eq (ix aj aT) El) [mg sM [aT,bz],
 aU (lt au (qu (pl (i6 (-576460752303423488)) (.a1 (.conv .i64) (mi (ix aj aT) oP))) xX)) [ay bU [11,13,9,10]],
 a8 (lt au (qu (pl (i6 (-576460752303423488)) (.a1 (.conv .i64) (mi (ix aj aT) oP))) xX)) [az eC [kL,pl bz aw],
 az cZ [lq kL ar],
 az (mz false N) [aj,aq,ar,kL,mi (mu xX au) (.a1 (.conv .i64) (mi (ix aj aT) oP)),aH,af],
 bW aK (pl bz aw) [aC eu [11,13,9,10,17,16] [ay eu [11,13,9,10,17,16]]],
 aC bU [11,13,9,10] [ay bU [11,13,9,10]]]]],
 a8 (lt aT ar) [aU (lt (.a1 (.un .neg) au) aH) [ay bU [11,13,9,10]],
 a8 (lt (.a1 (.un .neg) au) aH) [aU (gt (.a1 (.un .neg) au) af) [ay bU [11,13,9,10]],
 a8 (gt (.a1 (.un .neg) au) af) [az (vy 30) [.a1 (.un .neg) au],
 aU (lq a0p Pu) [aP ux [.a1 (.un .neg) au,aB] [aU (ne (aR aj aq ar) aB) [ay bU [11,13,9,10]],
 a8 (ne (aR aj aq ar) aB) [az eu [aj,aq,aH,af,ar,.a1 (.un .neg) au]]]]]]]]]]]]]]]]]]]]]] dw (ba (N5 N) (ba (Sz 30) dy)) (by
  repeat' first|exact b4|apply du|refine cr ?_ ?_
  all_goals intro E h
  all_goals first|omega|grind (ematch:=4) (splits:=6) [a5b,XC,XB,a48,aae,->YS,Z0,mI,mA]|(obtain⟨I,Y,W,U,h5,h6,h7,i,j,c,d,e,f,g,a,b⟩:=h;exact I (a05 a b.1 W Y))
  )
theorem N6:∀N,O (a4I N)
  |0=>jE
  |N+1=>b6 [aC (za (N+1)) [11,13,12,9,10] [aU (lq aq ar) [bW aq (pl bz aw) [bW ar (pl bz aw) [aU (lq bz aE) [aC iE [11] [aC fE [12] [aC fE [13] [aC fE [10] [aC fE [9] [aU (gq ar bz) [aU (lt aq ar) [mg sM [aq,bz],
 aU (eq (ix aj aq) El) [az (mz true 5000) [aj,aq,ar,aq,aG,aH,af],
 bW aT (pl bz aw) [aC eu [11,13,9,10,15,14] [ay eu [11,13,9,10,15,14]]],
 aC bU [11,13,9,10] [ay bU [11,13,9,10]]],
 a8 (eq (ix aj aq) El) [az (mz false 5000) [aj,aq,ar,aq,aG,aH,af],
 bW aT (pl bz aw) [aC eu [11,13,9,10,15,14] [ay eu [11,13,9,10,15,14]]],
 aC bU [11,13,9,10] [ay bU [11,13,9,10]]]],
 a8 (lt aq ar) [az (mz false 5000) [aj,aq,ar,aq,aG,aH,af],
 bW aT (pl bz aw) [aC eu [11,13,9,10,15,14] [ay eu [11,13,9,10,15,14]]],
 aC bU [11,13,9,10] [ay bU [11,13,9,10]]]],
 a8 (gq ar bz) [aP rL [ix aj ar,oP,AU] [aU (lt (mi ar aq) aa3) [az eC [bK,pl bz aw],
 az cZ [lq aq bK],
 az (za N) [aj,aq,bK,aH,af],
 bW aT (pl bz aw) [aC eu [11,13,9,10,15,14] [ay eu [11,13,9,10,15,14]]],
 aC bU [11,13,9,10] [ay bU [11,13,9,10]]],
 a8 (lt (mi ar aq) aa3) [aU (lt aq ar) [mg sM [aq,bz],
 aU (eq (ix aj aq) El) [az (mz true 5000) [aj,aq,ar,aq,aG,aH,af],
 bW aT (pl bz aw) [aC eu [11,13,9,10,15,14] [ay eu [11,13,9,10,15,14]]],
 aC bU [11,13,9,10] [ay bU [11,13,9,10]]],
 a8 (eq (ix aj aq) El) [az (mz false 5000) [aj,aq,ar,aq,aG,aH,af],
 bW aT (pl bz aw) [aC eu [11,13,9,10,15,14] [ay eu [11,13,9,10,15,14]]],
 aC bU [11,13,9,10] [ay bU [11,13,9,10]]]],
 a8 (lt aq ar) [az (mz false 5000) [aj,aq,ar,aq,aG,aH,af],
 bW aT (pl bz aw) [aC eu [11,13,9,10,15,14] [ay eu [11,13,9,10,15,14]]],
 aC bU [11,13,9,10] [ay bU [11,13,9,10]]]]],
 aP jB [ix aj ar,oP,AU] [aU (lt aq ar) [mg sM [aq,bz],
 aU (eq (ix aj aq) El) [az (mz true 5000) [aj,aq,ar,aq,aG,aH,af],
 bW aT (pl bz aw) [aC eu [11,13,9,10,15,14] [ay eu [11,13,9,10,15,14]]],
 aC bU [11,13,9,10] [ay bU [11,13,9,10]]],
 a8 (eq (ix aj aq) El) [az (mz false 5000) [aj,aq,ar,aq,aG,aH,af],
 bW aT (pl bz aw) [aC eu [11,13,9,10,15,14] [ay eu [11,13,9,10,15,14]]],
 aC bU [11,13,9,10] [ay bU [11,13,9,10]]]],
 a8 (lt aq ar) [az (mz false 5000) [aj,aq,ar,aq,aG,aH,af],
 bW aT (pl bz aw) [aC eu [11,13,9,10,15,14] [ay eu [11,13,9,10,15,14]]],
 aC bU [11,13,9,10] [ay bU [11,13,9,10]]]]]]]]]]]]]]]] dw (ba (N6 N) (ba FR (ba (N4 5000) (ba (N5 5000) dy)))) (by
  repeat' first|exact b4|apply du|refine cr ?_ ?_
  all_goals intro E h
  all_goals first|omega|grind (ematch:=4) (splits:=6) [XJ,a9n,acD,acC,acB,acA,acv,acw,a90,->RA,->a7o,mI,mA]
  )
theorem Lh:O a8G:=b6 [aC xQ [9,10] [bW ar (pl bz aw) [aU (lq bz aE) [aC iE [11] [aC fE [12] [aC fE [10] [aC fE [9] [aP iy [aj,ar,.str [45],pl ar (ln1 (.str [45]))] [az eC [bK,pl bz aw],
 az cZ [lq ar bK],
 az (za 5000) [aj,ar,bK,aH,af],
 bW au (pl bz aw) [aC eu [11,12,9,10,14,13] [ay eu [11,12,9,10,14,13]]],
 aC bU [11,12,9,10] [ay bU [11,12,9,10]]],
 aP cY [aj,ar,.str [45]] [az cZ [lq ar ar],
 ay (za 5000) [11,12,12,9,10],
 bW au (pl bz aw) [aC eu [11,12,9,10,14,13] [ay eu [11,12,9,10,14,13]]],
 aC bU [11,12,9,10] [ay bU [11,12,9,10]]]]]]]]]]] dw (ba zg (ba (N6 5000) dy)) (by
  repeat' first|exact b4|apply du|refine cr ?_ ?_
  all_goals intro E h
  all_goals first|omega|grind (ematch:=4) (splits:=6) [XM,XL,->RA]
  )
theorem a6F:O abF:=b6 [aC iE [8] [aU (eq (.str [97,102,116,101,114]) aX) [ay ll [8]],
 a8 (eq (.str [97,102,116,101,114]) aX) [aU (eq (.str [97,110,100]) aX) [ay ll [8]],
 a8 (eq (.str [97,110,100]) aX) [aU (eq (.str [97,110,100,97,108,115,111]) aX) [ay ll [8]],
 a8 (eq (.str [97,110,100,97,108,115,111]) aX) [aU (eq (.str [98,101,103,105,110]) aX) [ay ll [8]],
 a8 (eq (.str [98,101,103,105,110]) aX) [aU (eq (.str [99,97,115,101]) aX) [ay ll [8]],
 a8 (eq (.str [99,97,115,101]) aX) [aU (eq (.str [99,97,116,99,104]) aX) [ay ll [8]],
 a8 (eq (.str [99,97,116,99,104]) aX) [aU (eq (.str [100,105,118]) aX) [ay ll [8]],
 a8 (eq (.str [100,105,118]) aX) [aU (eq (.str [101,110,100]) aX) [ay ll [8]],
 a8 (eq (.str [101,110,100]) aX) [aU (eq (.str [102,117,110]) aX) [ay ll [8]],
 a8 (eq (.str [102,117,110]) aX) [aU (eq (.str [110,111,116]) aX) [ay ll [8]],
 a8 (eq (.str [110,111,116]) aX) [aU (eq (.str [111,102]) aX) [ay ll [8]],
 a8 (eq (.str [111,102]) aX) [aU (eq (.str [111,114]) aX) [ay ll [8]],
 a8 (eq (.str [111,114]) aX) [aU (eq (.str [111,114,101,108,115,101]) aX) [ay ll [8]],
 a8 (eq (.str [111,114,101,108,115,101]) aX) [aU (eq (.str [114,101,99,101,105,118,101]) aX) [ay ll [8]],
 a8 (eq (.str [114,101,99,101,105,118,101]) aX) [aU (eq (.str [114,101,109]) aX) [ay ll [8]],
 a8 (eq (.str [114,101,109]) aX) [aU (eq (.str [116,114,121]) aX) [ay ll [8]],
 a8 (eq (.str [116,114,121]) aX) [aU (eq (.str [119,104,101,110]) aX) [ay ll [8]],
 a8 (eq (.str [119,104,101,110]) aX) [ay s3 [8]]]]]]]]]]]]]]]]]]]] dw dy (by
  repeat' first|exact b4|apply du|refine cr ?_ ?_
  all_goals intro E h
  all_goals first|(obtain⟨I,Y⟩:=h;first|(rw[<-Y]at I;exact I rfl)|(rw[<-Y.1]at I;exact I rfl))|(refine h.1 ?_;simp only[words,List.contains_cons,List.contains_nil,Bool.or_false,Bool.or_eq_false_iff,beq_eq_false_iff_ne];grind)
  )
theorem Oo:∀N,O (a4J N)
  |0=>jE
  |N+1=>b6 [aC (l8 (N+1)) [8,9] [bW aH (pl eR aw) [aU (lq eR aE) [aC fE [9] [aC iE [8] [aU (lt aH eR) [aP rL [ix aX aH,FX,Dz] [az eC [V8,pl eR aw],
 az (l8 N) [aX,V8],
 aC jG [8] [ay jG [8]],
 aC et [8] [ay et [8]]],
 aP jB [ix aX aH,FX,Dz] [aP rL [ix aX aH,a2m,a2l] [az eC [V8,pl eR aw],
 az (l8 N) [aX,V8],
 aC jG [8] [ay jG [8]],
 aC et [8] [ay et [8]]],
 aP jB [ix aX aH,a2m,a2l] [aP rL [ix aX aH,oP,AU] [az eC [V8,pl eR aw],
 az (l8 N) [aX,V8],
 aC jG [8] [ay jG [8]],
 aC et [8] [ay et [8]]],
 aP jB [ix aX aH,oP,AU] [aU (ne (ix aX aH) a2k) [aU (ne (ix aX aH) a2n) [ay et [8]],
 a8 (ne (ix aX aH) a2n) [az eC [V8,pl eR aw],
 az (l8 N) [aX,V8],
 aC jG [8] [ay jG [8]],
 aC et [8] [ay et [8]]]],
 a8 (ne (ix aX aH) a2k) [az eC [V8,pl eR aw],
 az (l8 N) [aX,V8],
 aC jG [8] [ay jG [8]],
 aC et [8] [ay et [8]]]]]]],
 a8 (lt aH eR) [aC ll [8] [ay et [8]],
 aC s3 [8] [ay jG [8]]]]]]]]] dw (ba (Oo N) (ba FR (ba a6F dy))) (by
  repeat' first|exact b4|apply du|refine cr ?_ ?_
  all_goals intro E h
  all_goals first|omega|grind (ematch:=4) (splits:=6) [XT,QG,XU,a17,Tb,a18,Uq]|(obtain⟨I,Y,W,U,h5,h6,h7,a,b⟩:=h;exact I (xn.2 ⟨h6,h7,QG a (by omega),Y⟩))
  )
theorem Ly:O a8K:=b6 [aU (lq eR aE) [aC iE [8] [aU (eq aX cX) [ay et [8]],
 a8 (eq aX cX) [aU (gt eR tj) [ay et [8]],
 a8 (gt eR tj) [mg sM [aG,eR],
 aP rL [ix aX aG,FX,Dz] [az eC [aG,pl eR aw],
 az (l8 5000) [aX,aG],
 aC jG [8] [ay jG [8]],
 aC et [8] [ay et [8]]],
 aP jB [ix aX aG,FX,Dz] [ay et [8]]]]]]] dw (ba (Oo 5000) (ba FR dy)) (by
  repeat' first|exact b4|apply du|refine cr ?_ ?_
  all_goals intro E h
  all_goals first|omega|grind (ematch:=4) (splits:=6) [Te,Td,Tc,ni,RO,Nk]
  )
theorem N2:∀N,O (a4F N)
  |0=>jE
  |N+1=>b6 [aC (ma (N+1)) [10,12,11] [aU (lq ar aj) [bW ar (pl fv aw) [bW aj (pl fv aw) [aU (lq fv aE) [aC iE [10] [aC fE [11] [aC fE [12] [aU (lt aj fv) [az cZ [lq (ln1 (pl (.str [97]) (aR af aj dz))) aE],
 aP jG [pl (.str [97]) (aR af aj dz)] [az eC [dz,pl fv aw],
 az cZ [lq ar dz],
 az (ma N) [af,ar,dz],
 bW au (pl fv aw) [aC om [10,12,14,13] [ay om [10,12,14,13]]],
 aC iz [10,12,13] [ay iz [10,12,13]]],
 aP et [pl (.str [97]) (aR af aj dz)] [az cZ [lq (ln1 (aR af ar aj)) aE],
 aP jG [aR af ar aj] [az om [af,ar,aj,aR af ar aj]],
 aP et [aR af ar aj] [az iz [af,ar,aR af ar aj]]]],
 a8 (lt aj fv) [az cZ [lq (ln1 (aR af ar aj)) aE],
 aP jG [aR af ar aj] [az om [af,ar,aj,aR af ar aj]],
 aP et [aR af ar aj] [az iz [af,ar,aR af ar aj]]]]]]]]]]]] dw (ba (N2 N) (ba Ly dy)) (by
  repeat' first|exact b4|apply du|refine cr ?_ ?_
  all_goals intro E h
  all_goals first|omega|grind (ematch:=4) (splits:=6) [X1,X0,X2,noL,->a9s,->a9t]
  )
theorem a2N:O a8F:=b6 [bW af (pl cj aw) [aU (lq cj aE) [aC iE [9] [aC fE [10] [az cZ [lq af af],
 ay (ma 5000) [9,10,10],
 bW aq (pl cj aw) [aC om [9,10,13,12] [ay om [9,10,13,12]]],
 aC iz [9,10,12] [ay iz [9,10,12]]]]]]] dw (ba (N2 5000) dy) (by
  repeat' first|exact b4|apply du|refine cr ?_ ?_
  all_goals intro E h
  all_goals first|omega|grind (ematch:=4) (splits:=6) [X3]
  )
end Go.Proofs.YtokipodjggomfaaGreatDoor
