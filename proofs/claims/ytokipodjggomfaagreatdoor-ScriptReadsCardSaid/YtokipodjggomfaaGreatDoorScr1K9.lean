/- A part of the proof of ScriptReads: 1K9. Conditions: those of each theorem. -/
import Derived.Test.YtokipodjggomfaaGreatDoorScr1K8
set_option linter.unusedVariables false
set_option linter.unusedSimpArgs false
namespace Go.Proofs.YtokipodjggomfaaGreatDoor
open Go.Proofs.YtokipodjggomfaaGreatDoor.Txt
set_option maxRecDepth 100000
set_option maxHeartbeats 4000000
theorem a66(N:Nat)(i:O (MV N 20000)):O (a1t (N+1)):=b6 [aC (l6 ag (N+1)) [8,9,10,11] [ay (sR ag) [8,9,10,11],
 aC (rN ag) [8,9,10,11] [az eC [aG,pl bz aw],
 az (qQ ag N 20000) [aX,aH,af,aj,aG],
 aP (pK ag) [aX,aH,af,aj,aG] [ay (Bg ag) [8,9,10,11]],
 aP (km ag) [aX,aH,af,aj,aG] [ay (pL ag) [8,9,10,11]]],
 aC (ec ag) [8,9,10,11] [ay (pL ag) [8,9,10,11]]]] dw (ba a69 (ba i dy)) (by
  repeat' first|exact b4|apply du|refine cr ?_ ?_
  all_goals intro E h
  all_goals first|(obtain⟨I,t,a,d,c,g⟩:=h;exact I ⟨t,a,d,c⟩)|(obtain⟨I,⟨t1,b,f⟩,t,a,d,c,g⟩:=h;have e:=b8 a b;subst e;have q:=zC a;have j:=wk c;exact I ⟨q.1,by omega,by rw[q.2,eF (by omega)];omega⟩)|(obtain⟨I,⟨t1,b,f⟩,t,a,d,c,g⟩:=h;have e:=b8 a b;subst e;have j:=wk c;exact I ⟨t,a,d,c,g,f,rfl,by omega⟩)|(obtain⟨I,Y, -⟩:=h;exact I Y)|(obtain⟨I,⟨t,a,f⟩, -⟩:=h;exact I ⟨t,a,a35 f⟩)
  )
theorem a3c(N:Nat)(M:Nat)(c:O (a1t N))(I:O (MV N M)):O (MV N (M+1)):=b6 [aC (qQ ag N (M+1)) [9,10,11,12,13] [bW aq (pl iB aw) [aC fE [9] [aC fE [10] [aC iE [11] [aC (Abs.CU (.sl ag)) [12] [aC fE [13] [aU (lt aq iB) [az (l6 ag N) [ld 0 ar aq,ld 1 ar aq,ld 2 ar aq,ld 3 ar aq],
 aP (Bg ag) [ld 0 ar aq,ld 1 ar aq,ld 2 ar aq,ld 3 ar aq] [az eC [lY,pl iB aw],
 az (qQ ag N M) [aH,af,aj,ar,lY],
 aP (pK ag) [aH,af,aj,ar,lY] [ay (pK ag) [9,10,11,12,13]],
 aP (km ag) [aH,af,aj,ar,lY] [ay (km ag) [9,10,11,12,13]]],
 aP (pL ag) [ld 0 ar aq,ld 1 ar aq,ld 2 ar aq,ld 3 ar aq] [ay (km ag) [9,10,11,12,13]]],
 a8 (lt aq iB) [ay (pK ag) [9,10,11,12,13]]]]]]]]]] dw (ba c (ba I dy)) (by
  repeat' first|exact b4|apply du|refine cr ?_ ?_
  all_goals intro E h
  all_goals first|(obtain⟨I,Y, -⟩:=h;exact I Y)|(obtain⟨I,V,⟨-,c, -⟩,t,b,f,g,p,n,a,s⟩:=h;obtain⟨u,r,g0,g1,g2,g3,o,i,j,m,v,d⟩:=itE V c b f g;exact I ⟨g0,g1,g2,g3,u,o,i,j,by omega⟩)|(obtain⟨I,⟨-, -, -, -,t1,k,l⟩,V,⟨-,c, -⟩,t,b,f,g,p,n,a,s⟩:=h;obtain⟨u,r,g0,g1,g2,g3,o,i,j,m,v,d⟩:=itE V c b f g;exact I ⟨V.1,by rw[eF (by omega)];omega,by rw[eF (by omega),eF (by omega)];omega⟩)|(obtain⟨I,⟨-, -, -, -,t1,k,l⟩,V,⟨-,c, -⟩,t,b,f,g,p,n,a,s⟩:=h;obtain⟨u,r,g0,g1,g2,g3,o,i,j,m,v,d⟩:=itE V c b f g;have e:=b8 o k;subst e;refine I ⟨t,b,f,g,p,n,?_,by rw[eF (by omega)];omega⟩;rw[eF (by omega),Int.toNat_add c (by decide)];exact Sq a r l)|(obtain⟨I,⟨-, -, -, -,t1,k,l⟩,V,⟨-,c, -⟩,t,b,f,g,p,n,a,s⟩:=h;obtain⟨u,r,g0,g1,g2,g3,o,i,j,m,v,d⟩:=itE V c b f g;have e:=b8 o k;subst e;refine I ⟨t,b,?_⟩;cases w:t.fits with|false=>rfl|true=>exact absurd (Hx.1 w).2 (by rw[a0J r l];simp))|(obtain⟨I,⟨-,Y⟩,⟨x,c,W⟩,t,b,f,g,p,n,a,s⟩:=h;have q:=zC b;exact I ⟨t,b,Hx.2 ⟨n,by rwa [gp (by omega)]at a⟩⟩)
  )
theorem a6G(N:Nat)(j:O (MU N 20000)):O (a1p (N+1)):=b6 [aC (l6 ag (N+1)) [8,9,10,11] [aU (eq aX Qs) [az eC [aG,pl bz aw],
 az (ov ag N 20000) [aX,aH,af,aj,fZ,aG],
 aU (lq aq rj) [aP (nJ ag) [aX,aH,af,aj,fZ,aG,aq] [ay (vQ ag) [8,9,10,11,13]]]],
 a8 (eq aX Qs) [aU (eq aX i_7) [az eC [aG,pl bz aw],
 az (ov ag N 20000) [aX,aH,af,aj,fZ,aG],
 aU (lq aq rj) [aP (nJ ag) [aX,aH,af,aj,fZ,aG,aq] [ay (vQ ag) [8,9,10,11,13]]]],
 a8 (eq aX i_7) [aU (eq aX vf) [az eC [aG,pl bz aw],
 az (ov ag N 20000) [aX,aH,af,aj,aw,aG],
 aU (lq aq rj) [aP (nJ ag) [aX,aH,af,aj,aw,aG,aq] [ay (vQ ag) [8,9,10,11,13]]]],
 a8 (eq aX vf) [az (vQ ag) [aX,aH,af,aj,aw],
 az cZ [lq aw rj]]]]]] dw (ba j dy) (by
  repeat' first|exact b4|apply du|refine cr ?_ ?_
  all_goals intro E h
  all_goals first|omega|(obtain⟨I,Y, -⟩:=h;exact I Y)|(obtain⟨I,hk,t,a,c,b,d⟩:=h;have q:=zC a;have f:=wk b;exact I ⟨q.1,by omega,by rw[q.2,eF (by omega)];omega⟩)|(obtain⟨I,hk,t,a,c,b,d⟩:=h;have f:=wk b;have g:=jA a;refine I ⟨t,a,c,b,d,?_,by omega⟩;rw[zb,g];split<;>omega)|(obtain⟨I,hk,e,t,a,c,b,d⟩:=h;have q:=zC a;have f:=wk b;exact I ⟨q.1,by omega,by rw[q.2,eF (by omega)];omega⟩)|(obtain⟨I,hk,e,t,a,c,b,d⟩:=h;have f:=wk b;have g:=jA a;refine I ⟨t,a,c,b,d,?_,by omega⟩;rw[zb,g];split<;>omega)|(obtain⟨I,hk,e,i,t,a,c,b,d⟩:=h;have q:=zC a;have f:=wk b;exact I ⟨q.1,by omega,by rw[q.2,eF (by omega)];omega⟩)|(obtain⟨I,hk,e,i,t,a,c,b,d⟩:=h;have f:=wk b;have g:=jA a;refine I ⟨t,a,c,b,d,?_,by omega⟩;rw[zb,g];split<;>omega)|(obtain⟨I,k,h7,h5,t,a,c,b,d⟩:=h;exact I ⟨t,a,aco k h7 h5 a c⟩)
  )
theorem a2i(N:Nat)(M:Nat)(a:O (a1p N))(I:O (MU N M)):O (MU N (M+1)):=b6 [aC (ov ag N (M+1)) [9,10,11,12,13,14] [bW au (pl iB aw) [aC fE [9] [aC fE [10] [aC iE [11] [aC (Abs.CU (.sl ag)) [12] [aC fE [14] [aC fE [13] [aU (lt au iB) [az (l6 ag N) [ld 0 ar au,ld 1 ar au,ld 2 ar au,ld 3 ar au],
 aU (lq aT rj) [aP (vQ ag) [ld 0 ar au,ld 1 ar au,ld 2 ar au,ld 3 ar au,aT] [az eC [ca,pl iB aw],
 az (ov ag N M) [aH,af,aj,ar,pl aq aT,ca],
 aU (lq aB rj) [aP (nJ ag) [aH,af,aj,ar,pl aq aT,ca,aB] [ay (nJ ag) [9,10,11,12,13,14,16]]]]]],
 a8 (lt au iB) [ay (nJ ag) [9,10,11,12,13,14,13],
 az cZ [lq aq rj]]]]]]]]]]] dw (ba a (ba I dy)) (by
  repeat' first|exact b4|apply du|refine cr ?_ ?_
  all_goals intro E h
  all_goals first|(obtain⟨I,Y, -⟩:=h;exact I Y)|(obtain⟨I,V,⟨-,a, -⟩,t,b,f,c,k,d,o⟩:=h;obtain⟨u,r,g0,g1,g2,g3,p,i,j,l,s,g⟩:=itE V a b f c;exact I ⟨g0,g1,g2,g3,u,p,i,j,by omega⟩)|(obtain⟨I,⟨-, -, -, -,t1,m,n⟩,v,V,⟨-,a, -⟩,t,b,f,c,k,d,o⟩:=h;obtain⟨u,r,g0,g1,g2,g3,p,i,j,l,s,g⟩:=itE V a b f c;exact I ⟨V.1,by rw[eF (by omega)];omega,by rw[eF (by omega),eF (by omega)];omega⟩)|(obtain⟨I,⟨-, -, -, -,t1,m,n⟩,v,V,⟨-,a, -⟩,t,b,f,c,k,d,o⟩:=h;obtain⟨u,r,g0,g1,g2,g3,p,i,j,l,s,g⟩:=itE V a b f c;have e:=b8 p m;subst e;have w:=Ns r;have x:=a9N c d;refine I ⟨t,b,f,c,k,?_,by rw[eF (by omega)];omega⟩;rw[eF (by omega),eF (by omega),Int.toNat_add a (by decide),show(1:Int).toNat=1 from rfl,w,d,n];omega)|(obtain⟨I,⟨-,Y⟩,⟨y,a,W⟩,t,b,f,c,k,d,o⟩:=h;have q:=zC b;rw[gp (by omega)]at d;exact I ⟨t,b,acn d⟩)|(obtain⟨I,⟨-,Y⟩,⟨y,a,W⟩,t,b,f,c,k,d,o⟩:=h;have x:=a9N c d;omega)
  )
theorem Zo:∀N,O (a1t N)
 |0=>jE
 |N+1=>by
  have h:=Zo N;have a:∀M,O (MV N M):=λM=>by
   induction M with
   |zero=>exact jE
   |succ M b=>exact a3c N M h b
  exact a66 N (a 20000)
theorem Yc:∀N,O (a1p N)
 |0=>jE
 |N+1=>by
  have h:=Yc N;have a:∀M,O (MU N M):=λM=>by
   induction M with
   |zero=>exact jE
   |succ M b=>exact a2i N M h b
  exact a6G N (a 20000)
theorem Zb:O abK:=b6 [aU (lq eR aE) [aC iE [8] [az eC [aG,pl eR aw],
 az (ms 5000) [aX,aG],
 bW aT (pl eR aw) [aP (jq ag (PT false)) [aX,aG,aT,aj,ar,aq,au] [aU (lt aT eR) [ay lU [8]],
 a8 (lt aT eR) [ay (l6 ag 20000) [11,12,13,14],
 aC (Bg ag) [11,12,13,14] [ay (l6 ag 20000) [11,12,13,14],
 aU (lq aY rj) [aC (vQ ag) [11,12,13,14,18] [ay (Eu ag) [8,11,12,13,14]]]],
 aC (pL ag) [11,12,13,14] [ay lU [8]]]]],
 aP (cK ag (PT false)) [aX,aG,aj,ar,aq,au] [ay lU [8]]]]] dw (ba (a2F 5000) (ba (Zo 20000) (ba (Yc 20000) dy))) (by
  repeat' first|exact b4|apply du|refine cr ?_ ?_
  all_goals intro E h
  all_goals first|omega|(exact h.1 (Og h.2.1.1))|(obtain⟨I,Y,⟨t,b,a⟩,W,U⟩:=h;exact I (Lp a (a5W (by omega) Y)))|(obtain⟨I,Y,⟨t,b,a⟩,W,U⟩:=h;have q:=a1W a;have z:=iL t;exact I ⟨t,b,q.1,by omega,by omega⟩)|(obtain⟨I, -,Y,⟨t,b,a⟩,W,U⟩:=h;have q:=a1W a;have z:=iL t;exact I ⟨t,b,q.1,by omega,by omega⟩)|(obtain⟨I, -, -,⟨t1,c,d⟩,Y,⟨t,b,a⟩,W,U⟩:=h;have e:=b8 b c;subst e;rw[Sw (by omega)]at a;exact I ⟨t,b,by rw[Oh a,d];rfl⟩)|(obtain⟨I,⟨t1,c,d⟩,Y,⟨t,b,a⟩,W,U⟩:=h;have e:=b8 b c;subst e;rw[Sw (by omega)]at a;exact I (by rw[Oh a,d];rfl))
  )
theorem TB:∀N,O (a8D N)
  |0=>jE
  |N+1=>b6 [aC (fW (N+1)) [9,10] [bW af (pl cj aw) [aU (lq cj aE) [aC fE [10] [aC iE [9] [aU (lt af cj) [aU (ne (ix aH af) Iq) [az eC [bo,pl cj aw],
 az (fW N) [aH,bo],
 aC (fM ag) [9,11,12] [ay (fM ag) [9,11,12]],
 aC dH [9] [ay dH [9]]],
 a8 (ne (ix aH af) Iq) [az cZ [lq (ln1 (aR aH aG af)) aE],
 aP (Eu ag) [aR aH aG af,aj,ar,aq,au] [az cZ [lq (ln1 (aR aH bo cj)) aE],
 aP (Eu ag) [aR aH bo cj,aB,aK,aY,bI] [ay (sR ag) [16,17,18,19],
 aC (vk ag) [16,17,18,19,21] [aU (eq aj fZ) [ay (fM ag) [9,13,21]],
 a8 (eq aj fZ) [az eC [bo,pl cj aw],
 az (fW N) [aH,bo],
 aC (fM ag) [9,22,23] [ay (fM ag) [9,22,23]],
 aC dH [9] [ay dH [9]]]],
 aC (ly ag) [16,17,18,19] [aU (eq aj fZ) [az eC [bo,pl cj aw],
 az (fW N) [aH,bo],
 aC (fM ag) [9,22,23] [ay (fM ag) [9,22,23]],
 aC dH [9] [ay dH [9]]],
 a8 (eq aj fZ) [az eC [bo,pl cj aw],
 az (fW N) [aH,bo],
 aC (fM ag) [9,22,23] [ay (fM ag) [9,22,23]],
 aC dH [9] [ay dH [9]]]]],
 aP lU [aR aH bo cj] [az eC [bo,pl cj aw],
 az (fW N) [aH,bo],
 aC (fM ag) [9,18,19] [ay (fM ag) [9,18,19]],
 aC dH [9] [ay dH [9]]]],
 aP lU [aR aH aG af] [az cZ [lq (ln1 (aR aH bo cj)) aE],
 aP (Eu ag) [aR aH bo cj,ar,aq,au,aT] [ay (sR ag) [12,13,14,15],
 aC (vk ag) [12,13,14,15,17] [az eC [bo,pl cj aw],
 az (fW N) [aH,bo],
 aC (fM ag) [9,18,19] [ay (fM ag) [9,18,19]],
 aC dH [9] [ay dH [9]]],
 aC (ly ag) [12,13,14,15] [az eC [bo,pl cj aw],
 az (fW N) [aH,bo],
 aC (fM ag) [9,18,19] [ay (fM ag) [9,18,19]],
 aC dH [9] [ay dH [9]]]],
 aP lU [aR aH bo cj] [az eC [bo,pl cj aw],
 az (fW N) [aH,bo],
 aC (fM ag) [9,14,15] [ay (fM ag) [9,14,15]],
 aC dH [9] [ay dH [9]]]]]],
 a8 (lt af cj) [ay dH [9]]]]]]]] dw (ba (TB N) (ba Zb (ba a7w dy))) (by
  repeat' first|exact b4|apply du|refine cr ?_ ?_
  all_goals intro E h
  all_goals first|omega|grind (ematch:=4) (splits:=6) [Xt,QA,Qz,Qy,Qx,Xs,Xu,->jA,->Lq,->a2W,E1,->b8]|(obtain⟨_,a,b⟩:=h.2.1;refine h.1 ⟨_,a,?_⟩;grind (ematch:=4) (splits:=6) [Xt,QA,Qz,Qy,Qx,Xs,Xu,->jA,->Lq,->a2W,E1,->b8])
  )
theorem a6T:O abI:=b6 [aU (lq eR aE) [aC iE [8] [az eC [aG,pl eR aw],
 az (fW 5000) [aX,aG],
 aC (fM ag) [8,10,11] [ay (fM ag) [8,10,11]],
 aC dH [8] [ay dH [8]]]]] dw (ba (TB 5000) dy) (by
  repeat' first|exact b4|apply du|refine cr ?_ ?_
  all_goals intro E h
  all_goals first|omega|grind (ematch:=4) (splits:=6) [a41]
  )
theorem T6:O a8J:=b6 [aU (lq eR aE) [aC iE [8] [aU (gt eR Mp) [ay oC [8]],
 a8 (gt eR Mp) [az eC [aG,pl eR aw],
 az (oz 5000) [aX,aG],
 aC nK [8,10,11] [aU (eq (.str [115,112,97,119,110]) af) [az cZ [lq bz aE],
 aC (fM ag) [11,32,33] [ay (oB ag) [8,32,33]],
 aC dH [11] [ay bp [8]]],
 a8 (eq (.str [115,112,97,119,110]) af) [aU (eq (.str [115,116,101,112]) af) [az cZ [lq bz aE],
 aC lW [11,32] [az gW [aX,fZ,oi]],
 aC fg [11] [ay bp [8]]],
 a8 (eq (.str [115,116,101,112]) af) [aU (eq (.str [115,101,110,100]) af) [az cZ [lq bz aE],
 az eC [aG,pl bz aw],
 az (oz 5000) [aj,aG],
 aC nK [11,32,33] [az cZ [lq aaW aE],
 aC lW [32,34] [az cZ [lq a3M aE],
 aC (Eu ag) [33,35,36,37,38] [az (mc ag) [aX,i_3,jo,zd,FU,KV,FT]],
 aC lU [33] [ay bp [8]]],
 aC fg [32] [az cZ [lq a3M aE],
 aC (Eu ag) [33,35,36,37,38] [ay bp [8]],
 aC lU [33] [ay bp [8]]]],
 aC iN [11] [az cZ [lq bz aE],
 aC lW [11,32] [ay bp [8]],
 aC fg [11] [ay bp [8]]]],
 a8 (eq (.str [115,101,110,100]) af) [aU (eq (.str [101,120,105,116]) af) [az cZ [lq bz aE],
 az eC [aG,pl bz aw],
 az (oz 5000) [aj,aG],
 aC nK [11,32,33] [az cZ [lq aaW aE],
 aC lW [32,34] [az cZ [lq a3M aE],
 aC (Eu ag) [33,35,36,37,38] [az (mc ag) [aX,i_4,jo,zd,FU,KV,FT]],
 aC lU [33] [ay bp [8]]],
 aC fg [32] [az cZ [lq a3M aE],
 aC (Eu ag) [33,35,36,37,38] [ay bp [8]],
 aC lU [33] [ay bp [8]]]],
 aC iN [11] [az cZ [lq bz aE],
 aC lW [11,32] [ay bp [8]],
 aC fg [11] [ay bp [8]]]],
 a8 (eq (.str [101,120,105,116]) af) [aU (eq (.str [99,111,108,108,101,99,116]) af) [az cZ [lq bz aE],
 aC lW [11,32] [az gW [aX,Qs,oi]],
 aC fg [11] [ay bp [8]]],
 a8 (eq (.str [99,111,108,108,101,99,116]) af) [aU (eq (.str [112,97,115,115]) af) [az cZ [lq bz aE],
 aC lW [11,32] [az gW [aX,i_6,oi]],
 aC fg [11] [ay bp [8]]],
 a8 (eq (.str [112,97,115,115]) af) [aU (eq (.str [114,111,117,110,100]) af) [az cZ [lq bz aE],
 aC lW [11,32] [az gW [aX,i_7,oi]],
 aC fg [11] [ay bp [8]]],
 a8 (eq (.str [114,111,117,110,100]) af) [aU (eq (.str [114,117,110]) af) [az cZ [lq bz aE],
 aC lW [11,32] [az gW [aX,tV,oi]],
 aC fg [11] [ay bp [8]]],
 a8 (eq (.str [114,117,110]) af) [aU (eq (.str [115,101,116,116,108,101]) af) [az cZ [lq bz aE],
 aC lW [11,32] [az gW [aX,vf,oi]],
 aC fg [11] [ay bp [8]]],
 a8 (eq (.str [115,101,116,116,108,101]) af) [ay me [8]]]]]]]]]]],
 aC iN [8] [aU (eq (.str [115,112,97,119,110]) aX) [ay bp [8]],
 a8 (eq (.str [115,112,97,119,110]) aX) [aU (eq (.str [115,116,101,112]) aX) [ay bp [8]],
 a8 (eq (.str [115,116,101,112]) aX) [aU (eq (.str [115,101,110,100]) aX) [ay bp [8]],
 a8 (eq (.str [115,101,110,100]) aX) [aU (eq (.str [101,120,105,116]) aX) [ay bp [8]],
 a8 (eq (.str [101,120,105,116]) aX) [aU (eq (.str [99,111,108,108,101,99,116]) aX) [ay bp [8]],
 a8 (eq (.str [99,111,108,108,101,99,116]) aX) [aU (eq (.str [112,97,115,115]) aX) [ay bp [8]],
 a8 (eq (.str [112,97,115,115]) aX) [aU (eq (.str [114,111,117,110,100]) aX) [ay bp [8]],
 a8 (eq (.str [114,111,117,110,100]) aX) [aU (eq (.str [114,117,110]) aX) [ay bp [8]],
 a8 (eq (.str [114,117,110]) aX) [aU (eq (.str [115,101,116,116,108,101]) aX) [ay bp [8]],
 a8 (eq (.str [115,101,116,116,108,101]) aX) [ay me [8]]]]]]]]]]]]]]] dw (ba (U2 5000) (ba a6T (ba a7j (ba Zb dy)))) (by
  repeat' first|exact b4|apply du|refine cr ?_ ?_
  all_goals intro E h
  all_goals first|omega|(exact h.1 ⟨XZ,by omega⟩)|(obtain⟨I,Y⟩:=h;revert Y;simp only[bq,bu];intros;have b:=‹Lib.cut (gs E 8) [32]=_›;have e:=bm b;have d:=‹¬(4000:Int)<_›;(first|have a:=‹Lib.cut (gs E 11) [32]=_›;have c:=bm a|skip);exact I (by omega))|(obtain⟨I,Y⟩:=h;revert Y;simp only[bq,bu];intros;have b:=‹Lib.cut (gs E 8) [32]=_›;have e:=bm b;have d:=‹¬(4000:Int)<_›;(first|have a:=‹Lib.cut (gs E 11) [32]=_›;have c:=bm a|skip);exact I ⟨XZ,by omega⟩)|(obtain⟨I,Y⟩:=h;revert Y;simp only[bq,bu];intros;have b:=‹Lib.cut (gs E 8) [32]=_›;have e:=bm b;have d:=‹¬(4000:Int)<_›;(first|have a:=‹Lib.cut (gs E 11) [32]=_›;have c:=bm a|skip);exact I ⟨by decide,by rw[eF (by omega)];omega⟩)|(obtain⟨I,Y⟩:=h;revert Y;simp only[bq,bu];intros;have b:=‹Lib.cut (gs E 8) [32]=_›;have e:=bm b;have d:=‹¬(4000:Int)<_›;(first|have a:=‹Lib.cut (gs E 11) [32]=_›;have c:=bm a|skip);exact I (pb d b (by rw[<-‹_::_=gs E 10›];decide) (.inr (.inl ⟨(by rw[<-‹_::_=gs E 10›];decide),(by assumption)⟩))))|(obtain⟨I,Y⟩:=h;revert Y;simp only[bq,bu];intros;have b:=‹Lib.cut (gs E 8) [32]=_›;have e:=bm b;have d:=‹¬(4000:Int)<_›;(first|have a:=‹Lib.cut (gs E 11) [32]=_›;have c:=bm a|skip);exact I (pb d b (by rw[<-‹_::_=gs E 10›];decide) (.inr (.inr (.inl ⟨(by rw[<-‹_::_=gs E 10›];decide),nt1 a⟩)))))|(obtain⟨I,Y⟩:=h;revert Y;simp only[bq,bu];intros;have b:=‹Lib.cut (gs E 8) [32]=_›;have e:=bm b;have d:=‹¬(4000:Int)<_›;(first|have a:=‹Lib.cut (gs E 11) [32]=_›;have c:=bm a|skip);exact I (pb d b (by rw[<-‹_::_=gs E 10›];decide) (.inr (.inr (.inl ⟨(by rw[<-‹_::_=gs E 10›];decide),nt3 a (by assumption)⟩)))))|(obtain⟨I,Y⟩:=h;revert Y;simp only[bq,bu];intros;have b:=‹Lib.cut (gs E 8) [32]=_›;have e:=bm b;have d:=‹¬(4000:Int)<_›;(first|have a:=‹Lib.cut (gs E 11) [32]=_›;have c:=bm a|skip);exact I (pb d b (by rw[<-‹_::_=gs E 10›];decide) (.inr (.inr (.inl ⟨(by rw[<-‹_::_=gs E 10›];decide),nt2 a (by assumption)⟩)))))|(obtain⟨I,Y⟩:=h;revert Y;simp only[bq,bu];intros;have b:=‹Lib.cut (gs E 8) [32]=_›;have e:=bm b;have d:=‹¬(4000:Int)<_›;(first|have a:=‹Lib.cut (gs E 11) [32]=_›;have c:=bm a|skip);exact I (pb d b (by rw[<-‹_::_=gs E 10›];decide) (.inr (.inr (.inr ⟨(by rw[<-‹_::_=gs E 10›];decide),(by rw[<-‹_::_=gs E 10›];decide),(by rw[<-‹_::_=gs E 10›];decide),(by assumption)⟩)))))|(obtain⟨I,Y⟩:=h;revert Y;simp only[bq,bu];intros;have b:=‹Lib.cut (gs E 8) [32]=_›;have e:=bm b;have d:=‹¬(4000:Int)<_›;(first|have a:=‹Lib.cut (gs E 11) [32]=_›;have c:=bm a|skip);exact I (pn d b (by rw[<-‹_::_=gs E 10›];decide) (by assumption)))|(obtain⟨I,Y⟩:=h;revert Y;simp only[bq,bu];intros;have b:=‹Lib.cut (gs E 8) [32]=_›;have e:=bm b;have d:=‹¬(4000:Int)<_›;(first|have a:=‹Lib.cut (gs E 11) [32]=_›;have c:=bm a|skip);exact I (pt d b (by rw[<-‹_::_=gs E 10›];decide) a (by assumption) ⟨_,by assumption,by assumption⟩))|(obtain⟨I,Y⟩:=h;revert Y;simp only[bq,bu];intros;have b:=‹Lib.cut (gs E 8) [32]=_›;have e:=bm b;have d:=‹¬(4000:Int)<_›;(first|have a:=‹Lib.cut (gs E 11) [32]=_›;have c:=bm a|skip);exact I (ps d b (by rw[<-‹_::_=gs E 10›];decide) ⟨_,by assumption,by assumption⟩))|(obtain⟨I,Y⟩:=h;revert Y;simp only[bq,bu];intros;have b:=‹Lib.cut (gs E 8) [32]=_›;have e:=bm b;have d:=‹¬(4000:Int)<_›;(first|have a:=‹Lib.cut (gs E 11) [32]=_›;have c:=bm a|skip);exact I (lw0 (by simp only[tf,cC,fJ,fm];grind) d b))|(obtain⟨I,Y⟩:=h;revert Y;simp only[bq,bu];intros;have b:=‹Lib.cut (gs E 8) [32]=_›;have e:=bm b;have d:=‹¬(4000:Int)<_›;(first|have a:=‹Lib.cut (gs E 11) [32]=_›;have c:=bm a|skip);exact I (pb d b (by rw[<-‹_::_=gs E 8›];decide) (.inl rfl)))
  )
end Go.Proofs.YtokipodjggomfaaGreatDoor
