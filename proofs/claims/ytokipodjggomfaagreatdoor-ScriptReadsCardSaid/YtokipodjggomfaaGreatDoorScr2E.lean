/- A part of the proof of ScriptReads: 2E. Conditions: those of each theorem. -/
import Derived.Test.YtokipodjggomfaaGreatDoorScr2Fx
import Derived.Test.YtokipodjggomfaaGreatDoorScr1Chk
set_option linter.unusedVariables false
set_option linter.unusedSimpArgs false
namespace Go.Proofs.YtokipodjggomfaaGreatDoor
open Go.Proofs.YtokipodjggomfaaGreatDoor.Txt
set_option maxRecDepth 100000
set_option maxHeartbeats 4000000
theorem a1l:∀N,O (vh N)
  |0=>Nw (by
   intro E c;have h:=Cs c;have t:=Bd c;simp only[Abs.SI,Abs.MN,Abs.a2A,Abs.SJ,Abs.MO,Abs.SK,Abs.vT,U9,U8,Va,Vb,vh,Abs.FA,Abs.MS,Abs.Fz,Abs.Fy,Abs.Fx,Abs.Fw,Abs.MR,Abs.Fv,Abs.Fu,Abs.Ch,Abs.Fs,Abs.MQ,Abs.Fq,Abs.Fp,Abs.Fo,Abs.Fm,Abs.Cf,Abs.MP,Abs.Fl,Abs.Fk,Abs.Fj,Abs.Ce,Abs.Cd,Abs.wF,Abs.Cc,Abs.Cb,Abs.Fi,Abs.Fh,Abs.ML,Abs.MK,Abs.Fg,Abs.fx,Abs.entry,Abs.zV,Abs.Dn,Abs.short,Abs.place,Abs.vT,Abs.Hb,Abs.xC,Abs.Pf,Abs.rl,Abs.vs,Abs.most,kg,fH]at h t;simp only[Nr,cY,zr,oA,vj,oF,rL,jB,eu,bU,pB,xQ,za,mz,vy,ux,jG,et,zw,pM,qR,om,mf,ma,l8,ll,s3,lV,iz,dp,gy,ks,jz,h4,l7,k9,vl,zu,oD,vR,lu,ms,Uk,jq,hK,cK,Bh,qW,nI,pQ,iP,qH,ku,ft,pO,iM,CE,CP,pD,oE,eM,h9,xV,nL,qS,pP,jH,Eu,lU,sR,l6,vk,ly,l9,lv,gI,rN,ec,Bg,pL,qQ,pK,km,vQ,ov,nJ,nK,iN,oz,lW,fg,pC,fW,dH,xj,xh,xk,xg,fM,xf,xe,xZq,QH,IG,E4,zt,IH,Qq,Qp,Zk,Zl,Zj,Ni,FO,mC,jR,jS,iw,FP,h8,Da,xK,j0,nF,nD,nC,sz,sw,fQ,sk,np,nn,jM,nd,y0,nH kHS,x_S,ZI,ZM,IA,Iy,Iz,IC,IB,kP,oO,rP,rM,rR,rQ,fT,fF,fI,v,i6,u8,pl,mi,eq,lq,lt,ne,gq,gt,qu,re,mu,ix,s4,sn,tk,ln1,n4,ns,n8,BG,ld,aR,sB,sA,nz,Ol,Oj,Ok,Ze,Zf,Om,k_i,k_u,k_s,IY,w_i,w_u,w_s,w_c,w_d,v_i,v_s,v_c,v_d,yI,yP,sD,sE,ny,zM,zL,Abs.qx,Aa,zZ,xT,zl,xU,zN,xS,ln0,ln1,ln3,ln5,fG,fp]at t;simp only[iy,cY,zr,oA,vj,oF,rL,jB,eu,bU,pB,xQ,za,mz,vy,ux,jG,et,zw,pM,qR,om,mf,ma,l8,ll,s3,lV,iz,dp,gy,ks,jz,h4,l7,k9,vl,zu,oD,vR,lu,ms,Uk,jq,hK,cK,Bh,qW,nI,pQ,iP,qH,ku,ft,pO,iM,CE,CP,pD,oE,eM,h9,xV,nL,qS,pP,jH,Eu,lU,sR,l6,vk,ly,l9,lv,gI,rN,ec,Bg,pL,qQ,pK,km,vQ,ov,nJ,nK,iN,oz,lW,fg,pC,fW,dH,xj,xh,xk,xg,fM,xf,xe,xZq,QH,IG,E4,zt,IH,Qq,Qp,Zk,Zl,Zj,Ni,FO,mC,jR,jS,iw,FP,h8,Da,xK,j0,nF,nD,nC,sz,sw,fQ,sk,np,nn,jM,nd,y0,nH kHS,h_S,n_S,a07,a08,IA,Iy,Iz,IC,IB,a1D,a1B,a1C,a1F,a1E,YE,YC,YD,YG,YF,kP,oO,rP,rM,rR,rQ,fT,fF,fI,v,i6,u8,pl,mi,eq,lq,lt,ne,gq,gt,qu,re,mu,ix,s4,sn,tk,ln1,n4,ns,n8,BG,ld,aR,sB,sA,nz,nh,j4,iY,jW,ng,Il,Ik,x6,x7,yM,nc,yO,zE,yc,Io,Im,sC,nk,nb,c0,r0,r5,rT,yC,yJ,yK,na,mZ,yb,rD,yQ,yL,c1,c2,c3,c4,c5,yR,yN,Dj,Di,Wo,I4,Aa,zZ,IV,IU,IQ,nx,Ip,rG,rF,ya,nA,<-x1,pz,ln0,ln1,ln3,ln5,nl1,nl3,nl4,nl5,c7,cg,fH,mY,oc,oa,ny,jN,nj,zM,zL,sj,si,sh,sf,pk,oN,jk,wX,po,eV,c8,yy,yI,yP,sD,sE,pZ,sH,nr,nu,sq,su,nB,Qk,H7,Abs.I5,Abs.I6,Kh,PB,PF,PC,k_i,k_u,k_s,IY,Abs.I9,Abs.I8,Abs.I7,Abs.sG,Abs.qx,rY,jY,jX,yH,xU,xS,xT,F3,kI,Iu,Is,It,Iv,zN,zl,Co,qK,wx,yg,x5,yd,rE,pF,yf,ye,x4,x9,pE,Abs.yu,Abs.rW,Abs.wb,Abs.yp,Abs.yr,Abs.yt,Abs.yv,Abs.yw,Abs.wa,Abs.yo,Abs.yq,Abs.IM,Abs.IP,Abs.yx,Abs.rX,yE,sd,r9,nq,I0,yD,IZ,fG,fp,pq,kW,cN,t]at h;all_goals(try simp(disch:=omega) only[nh,j4,iY,jW,ng,Il,Ik,x6,x7,yM,nc,yO,zE,yc,Io,Im,sC,nk,nb,c0,r0,r5,rT,yC,yJ,yK,na,mZ,yb,rD,yQ,yL,c1,c2,c3,c4,c5,yR,yN,Dj,Di,Wo,I4,Aa,zZ,IV,IU,IQ,nx,Ip,rG,rF,ya,nA,<-x1,pz,ln0,ln1,ln3,ln5,nl1,nl3,nl4,nl5,c7,cg,fH,mY,oc,oa,jN,nj,zM,zL,sj,si,sh,sf,pk,oN,jk,wX,po,eV,c8,yy,pZ,sH,nr,nu,sq,su,nB,Abs.I5,Abs.I6,Abs.I9,Abs.I8,Abs.I7,Abs.sG,Abs.qx,rY,jY,jX,yH,xU,xS,xT,F3,kI,Iu,Is,It,Iv,zN,zl,Co,qK,wx,yg,x5,yd,rE,pF,yf,ye,x4,x9,pE,Abs.yu,Abs.rW,Abs.wb,Abs.yp,Abs.yr,Abs.yt,Abs.yv,Abs.yw,Abs.wa,Abs.yo,Abs.yq,Abs.IM,Abs.IP,Abs.yx,Abs.rX,yE,sd,r9,nq,I0,yD,IZ,fG,fp,pq,kW,cN,eF,Dx,oK,x8,qO,wX,exists_false,l5]at h)
   obtain⟨⟨-,w,i⟩, -,x,y,g,j, -⟩:=h;have z:=(jQ j).2;rw[eF (by omega)]at i;omega)
  |N+1=>b6 [aC (FP ag dP (N+1)) [8,9,10] [aU (eq eR cj) [bW af (pl eR aw) [aC fE [10] [aC (Abs.CU (.sl dP)) [9] [aC (Abs.CU (.sl dP)) [8] [aU (lt af eR) [aU (eq (ld 0 aX af) (ld 0 aH af)) [aU (eq (ld 1 aX af) (ld 1 aH af)) [aU (eq (ld 2 aX af) (ld 2 aH af)) [aU (eq (ld 3 aX af) (ld 3 aH af)) [aU (eq (ld 4 aX af) (ld 4 aH af)) [aU (eq (ld 5 aX af) (ld 5 aH af)) [az (Abs.E7 kK ag 1073741824) [ld 6 aX af,ld 6 aH af],
 az (Abs.E7 kK ag 1073741824) [ld 7 aX af,ld 7 aH af],
 az eC [bo,pl eR aw],
 az (FP ag dP N) [aX,aH,bo],
 aC h8 [8] [ay h8 [8]]],
 a8 (eq (ld 5 aX af) (ld 5 aH af)) [ay h8 [8]]],
 a8 (eq (ld 4 aX af) (ld 4 aH af)) [ay h8 [8]]],
 a8 (eq (ld 3 aX af) (ld 3 aH af)) [ay h8 [8]]],
 a8 (eq (ld 2 aX af) (ld 2 aH af)) [ay h8 [8]]],
 a8 (eq (ld 1 aX af) (ld 1 aH af)) [ay h8 [8]]],
 a8 (eq (ld 0 aX af) (ld 0 aH af)) [ay h8 [8]]]]]]]]]] dw (ba (a1l N) (ba (TH 1073741824 (bD _)) dy)) (by
  repeat' first|exact b4|apply a9R|apply du|refine CG ?_ ?_
  all_goals intro E h
  all_goals first|(revert h;simp only[bq,bu];intros;first
   |contradiction
   |(have b:=‹jF _ _ _ (gd E 8)›;have e:=‹jF _ _ _ (gd E 9)›;obtain⟨k,n,k',n',s,F,d,d',f,A,a0,a1,a2,a3,a4,a5,a6,a7,b0,l,m,o,p,q,r,u,c1,c2⟩:=abC kN b e (by omega) (by omega)
     simp only[a0,a1,a2,a3,a4,a5,a6,a7,b0,l,m,o,p,q,r,u,bn,Abs.wb,Abs.wa,decide_true,aD,Abs.Dt.val.injEq,mU,reduceCtorEq,kW]at *
     first|done|(have a:=‹¬(tD _/\tD _/\alA _ _ _ _ _)›;first|exact a ⟨kI.mpr trivial,kI.mpr trivial,c1⟩|exact a ⟨kI.mpr trivial,kI.mpr trivial,c2⟩)|(have a:=‹¬(_-_<_/\_)›;exact a ⟨by omega,by omega,_,b,e⟩)|(have a:=‹¬(iV _/\_)›;exact a ⟨(jQ b).1,by omega,by omega⟩)|omega|contradiction))
  )
end Go.Proofs.YtokipodjggomfaaGreatDoor
