/- A part of the proof of ScriptReads: 1Fx. Conditions: those of each theorem. -/
import Derived.Test.YtokipodjggomfaaGreatDoorScr1Lib
set_option linter.unusedVariables false
set_option linter.unusedSimpArgs false
namespace Go.Proofs.YtokipodjggomfaaGreatDoor
open Go.Proofs.YtokipodjggomfaaGreatDoor.Txt Go.Proofs.YtokipodjggomfaaGreatDoor.Abs
noncomputable abbrev kS:TypeId:=9
theorem kHS:kK kS=[.str]:=by kernel_rfl
noncomputable section
inductive OT|l (f:Fact)|n (f:Fact) (c:List OT)|r (f:Fact) (c:List OT)
mutual
noncomputable def rws(a:List Fact):OT->List (List Fact)
 | .l f=>[f::a]
 | .n f c=>rwl (f::a) c
 | .r f c=>(f::a)::rwl (f::a) c
noncomputable def rwl(a:List Fact):List OT->List (List Fact)
 | []=>[]
 |x::l=>rws a x++rwl a l
end
noncomputable def NA(a:List Fact):Prop:=∀E,Qe E a->vN E a->False
noncomputable def un1(a:List Fact)(t:OT):Prop:=∀q∈rws a t,NA q
noncomputable def Ij(a:List Fact)(l:List OT):Prop:=∀q∈rwl a l,NA q
theorem Yi{f:Fact}{a:List Fact}(h:NA (f::a)):un1 a (.l f):=λq b=>by
 rw[rws]at b;obtain rfl:=List.mem_singleton.1 b;exact h
theorem a9S{f:Fact}{a:List Fact}{c:List OT}(h:Ij (f::a) c):un1 a (.n f c):=λq b=>by rw[rws]at b;exact h q b
theorem adC{f:Fact}{a:List Fact}{c:List OT}(h:NA (f::a))(h':Ij (f::a) c):un1 a (.r f c):=λq b=>by
 rw[rws]at b;cases b with
 |head=>exact h
 |tail _ b=>exact h' q b
theorem b4{a:List Fact}:Ij a []:=λq b=>by rw[rwl]at b;cases b
theorem FW{a:List Fact}{x:OT}{l:List OT}(h:un1 a x)(h':Ij a l):Ij a (x::l):=λq b=>by
 rw[rwl]at b;rcases kR.1 b with b|b
 .exact h q b
 .exact h' q b
theorem x2{l:List OT}(h:Ij [] l):qF (rwl [] l):=λq b⟨E,a⟩=>h q b E (Cs a) (Bd a)
noncomputable abbrev O(c:bX):Prop:=fy Tryz.prog c
theorem dy:∀c∈([]:List bX),O c:=λ_ h=>by cases h
theorem ba{c:bX}{l:List bX}(h:O c)(a:∀c∈l,O c):∀x∈c::l,O x:=λx Z=>by
 cases Z with
 |head=>exact h
 |tail _ Z=>exact a x Z
theorem dw:∀c∈([]:List bX),j3 Tryz.prog c:=λ_ h=>by cases h
theorem vo{c:bX}{l:List bX}(h:j3 Tryz.prog c)(a:∀c∈l,j3 Tryz.prog c):∀x∈c::l,j3 Tryz.prog x:=λx Z=>by
 cases Z with
 |head=>exact h
 |tail _ Z=>exact a x Z
theorem b6{K L:List bX}{c:bX}(t:List OT)(a:∀c∈L,j3 Tryz.prog c)(b:∀c∈K,O c)(d:Ij [] t)
  (h:∀tl,R.res (λ_=>true) ((Et (BQ K L) 1000000 (c.fi tl) c.tr c.todo [] .run none c.S2).bind (uY (BQ K L) c))=some (rwl [] t):=by(intro _;kernel_rfl)):O c:=
 Dq (Hf a b) zH c 1000000 h (x2 d)
theorem du{f:Fact}{a:List Fact}{c t:List OT}(h:Ij (f::a) c)(h':Ij a t):Ij a (.n f c::t):=FW (a9S h) h'
noncomputable abbrev gS(p:PD)(l:List Nat):OT:=.l (rP p l)
noncomputable abbrev aC(p:PD)(l:List Nat)(c:List OT):OT:=.n (rP p l) c
noncomputable abbrev ay(p:PD)(l:List Nat):OT:=.l (rM p l)
noncomputable abbrev onM(p:PD)(l:List Nat)(c:List OT):OT:=.n (rM p l) c
noncomputable abbrev mg(p:PD)(l:List SE):OT:=.l (rR p l)
noncomputable abbrev aP(p:PD)(l:List SE)(c:List OT):OT:=.n (rR p l) c
noncomputable abbrev az(p:PD)(l:List SE):OT:=.l (rQ p l)
noncomputable abbrev onQ(p:PD)(l:List SE)(c:List OT):OT:=.n (rQ p l) c
noncomputable abbrev GN(a:SE):OT:=.l (fT a)
noncomputable abbrev aU(a:SE)(c:List OT):OT:=.n (fT a) c
noncomputable abbrev olF(a:SE):OT:=.l (fF a)
noncomputable abbrev a8(a:SE)(c:List OT):OT:=.n (fF a) c
noncomputable abbrev olI(a b:SE):OT:=.l (.inr a b)
noncomputable abbrev bW(a b:SE)(c:List OT):OT:=.n (.inr a b) c
set_option maxHeartbeats 4000000 in
theorem cr{f:Fact}{a:List Fact}{t:List OT}{c:G->Prop}(d:∀E,¬c E)(h':Ij a t)(e:∀E,Qe E (f::a)->vN E (f::a)->c E:=by(intro E;intro h t;simp only[Nr,cY,zr,oA,vj,oF,rL,jB,eu,bU,pB,xQ,za,mz,vy,ux,jG,et,zw,pM,qR,om,mf,ma,l8,ll,s3,lV,iz,dp,gy,ks,jz,h4,l7,k9,vl,zu,oD,vR,lu,ms,Uk,jq,hK,cK,Bh,qW,nI,pQ,iP,qH,ku,ft,pO,iM,CE,CP,pD,oE,eM,h9,xV,nL,qS,pP,jH,Eu,lU,sR,l6,vk,ly,l9,lv,gI,rN,ec,Bg,pL,qQ,pK,km,vQ,ov,nJ,nK,iN,oz,lW,fg,pC,fW,dH,oC,me,bp,gW,fM,oB,mc,j0,nF,nD,nC,sz,sw,fQ,sk,np,nn,jM,nd,y0,nH kHS,x_S,ZI,ZM,IA,Iy,Iz,IC,IB,kP,oO,rP,rM,rR,rQ,fT,fF,fI,v,i6,u8,pl,mi,eq,lq,lt,ne,gq,gt,qu,re,mu,ix,s4,sn,tk,ln1,n4,ns,ld,aR,sB,sA,nz,Ol,Oj,Ok,Ze,Zf,Om,k_i,k_u,k_s,IY,w_i,w_u,w_s,w_c,w_d,v_i,v_s,v_c,v_d,yI,yP,sD,sE,ny,zM,zL,Abs.qx,Aa,zZ,xT,zl,xU,zN,xS,ln0,ln1,ln3,ln5,fG,fp]at t;simp only[iy,cY,zr,oA,vj,oF,rL,jB,eu,bU,pB,xQ,za,mz,vy,ux,jG,et,zw,pM,qR,om,mf,ma,l8,ll,s3,lV,iz,dp,gy,ks,jz,h4,l7,k9,vl,zu,oD,vR,lu,ms,Uk,jq,hK,cK,Bh,qW,nI,pQ,iP,qH,ku,ft,pO,iM,CE,CP,pD,oE,eM,h9,xV,nL,qS,pP,jH,Eu,lU,sR,l6,vk,ly,l9,lv,gI,rN,ec,Bg,pL,qQ,pK,km,vQ,ov,nJ,nK,iN,oz,lW,fg,pC,fW,dH,oC,me,bp,gW,fM,oB,mc,j0,nF,nD,nC,sz,sw,fQ,sk,np,nn,jM,nd,y0,nH kHS,h_S,n_S,a07,a08,IA,Iy,Iz,IC,IB,a1D,a1B,a1C,a1F,a1E,YE,YC,YD,YG,YF,kP,oO,rP,rM,rR,rQ,fT,fF,fI,v,i6,u8,pl,mi,eq,lq,lt,ne,gq,gt,qu,re,mu,ix,s4,sn,tk,ln1,n4,ns,ld,aR,sB,sA,nz,nh,j4,iY,jW,ng,Il,Ik,x6,x7,yM,nc,yO,zE,yc,Io,Im,sC,nk,nb,c0,r0,r5,rT,yC,yJ,yK,na,mZ,yb,rD,yQ,yL,c1,c2,c3,c4,c5,yR,yN,I4,Aa,zZ,IV,IU,IQ,nx,Ip,rG,rF,ya,nA,<-x1,pz,ln0,ln1,ln3,ln5,nl1,nl3,nl4,nl5,c7,cg,fH,mY,oc,oa,ny,jN,nj,zM,zL,sj,si,sh,sf,pk,oN,jk,wX,po,eV,c8,yy,yI,yP,sD,sE,pZ,sH,nr,nu,sq,su,nB,Qk,H7,Abs.I5,Abs.I6,Kh,PB,PF,PC,k_i,k_u,k_s,IY,Abs.I9,Abs.I8,Abs.I7,Abs.sG,Abs.qx,rY,jY,jX,yH,xU,xS,xT,F3,kI,Iu,Is,It,Iv,zN,zl,Co,qK,wx,yg,x5,yd,rE,pF,yf,ye,x4,x9,pE,Abs.yu,Abs.rW,Abs.wb,Abs.yp,Abs.yr,Abs.yt,Abs.yv,Abs.yw,Abs.wa,Abs.yo,Abs.yq,Abs.IM,Abs.IP,Abs.yx,Abs.rX,yE,sd,r9,nq,I0,yD,IZ,fG,fp,pq,kW,cN,t]at h;(iterate 3 try simp(disch:=omega) only[nh,j4,iY,jW,ng,Il,Ik,x6,x7,yM,nc,yO,zE,yc,Io,Im,sC,nk,nb,c0,r0,r5,rT,yC,yJ,yK,na,mZ,yb,rD,yQ,yL,c1,c2,c3,c4,c5,yR,yN,I4,Aa,zZ,IV,IU,IQ,nx,Ip,rG,rF,ya,nA,<-x1,pz,ln0,ln1,ln3,ln5,nl1,nl3,nl4,nl5,c7,cg,fH,mY,oc,oa,jN,nj,zM,zL,sj,si,sh,sf,pk,oN,jk,wX,po,eV,c8,yy,pZ,sH,nr,nu,sq,su,nB,Abs.I5,Abs.I6,Abs.I9,Abs.I8,Abs.I7,Abs.sG,Abs.qx,rY,jY,jX,yH,xU,xS,xT,F3,kI,Iu,Is,It,Iv,zN,zl,Co,qK,wx,yg,x5,yd,rE,pF,yf,ye,x4,x9,pE,Abs.yu,Abs.rW,Abs.wb,Abs.yp,Abs.yr,Abs.yt,Abs.yv,Abs.yw,Abs.wa,Abs.yo,Abs.yq,Abs.IM,Abs.IP,Abs.yx,Abs.rX,yE,sd,r9,nq,I0,yD,IZ,fG,fp,pq,kW,cN,eF,Dx,oK,x8]at h);exact h)):Ij a (.l f::t):=FW (Yi λE a b=>d E (e E a b)) h'
noncomputable abbrev adr:Abs.bX:=Abs.abA Tryz.prog kU kQ
noncomputable abbrev abJ:Abs.bX:=Abs.a8d Tryz.prog kU kQ
noncomputable abbrev abW:Abs.bX:=Abs.a8q Tryz.prog kU kQ
noncomputable abbrev abP:Abs.bX:=Abs.a8k Tryz.prog kU kQ
noncomputable abbrev a8L(N:Nat):Abs.bX:=Abs.Fm Tryz.prog kU kQ (pB N)
noncomputable abbrev abN:Abs.bX:=Abs.a8i Tryz.prog kU kQ
noncomputable abbrev a8R(N:Nat):Abs.bX:=Abs.Fu Tryz.prog kU kQ (qR N)
noncomputable abbrev ab3:Abs.bX:=Abs.a8w Tryz.prog kU kQ
noncomputable abbrev a8U(N:Nat):Abs.bX:=Abs.Fy Tryz.prog kU kQ (ma N)
noncomputable abbrev abL:Abs.bX:=Abs.a8g Tryz.prog kU kQ
noncomputable abbrev a8I(N:Nat):Abs.bX:=Abs.Fk Tryz.prog kU kQ (l7 N)
noncomputable abbrev ab2:Abs.bX:=Abs.a8v Tryz.prog kU kQ
noncomputable abbrev a8T(N:Nat):Abs.bX:=Abs.Fx Tryz.prog kU kQ (ks N)
noncomputable abbrev abU:Abs.bX:=Abs.a8p Tryz.prog kU kQ (CE ag)
noncomputable abbrev a8O(N:Nat):Abs.bX:=Abs.Fq Tryz.prog kU kQ (pD ag N)
noncomputable abbrev abS:Abs.bX:=Abs.a8n Tryz.prog kU kQ
noncomputable abbrev a56(N:Nat):Abs.bX:=Abs.a8x Tryz.prog kU kQ (ms N)
noncomputable abbrev MZ(N:Nat):Abs.bX:=Abs.FA Tryz.prog kU kQ (nI ag N)
noncomputable abbrev a54(N:Nat):Abs.bX:=Abs.a8r Tryz.prog kU kQ (ms N)
noncomputable abbrev MW(N:Nat):Abs.bX:=Abs.Fs Tryz.prog kU kQ (nI ag N)
noncomputable abbrev a55(N:Nat):Abs.bX:=Abs.a8t Tryz.prog kU kQ (ms N)
noncomputable abbrev MX(N:Nat):Abs.bX:=Abs.Fv Tryz.prog kU kQ (nI ag N)
noncomputable abbrev Cn(N:Nat):Abs.bX:=Abs.ML Tryz.prog kU kQ (ms N)
noncomputable abbrev adq:Abs.bX:=Abs.abz Tryz.prog kU kQ
noncomputable abbrev abY:Abs.bX:=Abs.a1g Tryz.prog kU kU.itm kQ (sR ag)
noncomputable abbrev a8Q(N:Nat):Abs.bX:=Abs.Ch Tryz.prog kU kU.itm kQ (l9 ag N)
noncomputable abbrev abR:Abs.bX:=Abs.a8m Tryz.prog kU kQ
noncomputable abbrev a8N(N:Nat):Abs.bX:=Abs.Fp Tryz.prog kU kQ (fW N)
noncomputable abbrev abM:Abs.bX:=Abs.a8h Tryz.prog kU kQ
noncomputable abbrev abH:Abs.bX:=Abs.a8b Tryz.prog kU kQ
noncomputable abbrev ab0:Abs.bX:=Abs.a8u Tryz.prog kU kQ
noncomputable abbrev abG:Abs.bX:=Abs.a8a Tryz.prog kU kQ
noncomputable abbrev abZ:Abs.bX:=Abs.a8s Tryz.prog kU kQ
noncomputable abbrev a8G:Abs.bX:=Abs.a4s Tryz.prog kU kQ (xQ)
noncomputable abbrev a4I(N:Nat):Abs.bX:=Abs.Cd Tryz.prog kU kQ (za N)
noncomputable abbrev a4G(N:Nat):Abs.bX:=Abs.wF Tryz.prog kU kQ true (mz true N)
noncomputable abbrev a4H(N:Nat):Abs.bX:=Abs.wF Tryz.prog kU kQ false (mz false N)
noncomputable abbrev ab1(N:Nat):Abs.bX:=Abs.MR Tryz.prog kU kQ (vy N)
noncomputable abbrev a8F:Abs.bX:=Abs.a4r Tryz.prog kU kQ
noncomputable abbrev a4F(N:Nat):Abs.bX:=Abs.Cc Tryz.prog kU kQ (ma N)
noncomputable abbrev a8K:Abs.bX:=Abs.a4w Tryz.prog kU kQ
noncomputable abbrev a4J(N:Nat):Abs.bX:=Abs.Cf Tryz.prog kU kQ (l8 N)
noncomputable abbrev abF:Abs.bX:=Abs.a79 Tryz.prog kU kQ
noncomputable abbrev a8E:Abs.bX:=Abs.a4q Tryz.prog kU kQ
noncomputable abbrev a4E(N:Nat):Abs.bX:=Abs.Cb Tryz.prog kU kQ (jz N)
noncomputable abbrev a8H(N:Nat):Abs.bX:=Abs.Fj Tryz.prog kU kQ (k9 N)
noncomputable abbrev abV(N:Nat):Abs.bX:=Abs.MQ Tryz.prog kU kQ (eM ag N)
noncomputable abbrev abT:Abs.bX:=Abs.a8o Tryz.prog kU kQ
noncomputable abbrev Vc(N:Nat):Abs.bX:=Abs.MS Tryz.prog kU kQ (Uk N)
noncomputable abbrev MY(N:Nat):Abs.bX:=Abs.Fz Tryz.prog kU kQ (qS ag N)
noncomputable abbrev a1r(N:Nat):Abs.bX:=Abs.a4t Tryz.prog kU kQ (ms N)
noncomputable abbrev FB(N:Nat):Abs.bX:=Abs.Ce Tryz.prog kU kQ (nI ag N)
noncomputable abbrev a1s(N:Nat):Abs.bX:=Abs.a4u Tryz.prog kU kQ (ms N)
noncomputable abbrev Ai(N:Nat):Abs.bX:=Abs.Fi Tryz.prog kU kQ (ms N)
noncomputable abbrev abO:Abs.bX:=Abs.a8j Tryz.prog kU kQ (sR ag)
noncomputable abbrev a1t(N:Nat):Abs.bX:=Abs.MP Tryz.prog kU kQ (l6 ag N)
noncomputable abbrev MV(N M:Nat):Abs.bX:=Abs.Fl Tryz.prog kU kQ (qQ ag N M)
noncomputable abbrev a1p(N:Nat):Abs.bX:=Abs.MK Tryz.prog kU kQ (l6 ag N)
noncomputable abbrev MU(N M:Nat):Abs.bX:=Abs.Fg Tryz.prog kU kQ (ov ag N M)
noncomputable abbrev abK:Abs.bX:=Abs.a8f Tryz.prog kU kQ
noncomputable abbrev abX:Abs.bX:=Abs.a1g Tryz.prog kU kU.itR kQ (sR ag)
noncomputable abbrev a8P(N:Nat):Abs.bX:=Abs.Ch Tryz.prog kU kU.itR kQ (l9 ag N)
noncomputable abbrev a8S(N:Nat):Abs.bX:=Abs.Fw Tryz.prog kU kQ (oz N)
noncomputable abbrev abQ:Abs.bX:=Abs.a8l Tryz.prog kU kQ
noncomputable abbrev a8M(N:Nat):Abs.bX:=Abs.Fo Tryz.prog kU kQ (pC N)
noncomputable abbrev abI:Abs.bX:=Abs.a8c Tryz.prog kU kQ
noncomputable abbrev a8D(N:Nat):Abs.bX:=Abs.Fh Tryz.prog kU kQ (fW N)
noncomputable abbrev a8J:Abs.bX:=Abs.a4v Tryz.prog kU kQ
set_option maxHeartbeats 4000000 in
theorem jE{c:bX}(h:∀E:G,(∀f∈c.facts,f.holds E)->False:=by(intro E a;have h:=Cs a;have t:=Bd a;simp only[Abs.FA,Abs.MS,Abs.Fz,Abs.Fy,Abs.Fx,Abs.Fw,Abs.MR,Abs.Fv,Abs.Fu,Abs.Ch,Abs.Fs,Abs.MQ,Abs.Fq,Abs.Fp,Abs.Fo,Abs.Fm,Abs.Cf,Abs.MP,Abs.Fl,Abs.Fk,Abs.Fj,Abs.Ce,Abs.Cd,Abs.wF,Abs.Cc,Abs.Cb,Abs.Fi,Abs.Fh,Abs.ML,Abs.MK,Abs.Fg,Abs.fx,Abs.entry,Abs.zV,Abs.Dn,Abs.short,Abs.place,Abs.vT,Abs.Hb,Abs.xC,Abs.Pf,Abs.rl,Abs.vs,Abs.most,kg,fH]at h t;simp only[Nr,cY,zr,oA,vj,oF,rL,jB,eu,bU,pB,xQ,za,mz,vy,ux,jG,et,zw,pM,qR,om,mf,ma,l8,ll,s3,lV,iz,dp,gy,ks,jz,h4,l7,k9,vl,zu,oD,vR,lu,ms,Uk,jq,hK,cK,Bh,qW,nI,pQ,iP,qH,ku,ft,pO,iM,CE,CP,pD,oE,eM,h9,xV,nL,qS,pP,jH,Eu,lU,sR,l6,vk,ly,l9,lv,gI,rN,ec,Bg,pL,qQ,pK,km,vQ,ov,nJ,nK,iN,oz,lW,fg,pC,fW,dH,oC,me,bp,gW,fM,oB,mc,j0,nF,nD,nC,sz,sw,fQ,sk,np,nn,jM,nd,y0,nH kHS,x_S,ZI,ZM,IA,Iy,Iz,IC,IB,kP,oO,rP,rM,rR,rQ,fT,fF,fI,v,i6,u8,pl,mi,eq,lq,lt,ne,gq,gt,qu,re,mu,ix,s4,sn,tk,ln1,n4,ns,ld,aR,sB,sA,nz,Ol,Oj,Ok,Ze,Zf,Om,k_i,k_u,k_s,IY,w_i,w_u,w_s,w_c,w_d,v_i,v_s,v_c,v_d,yI,yP,sD,sE,ny,zM,zL,Abs.qx,Aa,zZ,xT,zl,xU,zN,xS,ln0,ln1,ln3,ln5,fG,fp]at t;simp only[iy,cY,zr,oA,vj,oF,rL,jB,eu,bU,pB,xQ,za,mz,vy,ux,jG,et,zw,pM,qR,om,mf,ma,l8,ll,s3,lV,iz,dp,gy,ks,jz,h4,l7,k9,vl,zu,oD,vR,lu,ms,Uk,jq,hK,cK,Bh,qW,nI,pQ,iP,qH,ku,ft,pO,iM,CE,CP,pD,oE,eM,h9,xV,nL,qS,pP,jH,Eu,lU,sR,l6,vk,ly,l9,lv,gI,rN,ec,Bg,pL,qQ,pK,km,vQ,ov,nJ,nK,iN,oz,lW,fg,pC,fW,dH,oC,me,bp,gW,fM,oB,mc,j0,nF,nD,nC,sz,sw,fQ,sk,np,nn,jM,nd,y0,nH kHS,h_S,n_S,a07,a08,IA,Iy,Iz,IC,IB,a1D,a1B,a1C,a1F,a1E,YE,YC,YD,YG,YF,kP,oO,rP,rM,rR,rQ,fT,fF,fI,v,i6,u8,pl,mi,eq,lq,lt,ne,gq,gt,qu,re,mu,ix,s4,sn,tk,ln1,n4,ns,ld,aR,sB,sA,nz,nh,j4,iY,jW,ng,Il,Ik,x6,x7,yM,nc,yO,zE,yc,Io,Im,sC,nk,nb,c0,r0,r5,rT,yC,yJ,yK,na,mZ,yb,rD,yQ,yL,c1,c2,c3,c4,c5,yR,yN,I4,Aa,zZ,IV,IU,IQ,nx,Ip,rG,rF,ya,nA,<-x1,pz,ln0,ln1,ln3,ln5,nl1,nl3,nl4,nl5,c7,cg,fH,mY,oc,oa,ny,jN,nj,zM,zL,sj,si,sh,sf,pk,oN,jk,wX,po,eV,c8,yy,yI,yP,sD,sE,pZ,sH,nr,nu,sq,su,nB,Qk,H7,Abs.I5,Abs.I6,Kh,PB,PF,PC,k_i,k_u,k_s,IY,Abs.I9,Abs.I8,Abs.I7,Abs.sG,Abs.qx,rY,jY,jX,yH,xU,xS,xT,F3,kI,Iu,Is,It,Iv,zN,zl,Co,qK,wx,yg,x5,yd,rE,pF,yf,ye,x4,x9,pE,Abs.yu,Abs.rW,Abs.wb,Abs.yp,Abs.yr,Abs.yt,Abs.yv,Abs.yw,Abs.wa,Abs.yo,Abs.yq,Abs.IM,Abs.IP,Abs.yx,Abs.rX,yE,sd,r9,nq,I0,yD,IZ,fG,fp,pq,kW,cN,t]at h;all_goals(try simp(disch:=omega) only[nh,j4,iY,jW,ng,Il,Ik,x6,x7,yM,nc,yO,zE,yc,Io,Im,sC,nk,nb,c0,r0,r5,rT,yC,yJ,yK,na,mZ,yb,rD,yQ,yL,c1,c2,c3,c4,c5,yR,yN,I4,Aa,zZ,IV,IU,IQ,nx,Ip,rG,rF,ya,nA,<-x1,pz,ln0,ln1,ln3,ln5,nl1,nl3,nl4,nl5,c7,cg,fH,mY,oc,oa,jN,nj,zM,zL,sj,si,sh,sf,pk,oN,jk,wX,po,eV,c8,yy,pZ,sH,nr,nu,sq,su,nB,Abs.I5,Abs.I6,Abs.I9,Abs.I8,Abs.I7,Abs.sG,Abs.qx,rY,jY,jX,yH,xU,xS,xT,F3,kI,Iu,Is,It,Iv,zN,zl,Co,qK,wx,yg,x5,yd,rE,pF,yf,ye,x4,x9,pE,Abs.yu,Abs.rW,Abs.wb,Abs.yp,Abs.yr,Abs.yt,Abs.yv,Abs.yw,Abs.wa,Abs.yo,Abs.yq,Abs.IM,Abs.IP,Abs.yx,Abs.rX,yE,sd,r9,nq,I0,yD,IZ,fG,fp,pq,kW,cN,eF,Dx,oK,x8,qO,wX,exists_false,l5]at h);all_goals first|omega|exact h|(obtain⟨⟨-,e,V⟩,t,b,g,d,i⟩:=h;have q:=zC b;have j:=wk d;rw[eF (by omega)]at V;omega)|grind)):O c:=o9 h
end
end Go.Proofs.YtokipodjggomfaaGreatDoor
