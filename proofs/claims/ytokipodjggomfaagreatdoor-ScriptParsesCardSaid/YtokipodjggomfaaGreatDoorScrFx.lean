/- A part of the proof of ScriptParses: Fx. Conditions: those of each theorem. -/
import Derived.Test.YtokipodjggomfaaGreatDoorScrLib
set_option linter.unusedVariables false
set_option linter.unusedSimpArgs false
set_option linter.unusedSimpArgs false
set_option linter.unusedVariables false
namespace Go.Proofs.YtokipodjggomfaaGreatDoor
open Go Go.Proofs.YtokipodjggomfaaGreatDoor.Txt Go.Proofs.YtokipodjggomfaaGreatDoor.Abs
noncomputable abbrev kS:TypeId:=9
theorem kHS:kK kS=[.str]:=by kernel_rfl
noncomputable section
noncomputable abbrev rP(nm:String)(p:PD)(l:List Nat):Fact:=.rel nm false p (l.map .var)
noncomputable abbrev rM(nm:String)(p:PD)(l:List Nat):Fact:=.rel nm true p (l.map .var)
noncomputable abbrev rR(nm:String)(p:PD)(l:List SE):Fact:=.rel nm false p l
noncomputable abbrev rQ(nm:String)(p:PD)(l:List SE):Fact:=.rel nm true p l
noncomputable abbrev fT:SE->Fact:=.tr
noncomputable abbrev fF:SE->Fact:=.fl
noncomputable abbrev fI:SE->SE->Fact:=.inr
noncomputable abbrev v(n:Nat):SE:=.var n
noncomputable abbrev i6(n:Int):SE:=.int .i64 n
noncomputable abbrev u8(n:Int):SE:=.int .u8 n
noncomputable abbrev pl(a b:SE):SE:=.a2 (.bin .add) a b
noncomputable abbrev mi(a b:SE):SE:=.a2 (.bin .sub) a b
noncomputable abbrev eq(a b:SE):SE:=.a2 (.bin .eql) a b
noncomputable abbrev lq(a b:SE):SE:=.a2 (.bin .leq) a b
noncomputable abbrev lt(a b:SE):SE:=.a2 (.bin .lss) a b
noncomputable abbrev ne(a b:SE):SE:=.a2 (.bin .neq) a b
noncomputable abbrev gq(a b:SE):SE:=.a2 (.bin .geq) a b
noncomputable abbrev gt(a b:SE):SE:=.a2 (.bin .gtr) a b
noncomputable abbrev qu(a b:SE):SE:=.a2 (.bin .quo) a b
noncomputable abbrev re(a b:SE):SE:=.a2 (.bin .rem) a b
noncomputable abbrev mu(a b:SE):SE:=.a2 (.bin .mul) a b
noncomputable abbrev ix(a b:SE):SE:=.a2 .idx a b
noncomputable abbrev sn(a b:SE):SE:=.a2 .sn a b
noncomputable abbrev s4(x a b c d:SE):SE:=.a2 .sn (.a2 .sn (.a2 .sn (.a2 .sn x a) b) c) d
noncomputable abbrev tk(n:Nat)(a b:SE):SE:=.a2 (.tk n) a b
noncomputable abbrev ln1(a:SE):SE:=.a1 .len a
noncomputable abbrev n4:SE:=.a1 (.nl [.int .i64,.int .i64,.str,.sl ah]) (.bool true)
noncomputable abbrev ns:SE:=.a1 (.ns ah 4) (.bool true)
noncomputable abbrev ld(j:Nat)(a b:SE):SE:=.a1 (.ld j) (.a2 .el a b)
noncomputable abbrev a6(a b c:SE):SE:=.a3 .sub a b c
inductive OT|l (f:Fact)|n (f:Fact) (c:List OT)|r (f:Fact) (c:List OT)
mutual
noncomputable def rws(a:List Fact):OT->List (List Fact)
 | .l f=>[f::a]
 | .n f c=>Yn (f::a) c
 | .r f c=>(f::a)::Yn (f::a) c
noncomputable def Yn(a:List Fact):List OT->List (List Fact)
 | []=>[]
 |x::l=>rws a x++Yn a l
end
noncomputable def NA(a:List Fact):Prop:=∀E,Nw E a->sM E a->False
noncomputable def un1(a:List Fact)(t:OT):Prop:=∀q∈rws a t,NA q
noncomputable def eW(a:List Fact)(l:List OT):Prop:=∀q∈Yn a l,NA q
theorem cJ{f:Fact}{a:List Fact}(h:NA (f::a)):un1 a (.l f):=λq b=>by
 rw[rws]at b;obtain rfl:=zT.1 b;exact h
theorem cI{f:Fact}{a:List Fact}{c:List OT}(h:eW (f::a) c):un1 a (.n f c):=λq b=>by rw[rws]at b;exact h q b
theorem cH{f:Fact}{a:List Fact}{c:List OT}(h:NA (f::a))(d:eW (f::a) c):un1 a (.r f c):=λq b=>by
 rw[rws]at b;cases b with
 |head=>exact h
 |tail _ b=>exact d q b
theorem bB{a:List Fact}:eW a []:=λq b=>by rw[Yn]at b;cases b
theorem bC{a:List Fact}{x:OT}{l:List OT}(h:un1 a x)(c:eW a l):eW a (x::l):=λq b=>by
 rw[Yn]at b;rcases iR.1 b with b|b
 .exact h q b
 .exact c q b
theorem sU{l:List OT}(h:eW [] l):mr (Yn [] l):=λq b⟨E,a⟩=>h q b E (Ih a) (Ga a)
noncomputable abbrev O(c:bp):Prop:=eb Tryz.prog c
theorem cR:∀c∈([]:List bp),O c:=λ_ h=>by cases h
theorem aM{c:bp}{l:List bp}(h:O c)(a:∀c∈l,O c):∀x∈c::l,O x:=λx Y=>by
 cases Y with
 |head=>exact h
 |tail _ Y=>exact a x Y
theorem cQ:∀c∈([]:List bp),ju Tryz.prog c:=λ_ h=>by cases h
theorem u7{c:bp}{l:List bp}(h:ju Tryz.prog c)(a:∀c∈l,ju Tryz.prog c):∀x∈c::l,ju Tryz.prog x:=λx Y=>by
 cases Y with
 |head=>exact h
 |tail _ Y=>exact a x Y
theorem bE{K L:List bp}{c:bp}(t:List OT)(a:∀c∈L,ju Tryz.prog c)(b:∀c∈K,O c)
  (h:∀tl,R.res (λ_=>true) ((zu (wY K L) 1000000 (c.fi tl) c.tr c.todo [] .run none c.S2).bind (pG (wY K L) c))=some (Yn [] t)) (d:eW [] t):O c:=
 yu (Cp a b) uD c 1000000 h (sU d)
set_option maxHeartbeats 4000000 in
theorem aB{l:List Fact}{c:G->Prop}(d:∀E,¬c E)(e:∀E,Nw E l->sM E l->c E:=by(intro E;intro h t;simp only[a07,cj,Gn,sZ,zw,s6,uq,kM,dE,bu,vA,Du,Fz,nd,A7,xX,jM,dL,Gr,wc,yB,oW,pY,pX,pV,lI,BH,kE,kF,cW,gl,mE,kL,hO,pU,nI,zy,Gq,s3,BJ,nT,ms,msE,ir,hE,b8,Jt,yJ,nH,wi,lM,sN,mJ,ga,wg,lK,Lr,L3,vC,s5,ef,hU,DB,qJ,yC,wh,nj,Gp,mw,vz,pR,zx,nV,pW,nU,jd,ur,dy,Js,wb,yA,wa,oV,BI,sS,qH,qI,lL,sT,mx,eY,vB,gh,df,nS,lJ,aR,gj,eZ,mK,kN,xA,AR,AN,AM,HE,HC,gF,Ht,Ax,Aw,vQ,Af,QS,AW kHS,x_S,a5Q,a5R,Yg,Ye,Yf,Yi,Yh,mD,List.map_nil,rP,rM,rR,rQ,fT,fF,fI,v,i6,u8,pl,mi,eq,lq,lt,ne,gq,gt,qu,re,mu,ix,s4,sn,tk,ln1,n4,ns,ld,a6,HJ,HI,AG,a1h,a1f,a1g,a5I,a5J,a1i,k_i,k_u,k_s,Zq,w_i,w_u,w_s,w_c,w_d,v_i,v_s,v_c,v_d,PW,P3,HL,HM,AF,Si,Sg,Abs.EW,SA,Sz,LA,Ri,LB,Sj,Lz,ln0,ln1,ln3,ln5,gP,fw]at t;simp only[gm,cj,Gn,sZ,zw,s6,uq,kM,dE,bu,vA,Du,Fz,nd,A7,xX,jM,dL,Gr,wc,yB,oW,pY,pX,pV,lI,BH,kE,kF,cW,gl,mE,kL,hO,pU,nI,zy,Gq,s3,BJ,nT,ms,msE,ir,hE,b8,Jt,yJ,nH,wi,lM,sN,mJ,ga,wg,lK,Lr,L3,vC,s5,ef,hU,DB,qJ,yC,wh,nj,Gp,mw,vz,pR,zx,nV,pW,nU,jd,ur,dy,Js,wb,yA,wa,oV,BI,sS,qH,qI,lL,sT,mx,eY,vB,gh,df,nS,lJ,aR,gj,eZ,mK,kN,xA,AR,AN,AM,HE,HC,gF,Ht,Ax,Aw,vQ,Af,QS,AW kHS,h_S,n_S,a6x,a6y,Yg,Ye,Yf,Yi,Yh,a7a,a68,a69,a7c,a7b,a5n,a5l,a5m,a5p,a5o,mD,List.map_nil,rP,rM,rR,rQ,fT,fF,fI,v,i6,u8,pl,mi,eq,lq,lt,ne,gq,gt,qu,re,mu,ix,s4,sn,tk,ln1,n4,ns,ld,a6,HJ,HI,AG,Aj,rX,rj,xa,Ai,XW,XV,N7,N8,P0,Ae,P2,Kf,Oc,XY,XX,HK,As,Ad,c0,Hb,Hc,GI,PB,PX,PY,Ac,Ab,Ob,zS,P4,PZ,c1,c2,c3,c4,c5,P5,P1,ZL,SA,Sz,Zc,Zb,Y6,AB,XZ,FJ,FH,Oa,AI,<-NW,vw,ln0,ln1,ln3,ln5,nl1,nl3,nl4,nl5,dv,bL,ij,zN,rO,rN,AF,vT,Ak,Si,Sg,Hs,Hr,Hq,Hp,vo,Nat.min_self,false_and,and_false,vt,eT,cG,Pf,PW,P3,HL,HM,B1,HU,Az,AA,Hu,Hz,AJ,a1M,Xm,Abs.Z3,Abs.Z4,Wb,a1v,a1x,a1w,k_i,k_u,k_s,Zq,Abs.Z7,Abs.Z6,Abs.Z5,Abs.HT,Abs.EW,GY,xe,xc,PN,LB,Lz,LA,T7,qc,X5,X3,X4,X6,Sj,Ri,KS,sP,Ko,Og,N6,Od,FG,Bc,Of,Oe,N5,N9,Ba,Abs.O4,Abs.GV,Abs.O7,Abs.O0,Abs.O2,Abs.O3,Abs.O5,Abs.O6,Abs.OZ,Abs.OY,Abs.O1,Abs.Y3,Abs.Y4,Abs.O8,Abs.GX,PG,Ho,Hn,Ay,Zu,PF,Zt,gP,fw,vv,tV,cq,t]at h;(iterate 3 try simp(disch:=omega) only[Aj,rX,rj,xa,Ai,XW,XV,N7,N8,P0,Ae,P2,Kf,Oc,XY,XX,HK,As,Ad,c0,Hb,Hc,GI,PB,PX,PY,Ac,Ab,Ob,zS,P4,PZ,c1,c2,c3,c4,c5,P5,P1,ZL,SA,Sz,Zc,Zb,Y6,AB,XZ,FJ,FH,Oa,AI,<-NW,vw,ln0,ln1,ln3,ln5,nl1,nl3,nl4,nl5,dv,bL,ij,zN,rO,rN,vT,Ak,Si,Sg,Hs,Hr,Hq,Hp,vo,Nat.min_self,false_and,and_false,vt,eT,cG,Pf,B1,HU,Az,AA,Hu,Hz,AJ,Abs.Z3,Abs.Z4,Abs.Z7,Abs.Z6,Abs.Z5,Abs.HT,Abs.EW,GY,xe,xc,PN,LB,Lz,LA,T7,qc,X5,X3,X4,X6,Sj,Ri,KS,sP,Ko,Og,N6,Od,FG,Bc,Of,Oe,N5,N9,Ba,Abs.O4,Abs.GV,Abs.O7,Abs.O0,Abs.O2,Abs.O3,Abs.O5,Abs.O6,Abs.OZ,Abs.OY,Abs.O1,Abs.Y3,Abs.Y4,Abs.O8,Abs.GX,PG,Ho,Hn,Ay,Zu,PF,Zt,gP,fw,vv,tV,cq,eg,Iz,od,Bb]at h);exact h)):NA l:=λE a b=>d E (e E a b)
noncomputable abbrev a8q:Abs.bp:=Abs.a6B Tryz.prog kU kQ
noncomputable abbrev a6J:Abs.bp:=Abs.a3L Tryz.prog kU kQ
noncomputable abbrev a6W:Abs.bp:=Abs.a3X Tryz.prog kU kQ
noncomputable abbrev a6P:Abs.bp:=Abs.a3R Tryz.prog kU kQ
noncomputable abbrev a4k(N:Nat):Abs.bp:=Abs.Qu Tryz.prog kU kQ (vA N)
noncomputable abbrev a6N:Abs.bp:=Abs.a3P Tryz.prog kU kQ
noncomputable abbrev a4q(N:Nat):Abs.bp:=Abs.Qz Tryz.prog kU kQ (yB N)
noncomputable abbrev a63:Abs.bp:=Abs.a34 Tryz.prog kU kQ
noncomputable abbrev a4t(N:Nat):Abs.bp:=Abs.QE Tryz.prog kU kQ (pX N)
noncomputable abbrev a6L:Abs.bp:=Abs.a3O Tryz.prog kU kQ
noncomputable abbrev a4h(N:Nat):Abs.bp:=Abs.Qr Tryz.prog kU kQ (pU N)
noncomputable abbrev a62:Abs.bp:=Abs.a33 Tryz.prog kU kQ
noncomputable abbrev a4s(N:Nat):Abs.bp:=Abs.QC Tryz.prog kU kQ (mE N)
noncomputable abbrev a6U:Abs.bp:=Abs.a3W Tryz.prog kU kQ (Lr ah)
noncomputable abbrev a4n(N:Nat):Abs.bp:=Abs.Qx Tryz.prog kU kQ (vC ah N)
noncomputable abbrev a6S:Abs.bp:=Abs.a3U Tryz.prog kU kQ
noncomputable abbrev a1H(N:Nat):Abs.bp:=Abs.a35 Tryz.prog kU kQ (ms N)
noncomputable abbrev H7(N:Nat):Abs.bp:=Abs.QG Tryz.prog kU kQ (nH ah N)
noncomputable abbrev a1F(N:Nat):Abs.bp:=Abs.a3Y Tryz.prog kU kQ (ms N)
noncomputable abbrev H4(N:Nat):Abs.bp:=Abs.Qy Tryz.prog kU kQ (nH ah N)
noncomputable abbrev a1G(N:Nat):Abs.bp:=Abs.a30 Tryz.prog kU kQ (ms N)
noncomputable abbrev H5(N:Nat):Abs.bp:=Abs.QA Tryz.prog kU kQ (nH ah N)
noncomputable abbrev xz(N:Nat):Abs.bp:=Abs.WD Tryz.prog kU kQ (ms N)
noncomputable abbrev a8p:Abs.bp:=Abs.a6A Tryz.prog kU kQ
noncomputable abbrev a6Y:Abs.bp:=Abs.WK Tryz.prog kU kU.itm kQ (vz ah)
noncomputable abbrev a4p(N:Nat):Abs.bp:=Abs.HZ Tryz.prog kU kU.itm kQ (pW ah N)
noncomputable abbrev a6R:Abs.bp:=Abs.a3T Tryz.prog kU kQ
noncomputable abbrev a4m(N:Nat):Abs.bp:=Abs.Qw Tryz.prog kU kQ (gh N)
noncomputable abbrev a6M:Abs.bp:=Abs.WG Tryz.prog kU kQ
noncomputable abbrev a6H:Abs.bp:=Abs.a3J Tryz.prog kU kQ
noncomputable abbrev a60:Abs.bp:=Abs.a32 Tryz.prog kU kQ
noncomputable abbrev a6G:Abs.bp:=Abs.a3I Tryz.prog kU kQ
noncomputable abbrev a6Z:Abs.bp:=Abs.a3Z Tryz.prog kU kQ
noncomputable abbrev a4f:Abs.bp:=Abs.a0a Tryz.prog kU kQ (Du)
noncomputable abbrev a0p(N:Nat):Abs.bp:=Abs.KJ Tryz.prog kU kQ (Fz N)
noncomputable abbrev a0n(N:Nat):Abs.bp:=Abs.C1 Tryz.prog kU kQ true (nd true N)
noncomputable abbrev a0o(N:Nat):Abs.bp:=Abs.C1 Tryz.prog kU kQ false (nd false N)
noncomputable abbrev a61(N:Nat):Abs.bp:=Abs.WM Tryz.prog kU kQ (A7 N)
noncomputable abbrev a4e:Abs.bp:=Abs.Z9 Tryz.prog kU kQ
noncomputable abbrev a0m(N:Nat):Abs.bp:=Abs.KI Tryz.prog kU kQ (pX N)
noncomputable abbrev a4j:Abs.bp:=Abs.a0d Tryz.prog kU kQ
noncomputable abbrev a0q(N:Nat):Abs.bp:=Abs.KL Tryz.prog kU kQ (pV N)
noncomputable abbrev a6F:Abs.bp:=Abs.a3H Tryz.prog kU kQ
noncomputable abbrev a4d:Abs.bp:=Abs.Z8 Tryz.prog kU kQ
noncomputable abbrev a0l(N:Nat):Abs.bp:=Abs.KH Tryz.prog kU kQ (kL N)
noncomputable abbrev a4g(N:Nat):Abs.bp:=Abs.Qq Tryz.prog kU kQ (nI N)
noncomputable abbrev a6V(N:Nat):Abs.bp:=Abs.WJ Tryz.prog kU kQ (ef ah N)
noncomputable abbrev a6T:Abs.bp:=Abs.a3V Tryz.prog kU kQ
noncomputable abbrev QJ(N:Nat):Abs.bp:=Abs.WQ Tryz.prog kU kQ (msE N)
noncomputable abbrev H6(N:Nat):Abs.bp:=Abs.QF Tryz.prog kU kQ (yC ah N)
noncomputable abbrev WZ(N:Nat):Abs.bp:=Abs.a0b Tryz.prog kU kQ (ms N)
noncomputable abbrev AP(N:Nat):Abs.bp:=Abs.KK Tryz.prog kU kQ (nH ah N)
noncomputable abbrev W0(N:Nat):Abs.bp:=Abs.a0c Tryz.prog kU kQ (ms N)
noncomputable abbrev uY(N:Nat):Abs.bp:=Abs.Qp Tryz.prog kU kQ (ms N)
noncomputable abbrev a6O:Abs.bp:=Abs.a3Q Tryz.prog kU kQ (vz ah)
noncomputable abbrev W1(N:Nat):Abs.bp:=Abs.WE Tryz.prog kU kQ (pR ah N)
noncomputable abbrev H3(N M:Nat):Abs.bp:=Abs.Qs Tryz.prog kU kQ (yA ah N M)
noncomputable abbrev WX(N:Nat):Abs.bp:=Abs.WC Tryz.prog kU kQ (pR ah N)
noncomputable abbrev H2(N M:Nat):Abs.bp:=Abs.Qm Tryz.prog kU kQ (sS ah N M)
noncomputable abbrev a6K:Abs.bp:=Abs.a3N Tryz.prog kU kQ
noncomputable abbrev a6X:Abs.bp:=Abs.WK Tryz.prog kU kU.itR kQ (vz ah)
noncomputable abbrev a4o(N:Nat):Abs.bp:=Abs.HZ Tryz.prog kU kU.itR kQ (pW ah N)
noncomputable abbrev a4r(N:Nat):Abs.bp:=Abs.QB Tryz.prog kU kQ (sT N)
noncomputable abbrev a6Q:Abs.bp:=Abs.a3S Tryz.prog kU kQ
noncomputable abbrev a4l(N:Nat):Abs.bp:=Abs.Qv Tryz.prog kU kQ (vB N)
noncomputable abbrev a6I:Abs.bp:=Abs.a3K Tryz.prog kU kQ
noncomputable abbrev a4c(N:Nat):Abs.bp:=Abs.Qn Tryz.prog kU kQ (gh N)
noncomputable abbrev a4i:Abs.bp:=Abs.Qt Tryz.prog kU kQ
set_option maxHeartbeats 4000000 in
theorem hD{c:bp}(h:∀E:G,(∀f∈c.facts,f.holds E)->False:=by(intro E a;have h:=Ih a;have t:=Ga a;simp only[Abs.QG,Abs.WQ,Abs.QF,Abs.QE,Abs.QC,Abs.QB,Abs.WM,Abs.QA,Abs.Qz,Abs.HZ,Abs.Qy,Abs.WJ,Abs.Qx,Abs.Qw,Abs.Qv,Abs.Qu,Abs.KL,Abs.WE,Abs.Qs,Abs.Qr,Abs.Qq,Abs.KK,Abs.KJ,Abs.C1,Abs.KI,Abs.KH,Abs.Qp,Abs.Qn,Abs.WD,Abs.WC,Abs.Qm,Abs.fm,Abs.entry,Abs.CP,Abs.HP,Abs.short,Abs.place,Abs.UY,Abs.Ha,Abs.Av,Abs.VE,Abs.rl,Abs.vs,Abs.most,jG,ij]at h t;simp only[a07,cj,Gn,sZ,zw,s6,uq,kM,dE,bu,vA,Du,Fz,nd,A7,xX,jM,dL,Gr,wc,yB,oW,pY,pX,pV,lI,BH,kE,kF,cW,gl,mE,kL,hO,pU,nI,zy,Gq,s3,BJ,nT,ms,msE,ir,hE,b8,Jt,yJ,nH,wi,lM,sN,mJ,ga,wg,lK,Lr,L3,vC,s5,ef,hU,DB,qJ,yC,wh,nj,Gp,mw,vz,pR,zx,nV,pW,nU,jd,ur,dy,Js,wb,yA,wa,oV,BI,sS,qH,qI,lL,sT,mx,eY,vB,gh,df,nS,lJ,aR,gj,eZ,mK,kN,xA,AR,AN,AM,HE,HC,gF,Ht,Ax,Aw,vQ,Af,QS,AW kHS,x_S,a5Q,a5R,Yg,Ye,Yf,Yi,Yh,mD,List.map_nil,rP,rM,rR,rQ,fT,fF,fI,v,i6,u8,pl,mi,eq,lq,lt,ne,gq,gt,qu,re,mu,ix,s4,sn,tk,ln1,n4,ns,ld,a6,HJ,HI,AG,a1h,a1f,a1g,a5I,a5J,a1i,k_i,k_u,k_s,Zq,w_i,w_u,w_s,w_c,w_d,v_i,v_s,v_c,v_d,PW,P3,HL,HM,AF,Si,Sg,Abs.EW,SA,Sz,LA,Ri,LB,Sj,Lz,ln0,ln1,ln3,ln5,gP,fw]at t;simp only[gm,cj,Gn,sZ,zw,s6,uq,kM,dE,bu,vA,Du,Fz,nd,A7,xX,jM,dL,Gr,wc,yB,oW,pY,pX,pV,lI,BH,kE,kF,cW,gl,mE,kL,hO,pU,nI,zy,Gq,s3,BJ,nT,ms,msE,ir,hE,b8,Jt,yJ,nH,wi,lM,sN,mJ,ga,wg,lK,Lr,L3,vC,s5,ef,hU,DB,qJ,yC,wh,nj,Gp,mw,vz,pR,zx,nV,pW,nU,jd,ur,dy,Js,wb,yA,wa,oV,BI,sS,qH,qI,lL,sT,mx,eY,vB,gh,df,nS,lJ,aR,gj,eZ,mK,kN,xA,AR,AN,AM,HE,HC,gF,Ht,Ax,Aw,vQ,Af,QS,AW kHS,h_S,n_S,a6x,a6y,Yg,Ye,Yf,Yi,Yh,a7a,a68,a69,a7c,a7b,a5n,a5l,a5m,a5p,a5o,mD,List.map_nil,rP,rM,rR,rQ,fT,fF,fI,v,i6,u8,pl,mi,eq,lq,lt,ne,gq,gt,qu,re,mu,ix,s4,sn,tk,ln1,n4,ns,ld,a6,HJ,HI,AG,Aj,rX,rj,xa,Ai,XW,XV,N7,N8,P0,Ae,P2,Kf,Oc,XY,XX,HK,As,Ad,c0,Hb,Hc,GI,PB,PX,PY,Ac,Ab,Ob,zS,P4,PZ,c1,c2,c3,c4,c5,P5,P1,ZL,SA,Sz,Zc,Zb,Y6,AB,XZ,FJ,FH,Oa,AI,<-NW,vw,ln0,ln1,ln3,ln5,nl1,nl3,nl4,nl5,dv,bL,ij,zN,rO,rN,AF,vT,Ak,Si,Sg,Hs,Hr,Hq,Hp,vo,Nat.min_self,false_and,and_false,vt,eT,cG,Pf,PW,P3,HL,HM,B1,HU,Az,AA,Hu,Hz,AJ,a1M,Xm,Abs.Z3,Abs.Z4,Wb,a1v,a1x,a1w,k_i,k_u,k_s,Zq,Abs.Z7,Abs.Z6,Abs.Z5,Abs.HT,Abs.EW,GY,xe,xc,PN,LB,Lz,LA,T7,qc,X5,X3,X4,X6,Sj,Ri,KS,sP,Ko,Og,N6,Od,FG,Bc,Of,Oe,N5,N9,Ba,Abs.O4,Abs.GV,Abs.O7,Abs.O0,Abs.O2,Abs.O3,Abs.O5,Abs.O6,Abs.OZ,Abs.OY,Abs.O1,Abs.Y3,Abs.Y4,Abs.O8,Abs.GX,PG,Ho,Hn,Ay,Zu,PF,Zt,gP,fw,vv,tV,cq,t]at h;all_goals(try simp(disch:=omega) only[Aj,rX,rj,xa,Ai,XW,XV,N7,N8,P0,Ae,P2,Kf,Oc,XY,XX,HK,As,Ad,c0,Hb,Hc,GI,PB,PX,PY,Ac,Ab,Ob,zS,P4,PZ,c1,c2,c3,c4,c5,P5,P1,ZL,SA,Sz,Zc,Zb,Y6,AB,XZ,FJ,FH,Oa,AI,<-NW,vw,ln0,ln1,ln3,ln5,nl1,nl3,nl4,nl5,dv,bL,ij,zN,rO,rN,vT,Ak,Si,Sg,Hs,Hr,Hq,Hp,vo,Nat.min_self,false_and,and_false,vt,eT,cG,Pf,B1,HU,Az,AA,Hu,Hz,AJ,Abs.Z3,Abs.Z4,Abs.Z7,Abs.Z6,Abs.Z5,Abs.HT,Abs.EW,GY,xe,xc,PN,LB,Lz,LA,T7,qc,X5,X3,X4,X6,Sj,Ri,KS,sP,Ko,Og,N6,Od,FG,Bc,Of,Oe,N5,N9,Ba,Abs.O4,Abs.GV,Abs.O7,Abs.O0,Abs.O2,Abs.O3,Abs.O5,Abs.O6,Abs.OZ,Abs.OY,Abs.O1,Abs.Y3,Abs.Y4,Abs.O8,Abs.GX,PG,Ho,Hn,Ay,Zu,PF,Zt,gP,fw,vv,tV,cq,eg,Iz,od,Bb,rS,and_false,exists_false,ks]at h);all_goals first|omega|exact h|(obtain⟨⟨-,e,V⟩,t,b,g,d,i⟩:=h;have q:=wS b;have j:=tf d;rw[eg (by omega)]at V;omega)|grind)):O c:=oo h
end
end Go.Proofs.YtokipodjggomfaaGreatDoor
