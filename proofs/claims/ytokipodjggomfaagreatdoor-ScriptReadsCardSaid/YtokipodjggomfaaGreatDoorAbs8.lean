/- Part 8 of an abstract machine that evaluates programs of the model in the kernel. Conditions: those of each theorem. -/
import Derived.Test.YtokipodjggomfaaGreatDoorAbs7
import Derived.JoinedCond
import Derived.LaidLaws
import Derived.Deep.DeepHandedRow
import Derived.FnData
import Derived.LaidSub
import Derived.Lib.AtoiAll
import Derived.Lib.ItoaNum
import Derived.Lib.IndexMore
import Derived.Lib.AtoiAllCases
import Derived.Lib.AtoiAllMem
import Derived.Sort.Grow
import Derived.Below
import Derived.Deep.Draws
import Derived.Lib.LaidTab
noncomputable section
set_option linter.unusedVariables false
set_option linter.unusedSimpArgs false
namespace Go.Proofs.YtokipodjggomfaaGreatDoor.Abs
section
variable(K:TypeId->List Kd)(T:TypeId)
def dh(M:Nat)(l:List Dt):Prop:=∃(n:Nat)(J:List Dt),l=[.val (.int .i64 (.ofNat n)),.ls (K T) J]/\n*4<=J.length/\Dt.lT K (K T) 0 J/\dk (J.take (n*4))<M
def gK(N M:Nat)(l:List Dt):Prop:=∃(n:Nat)(J:List Dt)(a:Option Addr)(k c g:Nat)(ss:List Dt)(i:Int),l=[.val (.int .i64 (.ofNat n)),.ls (K T) J,.sl (.slice a k c) T g ss,.val (.int .i64 i)]/\
 n*4<=J.length/\Dt.lT K (K T) 0 J/\tN K T a k g ss/\ -1<=i/\i<k/\i+1<N/\dk (J.take (n*4))+dk (ss.take ((i+1).toNat*4))<M
def oG(B:Nat)(l:List Dt):Prop:=l.length=4/\Dt.lT K (K T) 0 l/\dk l<B
end
theorem um{E:G}{x y:SE}{l:List Dt}(h:jj E [x,y]=some l):∃a b,l=[a,b]/\ax E x=some a/\ax E y=some b:=by simp only[jj,cV,bk]at h;obtain⟨a,c,q,⟨b,d,r,e,rfl⟩,rfl⟩:=h;obtain rfl:=ae e;exact⟨a,b,rfl,c,d⟩
theorem vH{E:G}{x y z t:SE}{l:List Dt}(h:jj E [x,y,z,t]=some l):∃a b c d,l=[a,b,c,d]/\ax E x=some a/\ax E y=some b/\ax E z=some c/\ax E t=some d:=by simp only[jj,cV,bk]at h;obtain⟨a,e,q,⟨b,f,k,⟨c,g,m,⟨d,i,r,j,rfl⟩,rfl⟩,rfl⟩,rfl⟩:=h;obtain rfl:=ae j;exact⟨a,b,c,d,rfl,e,f,g,i⟩
theorem a2C{E:G}{x y z t:SE}{a b c d:Dt}(I:ax E x=some a)(Y:ax E y=some b)(W:ax E z=some c)(U:ax E t=some d):jj E [x,y,z,t]=some [a,b,c,d]:=by simp[jj,I,Y,W,U]
theorem xa{E:G}{op:BinOp}{x y:SE}{a b:Int}(c:oJ op=true)(Z:ax E x=some (.val (.int .i64 a)))(d:ax E y=some (.val (.int .i64 b))):ax E (.a2 (.bin op) x y)=okV (bM op .i64 a b):=by simp only[ax,Z,d,bn,e2,fj];cases op<;>first|(cases c;done)|rfl
theorem xb{E:G}{x y:SE}{a b:Int}(Z:ax E x=some (.val (.int .i64 a)))(c:ax E y=some (.val (.int .i64 b)))(I: -9223372036854775808<=a+b)(Y:a+b<=9223372036854775807):ax E (.a2 (.bin .add) x y)=some (.val (.int .i64 (a+b))):=by simp only[ax,Z,c,bn,e2,fj,bS,bc,bM,okV];rw[gh I Y]
theorem w9{E:G}{x y:SE}{a b:Int}(Z:ax E x=some (.val (.int .i64 a)))(c:ax E y=some (.val (.int .i64 b)))(I: -9223372036854775808<=a-b)(Y:a-b<=9223372036854775807):ax E (.a2 (.bin .sub) x y)=some (.val (.int .i64 (a-b))):=by simp only[ax,Z,c,bn,e2,fj,bS,bc,bM,okV];rw[gh I Y]
theorem QO{E:G}{x:SE}{a c:Int}(h:(Fact.tr (.a2 (.bin .geq) x (.int .i64 c))).holds E)(Z:ax E x=some (.val (.int .i64 a))):c<=a:=by have h:ax E _=_:=h;rw[xa (b:=c) rfl Z rfl]at h;have h:=ae h;injection h with h;injection h with h;exact b7 h
theorem Yj{E:G}{x:SE}{a c:Int}(h:(Fact.tr (.a2 (.bin .gtr) x (.int .i64 c))).holds E)(Z:ax E x=some (.val (.int .i64 a))):c<a:=by have h:ax E _=_:=h;rw[xa (b:=c) rfl Z rfl]at h;have h:=ae h;injection h with h;injection h with h;exact b7 h
theorem ui{K:TypeId->List Kd}{T:TypeId}(l:K T=[.int .i64,.int .i64,.str,.sl T]){J:List Dt}(o:Dt.lT K (K T) 0 J){n:Nat}(h:n*4+4<=J.length):
  ∃(x y:Int)(s:ByteArray)(a:Option Addr)(k c g:Nat)(ss:List Dt),J[n*4]? =some (.val (.int .i64 x))/\J[n*4+1]? =some (.val (.int .i64 y))/\J[n*4+2]? =some (.val (.string s))/\J[n*4+3]? =some (.sl (.slice a k c) T g ss)/\
   tN K T a k g ss/\dk (J.take ((n+1)*4))=dk (J.take (n*4))+4+dk ss:=by
 obtain⟨d0,d1,d2,d3,m,I,Y,W,p⟩:=CJ h;have r:(K T).length=4:=by rw[l];rfl
 have b:∀(q:Nat)d,q<4->J[n*4+q]? =some d->(∃k,(K T)[q]? =some k/\k.fits d)/\d.wf K:=by
  intro q d t u;have:=o.get u
  rwa [r,eD,Nat.mul_comm,Nat.mul_add_mod,mv t]at this
 obtain⟨⟨v,e,f0⟩, -⟩:=b 0 d0 (by omega) m;obtain⟨⟨w,f,f1⟩, -⟩:=b 1 d1 (by omega) I;obtain⟨⟨z,i,f2⟩, -⟩:=b 2 d2 (by omega) Y;obtain⟨⟨A,j,f3⟩,w3⟩:=b 3 d3 (by omega) W;rw[l]at e f i j;simp only[dj,og,aD]at e f i j;subst e;subst f;subst i;subst j;obtain⟨x,rfl⟩:=f0;obtain⟨y,rfl⟩:=f1;obtain⟨s,rfl⟩:=f2;obtain⟨a,k,c,g,ss,rfl,g1⟩:=NP f3 w3;refine⟨x,y,s,a,k,c,g,ss,m,I,Y,W,g1,?_⟩;rw[p,eH];simp only[dk,Qr];omega
section
variable{K:TypeId->List Kd}{T:TypeId}{E:G}
theorem xD{nm:String}{M:Nat}{n e:SE}(h:(Fact.rel nm false (dh K T M) [n,e]).holds E):∃(k:Nat)(J:List Dt),ax E n=some (.val (.int .i64 (.ofNat k)))/\ax E e=some (.ls (K T) J)/\k*4<=J.length/\Dt.lT K (K T) 0 J/\dk (J.take (k*4))<M:=by obtain⟨l,d,k,J,rfl,I,Y,W⟩:=h;obtain⟨a,b,e1,e2,e3⟩:=um d;injection e1 with e1 c;injection c with c _;subst e1;subst c;exact⟨k,J,e2,e3,I,Y,W⟩
theorem mM{nm:String}{N M:Nat}{n e s i:SE}(h:(Fact.rel nm false (gK K T N M) [n,e,s,i]).holds E):∃(m:Nat)(J:List Dt)(a:Option Addr)(k c g:Nat)(ss:List Dt)(j:Int),
  ax E n=some (.val (.int .i64 (.ofNat m)))/\ax E e=some (.ls (K T) J)/\ax E s=some (.sl (.slice a k c) T g ss)/\ax E i=some (.val (.int .i64 j))/\
  m*4<=J.length/\Dt.lT K (K T) 0 J/\tN K T a k g ss/\ -1<=j/\j<k/\j+1<N/\dk (J.take (m*4))+dk (ss.take ((j+1).toNat*4))<M:=by
 obtain⟨l,b,m,J,a,k,c,g,ss,j,rfl,I⟩:=h;obtain⟨d1,d2,d3,d4,e1,e2,e3,d,f⟩:=vH b;injection e1 with o e1;injection e1 with p e1;injection e1 with q e1;injection e1 with r _;subst o;subst p;subst q;subst r;exact⟨m,J,a,k,c,g,ss,j,e2,e3,d,f,I⟩
theorem R0{J:List Dt}{n:Nat}(h:n*4<=J.length):n*4<=dk (J.take (n*4)):=by grind[BJ,List.length_take]
theorem gB{P:List Kd}{J:List Dt}{x y:SE}{d:Dt}{q:Kd}(Z:ax E x=some (.ls P J))(a:ax E y=some d)(b:P[J.length%P.length]? =some q)(c:q.fits d):ax E (.a2 .sn x y)=some (.ls P (J++[d])):=by simp only[ax,Z,a,bn,Go.Proofs.YtokipodjggomfaaGreatDoor.Abs.e2];rw[aJ ⟨q,b,c⟩]
theorem a1x{nm:String}{N M:Nat}{n e s i:SE}(Y:(Fact.rel nm false (gK K T N M) [n,e,s,i]).holds E)(I:(Fact.tr (.a2 (.bin .geq) i (.int .i64 (.ofNat 0)))).holds E)(h:(Fact.rel "" false LM [i,.a1 .len s]).holds E):False:=by obtain⟨m,J,a,k,c,g,ss,j,g1,g2,g3,g4, -, -, -, -,g5, -⟩:=mM Y;have o:=QO I g4;obtain⟨l,p,t,q,m1,rfl,r⟩:=h;obtain⟨x,y,e1,b,d⟩:=um p;injection e1 with e1 f;injection f with f _;subst e1;subst f;rw[g4]at b;simp only[ax,g3,bn,Go.Proofs.YtokipodjggomfaaGreatDoor.Abs.e1]at d;have b:=ae b;have d:=ae d;injection b with b;injection b with _ b;injection d with d;injection d with _ d;apply r;simp only[cN]at o;omega
theorem W9{nm:String}{N M bytes:Nat}(v:M<=1073741824)(h:bytes<=56){n e s i:SE}(Y:(Fact.rel nm false (gK K T N M) [n,e,s,i]).holds E)(o:(Fact.rel "" false (OG 4 bytes 1) [e,n]).holds E):False:=by
 obtain⟨m,J,a,k,c,g,ss,j,g1,g2,g3,g4,g5, -, -, -, -, -,g6⟩:=mM Y;obtain⟨l,p,P,lS,q,rfl,r⟩:=o;obtain⟨x,y,e1,d,b⟩:=um p;injection e1 with e1 f;injection f with f _;subst e1;subst f;rw[g2]at d;rw[g1]at b;have d:=ae d;have b:=ae b;injection d with _ d;injection b with b;injection b with _ b;subst d;have U:=R0 g5;have t:q.toNat=m:=by rw[<-b];rfl
 have u:(m+1)*bytes<=(m+1)*56:=Nat.mul_le_mul_left _ h;apply r;rw[t];refine⟨by rw[<-b];exact od m,g5,by omega,by omega⟩
theorem W8{nm A:String}{N M:Nat}(r:K T=[.int .i64,.int .i64,.str,.sl T])(X:M<=1073741824){n e s i:SE}(Y:(Fact.rel nm false (gK K T (N+1) M) [n,e,s,i]).holds E)(I:(Fact.tr (.a2 (.bin .geq) i (.int .i64 (.ofNat 0)))).holds E)
  (S:(Fact.rel A true (gK K T N M) [.a2 (.bin .add) n (.int .i64 (.ofNat 1)),.a2 .sn (.a2 .sn (.a2 .sn (.a2 .sn (.a2 (.tk 4) e n) (.a1 (.ld 0) (.a2 .el s i))) (.a1 (.ld 1) (.a2 .el s i))) (.a1 (.ld 2) (.a2 .el s i))) (.a1 (.ld 3) (.a2 .el s i)),s,.a2 (.bin .sub) i (.int .i64 (.ofNat 1))]).holds E):False:=by
 obtain⟨m,J,a,k,c,g,ss,j,g1,g2,g3,g4,g5,g6,g7,g9,g10,g11,g12⟩:=mM Y;have V:0<=j:=QO I g4;obtain⟨p,rfl⟩:=fK V;have Z:p<k:=by omega
 have h:(K T).length=4:=by rw[r];rfl
 obtain⟨t,g8,B⟩:=g7;obtain⟨u,b,rfl⟩:=B (by omega);rw[h]at t u;subst u;obtain⟨x,y,str,a',k',c',E0,C,c0,c1,c2,c3,l1,W⟩:=ui r g8 (n:=p) (by omega);have U:=R0 g5;have D:((p:Int)+1).toNat=p+1:=by omega
 rw[D,W]at g12;have F:ax E (.a2 .el s i)=some (.pt (.pointer (some ⟨b.block,b.off+p*4,none⟩)) T 4 ss (p*4) 0):=by grind[ax,Go.Proofs.YtokipodjggomfaaGreatDoor.Abs.e2]
 have o:∀q,ax E (.a1 (.ld q) (.a2 .el s i))=ss[p*4+0+q]? :=λq=>by
  show(ax E (.a2 .el s i)).bind _=_;rw[F];rfl
 have G:ax E (.a2 (.tk 4) e n)=some (.ls (K T) (J.take (m*4))):=by grind[ax,Go.Proofs.YtokipodjggomfaaGreatDoor.Abs.e2]
 have f:(J.take (m*4)).length=m*4:=by rw[c8];omega
 have O:(K T)[0]? =some (.int .i64):=by rw[r];rfl
 have P:(K T)[1]? =some (.int .i64):=by rw[r];rfl
 have Q:(K T)[2]? =some .str:=by rw[r];rfl
 have R:(K T)[3]? =some (.sl T):=by rw[r];rfl
 have s0:=gB G ((o 0).trans c0) (q:=.int .i64) (by rw[f,h,mT];exact O) ⟨_,rfl⟩;have s1:=gB s0 ((o 1).trans c1) (q:=.int .i64) (by rw[cg,f,h,ki,tY (by omega)];exact P) ⟨_,rfl⟩;have s2:=gB s1 ((o 2).trans c2) (q:=.str) (by rw[cg,cg,f,h,ki,ki,kf,tY (by omega)];exact Q) ⟨_,rfl⟩;have H:=gB s2 ((o 3).trans c3) (q:=.sl T) (by rw[cg,cg,cg,f,h,ki,ki,ki,kf,kf,tY (by omega)];exact R) ⟨_,_,_,_,_,rfl⟩;rw[mw,mw,mw]at H;simp only[kg,fH]at H;have h5:(p+1)*4<=dk (ss.take ((p+1)*4)):=R0 (by omega);have v:ax E (.a2 (.bin .add) n (.int .i64 (.ofNat 1)))=some (.val (.int .i64 (.ofNat (m+1)))):=xb (b:=1) g1 rfl (by simp only[cN];omega) (by simp only[cN];omega);have w:ax E (.a2 (.bin .sub) i (.int .i64 (.ofNat 1)))=some (.val (.int .i64 ((p:Int)-1))):=w9 (b:=1) g4 rfl (by omega) (by omega);have L:Dt.lT K (K T) 0 (J.take (m*4)++[.val (.int .i64 x),.val (.int .i64 y),.val (.string str),.sl (.slice a' k' c') T E0 C]):=by
  refine Dt.lT.append (g6.take _) λq d l=>?_
  rw[f,h,eD];have z:=λ(q:Nat)d(l:ss[p*4+q]? =some d)=>(g8.get l).2
  rcases q with _|_|_|_|q
  .simp only[dj,aD]at l;subst l;exact⟨⟨.int .i64,by rw[iF,mT];exact O,_,rfl⟩,z 0 _ c0⟩
  .simp only[og,dj,aD]at l;subst l;exact⟨⟨.int .i64,by rw[tY (by omega)];exact P,_,rfl⟩,z 1 _ c1⟩
  .simp only[og,dj,aD]at l;subst l;exact⟨⟨.str,by rw[tY (by omega)];exact Q,_,rfl⟩,z 2 _ c2⟩
  .simp only[og,dj,aD]at l;subst l;exact⟨⟨.sl T,by rw[tY (by omega)];exact R,_,_,_,_,_,rfl⟩,z 3 _ c3⟩
  .simp at l
 refine S ⟨_,a2C v H g3 w,m+1,_,_,k,c,4,ss,(p:Int)-1,rfl,?_,L,⟨by rw[h];exact t,g8,λ_=>⟨h.symm,b,rfl⟩⟩,by omega,by omega,by omega,?_⟩
 .grind[List.length_append,List.length_cons,List.length_nil]
 .have e1:((p:Int)-1+1).toNat=p:=by omega
  rw[e1,gp (by rw[cg,f];simp only[cD,c7];omega),eH];simp only[dk,Qr];omega
theorem a1y{nm b:String}{N M:Nat}{n e s i:SE}(Y:(Fact.rel nm false (gK K T N M) [n,e,s,i]).holds E)(d:(Fact.rel b true (dh K T M) [n,e]).holds E):False:=by obtain⟨m,J,a,k,c,g,ss,j,g1,g2,g3,g4,g5,g6, -, -, -, -,g7⟩:=mM Y;exact d ⟨_,A5 g1 g2,m,J,rfl,g5,g6,by omega⟩
theorem xu{nm:String}{N:Nat}{n e:SE}(Y:(Fact.rel nm false (dh K T N) [n,e]).holds E)(I:(Fact.tr (.a2 (.bin .gtr) n (.int .i64 (.ofNat 0)))).holds E)(a:N<=1073741824):
  ∃(k:Nat)(J:List Dt),ax E n=some (.val (.int .i64 (.ofNat (k+1))))/\ax E e=some (.ls (K T) J)/\(k+1)*4<=J.length/\Dt.lT K (K T) 0 J/\dk (J.take ((k+1)*4))<N/\ax E (.a2 (.bin .sub) n (.int .i64 (.ofNat 1)))=some (.val (.int .i64 (.ofNat k))):=by
 obtain⟨k,J,g1,g2,g3,g4,g5⟩:=xD Y;have hk:=Yj I g1;have b:=R0 g3;simp only[cN]at hk;obtain⟨q,rfl⟩:∃q,k=q+1:=⟨k-1,by omega⟩;refine⟨q,J,g1,g2,g3,g4,g5,?_⟩;rw[w9 g1 rfl (by simp only[cN];omega) (by simp only[cN];omega)];congr 3;simp only[cN];omega
theorem V6{nm:String}{N:Nat}{n e:SE}(d:N<=1073741824)(Y:(Fact.rel nm false (dh K T N) [n,e]).holds E)(I:(Fact.tr (.a2 (.bin .gtr) n (.int .i64 (.ofNat 0)))).holds E)(f:(Fact.rel "" false LM [.a2 (.bin .sub) n (.int .i64 (.ofNat 1)),n]).holds E):False:=by obtain⟨k,J,g1,g2,g3,g4,g5,g6⟩:=xu Y I d;obtain⟨l,g,i,q,m1,rfl,h⟩:=f;obtain⟨x,y,e1,a,b⟩:=um g;injection e1 with e1 c;injection c with c _;subst e1;subst c;rw[g6]at a;rw[g1]at b;have a:=ae a;have b:=ae b;injection a with a;injection a with _ a;injection b with b;injection b with _ b;apply h;simp only[cN]at a b;omega
theorem Rs{nm:String}{N:Nat}{n e:SE}(d:N<=1073741824)(Y:(Fact.rel nm false (dh K T N) [n,e]).holds E)(I:(Fact.tr (.a2 (.bin .gtr) n (.int .i64 (.ofNat 0)))).holds E)(f:(Fact.rel "" false (GJ 4) [e,.a2 (.bin .sub) n (.int .i64 (.ofNat 1))]).holds E):False:=by
 obtain⟨k,J,g1,g2,g3,g4,g5,g6⟩:=xu Y I d;obtain⟨l,g,P,lS,j,q,rfl,h⟩:=f;obtain⟨x,y,e1,b,a⟩:=um g;injection e1 with e1 c;injection c with c _;subst e1;subst c;rw[g2]at b;rw[g6]at a;have b:=ae b;have a:=ae a;injection b with _ b;injection a with a;injection a with _ a;subst b;apply h;have i:q.toNat=k:=by rw[<-a];rfl
 rw[i];exact⟨by rw[<-a];exact od k,by omega⟩
theorem V7{nm:String}{N:Nat}{n e:SE}(b:N<=1073741824)(Y:(Fact.rel nm false (dh K T N) [n,e]).holds E)(I:(Fact.tr (.a2 (.bin .gtr) n (.int .i64 (.ofNat 0)))).holds E)(c:(Fact.rel "" false v7 [.int .i64 (.ofNat 0),.a2 (.bin .sub) n (.int .i64 (.ofNat 1)),n]).holds E):False:=by obtain⟨k,J,g1,g2,g3,g4,g5,g6⟩:=xu Y I b;obtain⟨l,a,f,q,g,m1,h,rfl,d⟩:=c;have:=ID (show ax E (.int .i64 (.ofNat 0))=some (.val (.int .i64 (.ofNat 0)))from rfl) g6 g1;rw[this]at a;have a:=ae a;injection a with a1 a;injection a with a2 a;injection a with a3 _;injection a1 with a1;injection a1 with _ a1;injection a2 with a2;injection a2 with _ a2;injection a3 with a3;injection a3 with _ a3;apply d;simp only[cN]at a1 a2 a3;omega
theorem Rt{nm f:String}{N h:Nat}(i:K T=[.int .i64,.int .i64,.str,.sl T])(m:N+1<=1073741824)(o:1073741824<=h){n e:SE}(Y:(Fact.rel nm false (dh K T (N+1)) [n,e]).holds E)(I:(Fact.tr (.a2 (.bin .gtr) n (.int .i64 (.ofNat 0)))).holds E)
  (p:(Fact.rel f true (gK K T h N) [.a2 (.bin .sub) n (.int .i64 (.ofNat 1)),e,.a2 (.at 4 3) e (.a2 (.bin .sub) n (.int .i64 (.ofNat 1))),.a2 (.bin .sub) (.a1 .len (.a2 (.at 4 3) e (.a2 (.bin .sub) n (.int .i64 (.ofNat 1))))) (.int .i64 (.ofNat 1))]).holds E):False:=by
 obtain⟨k,J,g1,g2,g3,g4,g5,g6⟩:=xu Y I m;have g:(K T).length=4:=by rw[i];rfl
 obtain⟨x,y,str,a',k',c',E0,a,c0,c1,c2,c3,j,q⟩:=ui i g4 (n:=k) (by omega);rw[q]at g5;have b:ax E (.a2 (.at 4 3) e (.a2 (.bin .sub) n (.int .i64 (.ofNat 1))))=some (.sl (.slice a' k' c') T E0 a):=by show(ax E e).bind (λu=>(ax E (.a2 (.bin .sub) n (.int .i64 (.ofNat 1)))).bind (Go.Proofs.YtokipodjggomfaaGreatDoor.Abs.e2 (.at 4 3) u))=_;rw[g2,g6];exact c3
 have c:ax E (.a1 .len (.a2 (.at 4 3) e (.a2 (.bin .sub) n (.int .i64 (.ofNat 1)))))=some (.val (.int .i64 k')):=by show(ax E (.a2 (.at 4 3) e (.a2 (.bin .sub) n (.int .i64 (.ofNat 1))))).bind _=_;rw[b];rfl
 have r:a.length=k'*4:=by have:=j.1;rwa [g]at this
 have s:=BJ (l:=a);have d:=w9 c (show ax E (.int .i64 (.ofNat 1))=some (.val (.int .i64 (.ofNat 1)))from rfl) (by simp only[cN];omega) (by simp only[cN];omega);refine p ⟨_,a2C g6 g2 b d,k,J,a',k',c',E0,a,_,rfl,by omega,g4,j,?_,?_,?_,?_⟩
 .simp only[cN];omega
 .simp only[cN];omega
 .simp only[cN];omega
 .grind
theorem P0{nm g:String}{B:Nat}(m:K T=[.int .i64,.int .i64,.str,.sl T]){x y z t:SE}(I:(Fact.rel nm false (oG K T B) [x,y,z,t]).holds E)
  (n:(Fact.rel g true (dh K T B) [.int .i64 (.ofNat 1),.a2 .sn (.a2 .sn (.a2 .sn (.a2 .sn (.a1 (.nl [.int .i64,.int .i64,.str,.sl T]) (.bool true)) x) y) z) t]).holds E):False:=by
 obtain⟨l,o, -,Y,W⟩:=I;obtain⟨a,b,c,d,rfl,e1,h,i,p⟩:=vH o;have e:(K T).length=4:=by rw[m];rfl
 have j:ax E (.a1 (.nl [.int .i64,.int .i64,.str,.sl T]) (.bool true))=some (.ls (K T) []):=by rw[m];rfl
 have f:∀(q:Nat)d',q<4->([a,b,c,d]:List Dt)[q]? =some d'->∃k,(K T)[q]? =some k/\k.fits d':=by
  intro q d' r s;have:=(Y.get s).1
  rwa [eD,e,mv r]at this
 obtain⟨u,v,f0⟩:=f 0 a (by omega) rfl;obtain⟨w,A,f1⟩:=f 1 b (by omega) rfl;obtain⟨C,D,f2⟩:=f 2 c (by omega) rfl;obtain⟨F,G,f3⟩:=f 3 d (by omega) rfl;have s0:=gB j e1 (q:=u) (by rw[e];exact v) f0;have s1:=gB s0 h (q:=w) (by rw[e];exact A) f1;have s2:=gB s1 i (q:=C) (by rw[e];exact D) f2;have H:=gB s2 p (q:=F) (by rw[e];exact G) f3;exact n ⟨_,A5 rfl H,1,[a,b,c,d],rfl,by simp,Y,by
  rw[gp (by simp)];exact W⟩
end
theorem sS{F:Nat->Fact}{rows Rm:List (List Nat)}(d:∀p∈Rm,∀E:G,(∀i∈p,(F i).holds E)->False)
  (h:(rows.all λr=>Rm.any λp=>p.all λi=>r.contains i)=true):qF (rows.map λr=>r.map F):=by
 rintro pc a ⟨E,e⟩;obtain⟨r,f,rfl⟩:=List.mem_map.1 a;obtain⟨p,b,c⟩:=List.any_eq_true.1 (qP.1 h r f);exact d p b E λi V=>e _ (List.mem_map.2 ⟨i,by simpa using qP.1 c i V,rfl⟩)
theorem o9{P:Program}{c:bX}(h:∀E:G,(∀f∈c.facts,f.holds E)->False):fy P c:=λ_ E _ _ _ _ _ _ a=>(h E λf b=>(a.rel.pc f b).2).elim
section
mutual
inductive Alike:Dt->Dt->Prop
 |val (v:Value):Alike (.val v) (.val v)
 |sl (a a':Option Addr) (n c c':Nat) (t Q:TypeId) (g E0:Nat) (J lS:List Dt):jK J lS->Alike (.sl (.slice a n c) t g J) (.sl (.slice a' n c') Q E0 lS)
inductive jK:List Dt->List Dt->Prop
 |nil:jK [] []
 |cons (x y:Dt) (l m:List Dt):Alike x y->jK l m->jK (x::l) (y::m)
end
theorem jK.append:∀{a b c d:List Dt},jK a b->jK c d->jK (a++c) (b++d)
 |_,_,_,_,.nil,h=>h
 |_,_,_,_,.cons _ _ _ _ I Y,h=>.cons _ _ _ _ I (Y.append h)
theorem jK.get:∀{a b:List Dt}{i:Nat}{x:Dt},jK a b->a[i]? =some x->∃y,b[i]? =some y/\Alike x y
 |_,_,_,_,.nil,h=>by simp at h
 |_,_,0,_,.cons x y l m I _,h=>by grind
 |_,_,i+1,_,.cons x y l m _ Y,h=>by
  obtain⟨z,W,U⟩:=Y.get (i:=i) (by simpa using h);exact⟨z,by simpa using W,U⟩
section
variable{K:TypeId->List Kd}{T:TypeId}{E:G}
theorem qi{s:SE}{a:Option Addr}{k c g:Nat}{t:TypeId}{ss:List Dt}(h:ax E s=some (.sl (.slice a k c) t g ss)):ax E (.a1 .len s)=some (.val (.int .i64 k)):=by show(ax E s).bind _=_;rw[h];rfl
theorem KX{x y:SE}{a b:Int}(h:(Fact.tr (.a2 (.bin .lss) x y)).holds E)(Z:ax E x=some (.val (.int .i64 a)))(c:ax E y=some (.val (.int .i64 b))):a<b:=by have h:ax E _=_:=h;rw[xa (b:=b) rfl Z c]at h;have h:=ae h;injection h with h;injection h with h;exact b7 h
theorem zW(u:K T=[.int .i64,.int .i64,.str,.sl T]){s i:SE}{a:Option Addr}{k c g p:Nat}{ss:List Dt}(z:ax E s=some (.sl (.slice a k c) T g ss))(V:ax E i=some (.val (.int .i64 (p:Int))))(m:tN K T a k g ss)(A:p<k):
  ∃(x y:Int)(str:ByteArray)(a':Option Addr)(k' c' E0:Nat)(e:List Dt),ax E (.a1 (.ld 0) (.a2 .el s i))=some (.val (.int .i64 x))/\ax E (.a1 (.ld 1) (.a2 .el s i))=some (.val (.int .i64 y))/\ax E (.a1 (.ld 2) (.a2 .el s i))=some (.val (.string str))/\
   ax E (.a1 (.ld 3) (.a2 .el s i))=some (.sl (.slice a' k' c') T E0 e)/\tN K T a' k' E0 e/\Dt.lT K (K T) 0 [.val (.int .i64 x),.val (.int .i64 y),.val (.string str),.sl (.slice a' k' c') T E0 e]/\
   dk (ss.take ((p+1)*4))=dk (ss.take (p*4))+4+dk e/\ss.length=k*4:=by
 have h:(K T).length=4:=by rw[u];rfl
 obtain⟨j,g8,o⟩:=m;obtain⟨l,b,rfl⟩:=o (by omega);rw[h]at j l;subst l;obtain⟨x,y,str,a',k',c',E0,e,c0,c1,c2,c3,v,w⟩:=ui u g8 (n:=p) (by omega);have r:ax E (.a2 .el s i)=some (.pt (.pointer (some ⟨b.block,b.off+p*4,none⟩)) T 4 ss (p*4) 0):=by grind[ax,Go.Proofs.YtokipodjggomfaaGreatDoor.Abs.e2]
 have f:∀q,ax E (.a1 (.ld q) (.a2 .el s i))=ss[p*4+0+q]? :=λq=>by
  show(ax E (.a2 .el s i)).bind _=_;rw[r];rfl
 have key:∀(q:Nat)d,q<4->ss[p*4+q]? =some d->(∃k,(K T)[(0+q)%(K T).length]? =some k/\k.fits d)/\d.wf K:=λq d B h'=>by
  have:=g8.get h';rw[h,eD,Nat.mul_comm p 4,Nat.mul_add_mod]at this;rw[h,eD];exact this
 refine⟨x,y,str,a',k',c',E0,e,(f 0).trans c0,(f 1).trans c1,(f 2).trans c2,(f 3).trans c3,v,.mk λq d t=>?_,w,j⟩;rcases q with _|_|_|_|q
 .simp only[dj,aD]at t;subst t;exact key 0 _ (by omega) c0
 .grind
 .grind
 .grind
 .simp at t
theorem B6(m:K T=[.int .i64,.int .i64,.str,.sl T]){s i:SE}{a:Option Addr}{k c g p:Nat}{ss:List Dt}(n:ax E s=some (.sl (.slice a k c) T g ss))(V:ax E i=some (.val (.int .i64 (p:Int))))(e:tN K T a k g ss)(o:p<k)(q:Nat):
  ax E (.a1 (.ld q) (.a2 .el s i))=ss[p*4+q]? :=by
 have f:(K T).length=4:=by rw[m];rfl
 obtain⟨h,g8,j⟩:=e;obtain⟨d,b,rfl⟩:=j (by omega);rw[f]at h d;subst d;have l:ax E (.a2 .el s i)=some (.pt (.pointer (some ⟨b.block,b.off+p*4,none⟩)) T 4 ss (p*4) 0):=by grind[ax,Go.Proofs.YtokipodjggomfaaGreatDoor.Abs.e2]
 show(ax E (.a2 .el s i)).bind _=_;rw[l];rfl
theorem WQ(o:K T=[.int .i64,.int .i64,.str,.sl T]){s i:SE}{a:Option Addr}{k c g p:Nat}{ss:List Dt}(q:ax E s=some (.sl (.slice a k c) T g ss))(V:ax E i=some (.val (.int .i64 (p:Int))))(b:tN K T a k g ss)(r:p<k){d0 d1 d2 d3:Dt}
  (e:ax E (.a1 (.ld 0) (.a2 .el s i))=some d0) (I:ax E (.a1 (.ld 1) (.a2 .el s i))=some d1) (Y:ax E (.a1 (.ld 2) (.a2 .el s i))=some d2) (W:ax E (.a1 (.ld 3) (.a2 .el s i))=some d3):ss.take ((p+1)*4)=ss.take (p*4)++[d0,d1,d2,d3]:=by
 rw[B6 o q V b r]at e I Y W;obtain⟨t, -⟩:=my.1 W;obtain⟨v,w,x,y,f,h,j,m,u⟩:=CJ (l:=ss) (n:=p) (by omega);have d:ss[p*4]? =some d0:=e;rw[d]at f;rw[I]at h;rw[Y]at j;rw[W]at m;rw[u,ae f,ae h,ae j,ae m]
theorem A3(c:K T=[.int .i64,.int .i64,.str,.sl T]){a:Option Addr}{k g:Nat}{ss:List Dt}(h:tN K T a k g ss):k*4<=dk ss:=by
 have b:(K T).length=4:=by rw[c];rfl
 have:=h.1;rw[b]at this;have:=BJ (l:=ss);omega
end
end
theorem Tw{P:Program}{cS:Nat->bX}{cL:Nat->Nat->bX}{B:Nat}(a:fy P (cS 0))(b:∀N,fy P (cL N 0))
  (c:∀N M,N<=B->fy P (cS N)->fy P (cL N M)->fy P (cL N (M+1))) (d:∀N,N+1<=B->fy P (cL N (N+1))->fy P (cS (N+1))):∀N,N<=B->fy P (cS N)
 |0,_=>a
 |N+1,h=>by
  have e:=Tw a b c d N (by omega);have all:∀M,fy P (cL N M):=λM=>by
   induction M with
   |zero=>exact b N
   |succ M f=>exact c N M (by omega) e f
  exact d N h (all (N+1))
def Us(o:Out):R Unit:=
 match o.res with
 | .ret v=>match v with
   | .bool b=>match b with
     |true=>.ok ()
     |false=>.must o.s.pc (.ok ())
   | .cE k e=>match r8 k .bool with
     |true=>.must (.fl e::o.s.pc) (.ok ())
     |false=>.bad ""
   |_=>.bad ""
 | .gv _=>.must o.s.pc (.ok ())
theorem P3{C:Ctx}(u:Good C)(z:C.P.follows .mixedOrders=true){base:Nat}{E:G}{s:S}{w:World}(B:Rel C base E s w){f:FuncId}{args:List AV}{g:List Value}(j:aN E args=some g)(n:Nat)
  {l:List (List Fact)} (h:R.res (λ_=>true) ((uU C (Et C n) f args .normal none s).bind Us)=some l) (D:qF l):
  Calls C.P f ⟨g⟩ w λe M=>e=.returned (.bool true)/\a1V E s w M:=by
 refine wW (MT u z B j n h D) ?_;rintro e M ⟨A,o,x,a,Z,m,i⟩;refine⟨?_,a.keep.size,a.keep.tape,a.keep.os,a.keep.output,a.keep.stays⟩;have p:∀f∈o.s.pc,f.holds A:=λf q=>(a.rel.pc f q).2
 unfold a6g at i;unfold Us at Z;cases t:o.res with
 |gv ch=>rw[t]at Z;obtain⟨y, -,rfl⟩:=R.jP Z;exact absurd ⟨A,p⟩ (m o.s.pc bB)
 |ret v=>
  rw[t]at Z i;obtain⟨c,r,rfl⟩:=i;cases v with
  |bool b=>
   cases b with
   |true=>simp only[ai,aD]at r;rw[<-r]
   |false=>obtain⟨y, -,rfl⟩:=R.jP (show R.res (λ_=>true) (R.must o.s.pc (R.ok ()))=some x from Z);exact absurd ⟨A,p⟩ (m o.s.pc bB)
  |cE k e=>
   cases hk:r8 k .bool with
   |false=>have Z:R.res (λ_=>true) (match r8 k .bool with|true=>R.must (.fl e::o.s.pc) (R.ok ())|false=>.bad "")=some x:=Z;rw[hk]at Z;cases Z
   |true=>
    have Z:R.res (λ_=>true) (match r8 k .bool with|true=>R.must (.fl e::o.s.pc) (R.ok ())|false=>.bad "")=some x:=Z;rw[hk]at Z;obtain⟨y, -,rfl⟩:=R.jP Z;obtain rfl:=kA hk;obtain⟨d,g1,⟨b,rfl⟩,g3⟩:=ek r;cases b with
    |true=>rw[g3];rfl
    |false=>
     refine absurd ⟨A,λf q=>?_⟩ (m (.fl e::o.s.pc) bB);cases q with
     |head=>exact g1
     |tail _ q=>exact p f q
  |_=>cases Z
section
variable{K:TypeId->List Kd}{T:TypeId}{E:G}
theorem JA{x y z:SE}{l:List Dt}(h:jj E [x,y,z]=some l):∃a b c,l=[a,b,c]/\ax E x=some a/\ax E y=some b/\ax E z=some c:=by simp only[jj,cV,bk]at h;obtain⟨a,d,q,⟨b,e,r,⟨c,f,u,g,rfl⟩,rfl⟩,rfl⟩:=h;obtain rfl:=ae g;exact⟨a,b,c,rfl,d,e,f⟩
end
section
variable(K:TypeId->List Kd)(T:TypeId)
def E7(N:Nat)(l:List Dt):Prop:=∃(a1 a2:Option Addr)(k c1 c2 c d:Nat)(a b:List Dt),l=[.sl (.slice a1 k c1) T c a,.sl (.slice a2 k c2) T d b]/\tN K T a1 k c a/\tN K T a2 k d b/\jK a b/\dk a<N
def oY(N M:Nat)(l:List Dt):Prop:=∃(a1 a2:Option Addr)(k c1 c2 c d:Nat)(a b:List Dt)(i:Int),l=[.sl (.slice a1 k c1) T c a,.sl (.slice a2 k c2) T d b,.val (.int .i64 i)]/\tN K T a1 k c a/\tN K T a2 k d b/\jK a b/\dk a<N+1/\
 0<=i/\i<=k/\(k:Int)-i<M
end
section
variable{K:TypeId->List Kd}{T:TypeId}{E:G}
theorem FE{nm:String}{N:Nat}{x y:SE}(h:(Fact.rel nm false (E7 K T N) [x,y]).holds E):∃(a1 a2:Option Addr)(k c1 c2 c d:Nat)(a b:List Dt),
  ax E x=some (.sl (.slice a1 k c1) T c a)/\ax E y=some (.sl (.slice a2 k c2) T d b)/\tN K T a1 k c a/\tN K T a2 k d b/\jK a b/\dk a<N:=by
 obtain⟨l,e,a1,a2,k,c1,c2,c,d,a,b,rfl,I⟩:=h;obtain⟨d1,d2,e1,e2,e3⟩:=um e;injection e1 with f e1;injection e1 with g _;subst f;subst g;exact⟨a1,a2,k,c1,c2,c,d,a,b,e2,e3,I⟩
theorem wO{nm:String}{N M:Nat}{x y i:SE}(h:(Fact.rel nm false (oY K T N M) [x,y,i]).holds E):∃(a1 a2:Option Addr)(k c1 c2 c d:Nat)(a b:List Dt)(j:Int),
  ax E x=some (.sl (.slice a1 k c1) T c a)/\ax E y=some (.sl (.slice a2 k c2) T d b)/\ax E i=some (.val (.int .i64 j))/\tN K T a1 k c a/\tN K T a2 k d b/\jK a b/\dk a<N+1/\0<=j/\j<=k/\(k:Int)-j<M:=by
 obtain⟨l,e,a1,a2,k,c1,c2,c,d,a,b,j,rfl,I⟩:=h;obtain⟨d1,d2,d3,e1,e2,e3,f⟩:=JA e;injection e1 with g e1;injection e1 with m e1;injection e1 with n _;subst g;subst m;subst n;exact⟨a1,a2,k,c1,c2,c,d,a,b,j,e2,e3,f,I⟩
theorem a4T{nm:String}{x y:SE}(h:(Fact.rel nm false (E7 K T 0) [x,y]).holds E):False:=by grind[FE]
theorem a1P{nm:String}{N:Nat}{x y i:SE}(h:(Fact.rel nm false (oY K T N 0) [x,y,i]).holds E):False:=by grind[wO]
theorem a88{nm:String}{N:Nat}{x y:SE}(I:(Fact.rel nm false (E7 K T N) [x,y]).holds E)(a:(Fact.tr (.a2 (.bin .neq) (.a1 .len x) (.a1 .len y))).holds E):False:=by obtain⟨a1,a2,k,c1,c2,c,d,e,f,g1,g2, -⟩:=FE I;have a:ax E _=_:=a;rw[xa (b:=(k:Int)) rfl (qi g1) (qi g2)]at a;have a:=ae a;injection a with a;injection a with a;simp at a
theorem a1R{nm a:String}{N:Nat}(f:K T=[.int .i64,.int .i64,.str,.sl T]){x y:SE}(I:(Fact.rel nm false (E7 K T (N+1)) [x,y]).holds E)(g:(Fact.rel a true (oY K T N (N+1)) [x,y,.int .i64 (.ofNat 0)]).holds E):False:=by obtain⟨a1,a2,k,c1,c2,b,c,d,e,g1,g2,g3,g4,g5,g6⟩:=FE I;have hk:=A3 f g3;exact g ⟨_,ID g1 g2 rfl,a1,a2,k,c1,c2,b,c,d,e,0,rfl,g3,g4,g5,g6,by omega,by omega,by omega⟩
theorem SV{nm:String}{N M q:Nat}(c:K T=[.int .i64,.int .i64,.str,.sl T])(e:q<3){x y i:SE}(Y:(Fact.rel nm false (oY K T N M) [x,y,i]).holds E)(I:(Fact.tr (.a2 (.bin .lss) i (.a1 .len x))).holds E)
  (f:(Fact.fl (.a2 (.bin .eql) (.a1 (.ld q) (.a2 .el x i)) (.a1 (.ld q) (.a2 .el y i)))).holds E):False:=by
 obtain⟨a1,a2,k,c1,c2,g,h,l,m,j,g1,g2,g3,g4,g5,g6,g7,g8,g9,g10⟩:=wO Y;have n:=KX I g3 (qi g1);obtain⟨p,rfl⟩:=fK g8;obtain⟨u,v,b,e1,a,e3,d⟩:=tt (p:=true) rfl (show ax E _=some _ from f);rw[B6 c g1 g3 g4 (by omega)]at e1;rw[B6 c g2 g3 g5 (by omega)]at a;obtain⟨z,f1,f2⟩:=g6.get e1;rw[a]at f1;obtain rfl:=ae f1;cases f2;injection e3 with e3;injection e3 with e3;have e3:false=b:=e3;rw[<-e3]at d;exact absurd (d.2 rfl) (by decide)
theorem Xc{nm h:String}{N M:Nat}(g:K T=[.int .i64,.int .i64,.str,.sl T]){x y i:SE}(Y:(Fact.rel nm false (oY K T N M) [x,y,i]).holds E)(I:(Fact.tr (.a2 (.bin .lss) i (.a1 .len x))).holds E)
  (o:(Fact.rel h true (E7 K T N) [.a1 (.ld 3) (.a2 .el x i),.a1 (.ld 3) (.a2 .el y i)]).holds E):False:=by
 obtain⟨a1,a2,k,c1,c2,q,r,c,s,j,g1,g2,g3,g4,g5,g6,g7,g8,g9,g10⟩:=wO Y;have U:=KX I g3 (qi g1);obtain⟨p,rfl⟩:=fK g8;obtain⟨V,X,s1,t,u,v,w,t1,A,B,c12,d,m,C,D,F⟩:=zW g g1 g3 g4 (by omega);obtain⟨Z,y2,s2,G,H,J,L,t2,c20,c21,O,e,n,P,Q,R⟩:=zW g g2 g3 g5 (by omega);have e1:=d;have f:=e;rw[B6 g g1 g3 g4 (by omega)]at e1;rw[B6 g g2 g3 g5 (by omega)]at f;obtain⟨z,f1,f2⟩:=g6.get e1;rw[f]at f1;obtain rfl:=ae f1;have S:=G4 (l:=c) (a:=(p+1)*4) (b:=c.length) (by omega);rw[pk]at S;cases f2 with
 |sl _ _ _ _ _ _ _ _ _ _ _ W=>exact o ⟨_,A5 d e,_,_,_,_,_,_,_,_,_,rfl,m,n,W,by omega⟩
theorem a1Q{nm c:String}{N M:Nat}(h:K T=[.int .i64,.int .i64,.str,.sl T])(m:N<=1073741824){x y i:SE}(Y:(Fact.rel nm false (oY K T N (M+1)) [x,y,i]).holds E)(I:(Fact.tr (.a2 (.bin .lss) i (.a1 .len x))).holds E)
  (l:(Fact.rel c true (oY K T N M) [x,y,.a2 (.bin .add) i (.int .i64 (.ofNat 1))]).holds E):False:=by
 obtain⟨a1,a2,k,c1,c2,d,e,f,g,j,g1,g2,g3,g4,g5,g6,g7,g8,g9,g10⟩:=wO Y;have n:=KX I g3 (qi g1);have hk:=A3 h g4;have a:=xb (E:=E) (b:=1) g3 (show ax E (.int .i64 (.ofNat 1))=_ from rfl) (by omega) (by omega);exact l ⟨_,ID g1 g2 a,a1,a2,k,c1,c2,d,e,f,g,j+1,rfl,g4,g5,g6,g7,by omega,by omega,by omega⟩
theorem ace{nm a:String}{N:Nat}{x y:SE}(I:(Fact.rel nm false (E7 K T N) [x,y]).holds E)(c:(Fact.rel a true pTr [.a2 (.bin .eql) (.a1 .len x) (.a1 .len y)]).holds E):False:=by obtain⟨a1,a2,k,c1,c2,d,e,f,g,g1,g2, -⟩:=FE I;refine c (Lm.2 ?_);rw[xa (b:=(k:Int)) rfl (qi g1) (qi g2)];show some (Dt.val (.bool (decide ((k:Int)=k))))=_;rw[decide_eq_true rfl]
theorem a84{nm d:String}{N M:Nat}(e:K T=[.int .i64,.int .i64,.str,.sl T])(o:N<=1073741824){x y i:SE}(Y:(Fact.rel nm false (oY K T N M) [x,y,i]).holds E)(I:(Fact.tr (.a2 (.bin .lss) i (.a1 .len x))).holds E)
  (f:(Fact.rel d true Wb [.a2 (.bin .add) i (.int .i64 (.ofNat 1)),.int .i64 (.ofNat 1073741825)]).holds E):False:=by
 obtain⟨a1,a2,k,c1,c2,g,h,l,n,j,g1,g2,g3,g4,g5,g6,g7,g8,g9,g10⟩:=wO Y;have p:=KX I g3 (qi g1);have hk:=A3 e g4;have c:=xb (E:=E) (b:=1) g3 (show ax E (.int .i64 (.ofNat 1))=_ from rfl) (by omega) (by omega);exact f (Gs.2 (show∃(k:IntKind)(a m:Int),ax E _=some (.val (.int k a))/\ax E _=some (.val (.int .i64 m))/\0<=a/\a<m from⟨_,j+1,1073741825,c,rfl,by omega,by omega⟩))
theorem a3P{b:String}(c:(Fact.rel b true Wb [.int .i64 (.ofNat 0),.int .i64 (.ofNat 1073741825)]).holds E):False:=
 c (Gs.2 (show∃(k:IntKind)(a m:Int),ax E _=some (.val (.int k a))/\ax E _=some (.val (.int .i64 m))/\0<=a/\a<m from⟨_,0,1073741825,rfl,rfl,by decide,by decide⟩))
end
def da(k n:Int)(s l:Nat):Prop:=
 (k=1/\ -576460752303423488<=n/\n<=576460752303423487/\s=0/\l=0)\/(k=2/\n=0/\s<=64/\l=0)\/((k=3\/k=4\/k=6)/\0<=n/\n<=1073741824/\s=0/\l=0)\/(k=5/\0<=n/\n<=1073741824/\s=0/\l<=64)\/
 (k=7/\n=0/\s=0/\l<=64)\/(k=8/\n=0/\s=0/\l=0)\/(k=9/\n=0/\s=0/\l=2)
inductive Cu:Dt->Dt->Dt->Dt->Prop
 |mk (k n:Int) (s:ByteArray) (a:Option Addr) (l c:Nat) (t:TypeId) (g:Nat) (J:List Dt):da k n s.size l->
  (∀i d0 d1 d2 d3,J[i*4]? =some d0->J[i*4+1]? =some d1->J[i*4+2]? =some d2->J[i*4+3]? =some d3->Cu d0 d1 d2 d3)->
  Cu (.val (.int .i64 k)) (.val (.int .i64 n)) (.val (.string s)) (.sl (.slice a l c) t g J)
def gP(J:List Dt):Prop:=∀i d0 d1 d2 d3,J[i*4]? =some d0->J[i*4+1]? =some d1->J[i*4+2]? =some d2->J[i*4+3]? =some d3->Cu d0 d1 d2 d3
theorem gP.nil:gP []:=λi d0 d1 d2 d3 h=>by simp at h
theorem gP.left {a b:List Dt} (h:gP (a++b)):gP a:=λi d0 d1 d2 d3 f I Y W=>by
 have e:∀{j d},a[j]? =some d->(a++b)[j]? =some d:=λ{j d}c=>by
  rw[AL (my.1 c).1];exact c
 exact h i d0 d1 d2 d3 (e f) (e I) (e Y) (e W)
theorem gP.right {a b:List Dt} {m:Nat} (g:a.length=m*4) (h:gP (a++b)):gP b:=λi d0 d1 d2 d3 c I Y W=>by
 have e:∀{j d},b[j]? =some d->(a++b)[m*4+j]? =some d:=λ{j d}f=>by
  rw[CD (by omega)];rw[show m*4+j-a.length=j by omega];exact f
 refine h (m+i) d0 d1 d2 d3 ?_ ?_ ?_ ?_
 .rw[show(m+i)*4=m*4+i*4 by omega];exact e c
 .rw[show(m+i)*4+1=m*4+(i*4+1) by omega];exact e I
 .rw[show(m+i)*4+2=m*4+(i*4+2) by omega];exact e Y
 .rw[show(m+i)*4+3=m*4+(i*4+3) by omega];exact e W
theorem gP.append {a b:List Dt} {m:Nat} (c:a.length=m*4) (I:gP a) (Y:gP b):gP (a++b):=λi d0 d1 d2 d3 e0 e1 e2 e3=>by
 by_cases V:i<m
 .have e:∀{j d},j<m*4->(a++b)[j]? =some d->a[j]? =some d:=λ{j d}f h=>by
    rw[AL (by omega)]at h;exact h
  exact I i d0 d1 d2 d3 (e (by omega) e0) (e (by omega) e1) (e (by omega) e2) (e (by omega) e3)
 .have e:∀{q d},(a++b)[i*4+q]? =some d->b[(i-m)*4+q]? =some d:=λ{q d}h=>by
    rw[CD (by omega)]at h;rw[show(i-m)*4+q=i*4+q-a.length by omega];exact h
  exact Y (i-m) d0 d1 d2 d3 (e (q:=0) e0) (e e1) (e e2) (e e3)
theorem gP.iff {a b:List Dt} {m:Nat} (c:a.length=m*4):gP (a++b)↔gP a/\gP b:=⟨λh=>⟨h.left,h.right c⟩,λh=>h.1.append c h.2⟩
theorem gP.one {d0 d1 d2 d3:Dt}:gP [d0,d1,d2,d3]↔Cu d0 d1 d2 d3:=by
 refine⟨λh=>h 0 d0 d1 d2 d3 rfl rfl rfl rfl,λh i b c d e a I Y W=>?_⟩;cases i with
 |zero=>simp only[mr,eD,dj,og,aD]at a I Y W;subst a;subst I;subst Y;subst W;exact h
 |succ i=>rw[List.getElem?_eq_none (by simp only[cD,c7];omega)]at a;cases a
theorem Cu.iff {k n:Int} {s:ByteArray} {a:Option Addr} {l c:Nat} {t:TypeId} {g:Nat} {J:List Dt}:Cu (.val (.int .i64 k)) (.val (.int .i64 n)) (.val (.string s)) (.sl (.slice a l c) t g J)↔da k n s.size l/\gP J:=by
 refine⟨λh=>?_,λh=>.mk _ _ _ _ _ _ _ _ _ h.1 h.2⟩;cases h with
 |mk _ _ _ _ _ _ _ _ _ I Y=>exact⟨I,Y⟩
section
variable(K:TypeId->List Kd)(T:TypeId)
def lZ(l:List Dt):Prop:=∃(m' m:Nat)(lS J:List Dt)(a:Option Addr)(k c g:Nat)(ss:List Dt)(j:Int),l=[.val (.int .i64 (.ofNat m')),.ls (K T) lS,.val (.int .i64 (.ofNat m)),.ls (K T) J,.sl (.slice a k c) T g ss,.val (.int .i64 j)]/\
 (gP (lS.take (m'*4))↔gP (J.take (m*4))/\gP (ss.take ((j+1).toNat*4)))/\dk (lS.take (m'*4))=dk (J.take (m*4))+dk (ss.take ((j+1).toNat*4))
def qI(l:List Dt):Prop:=∃(m:Nat)(J:List Dt),l=[.val (.int .i64 (.ofNat m)),.ls (K T) J]/\gP (J.take (m*4))
end
section
variable{K:TypeId->List Kd}{T:TypeId}{E:G}
theorem a2B{g i j k m n:SE}{l:List Dt}(h:jj E [g,i,j,k,m,n]=some l):∃a b c d e f,l=[a,b,c,d,e,f]/\ax E g=some a/\ax E i=some b/\ax E j=some c/\ax E k=some d/\ax E m=some e/\ax E n=some f:=by simp only[jj,cV,bk]at h;obtain⟨a,o,q,⟨b,p,r,⟨c,s,u,⟨d,t,v,⟨e,x,w,⟨f,y,z,A,rfl⟩,rfl⟩,rfl⟩,rfl⟩,rfl⟩,rfl⟩:=h;obtain rfl:=ae A;exact⟨a,b,c,d,e,f,rfl,o,p,s,t,x,y⟩
theorem a95{g h i j k l:SE}{a b c d e f:Dt}(I:ax E g=some a)(Y:ax E h=some b)(W:ax E i=some c)(U:ax E j=some d)(h5:ax E k=some e)(h6:ax E l=some f):jj E [g,h,i,j,k,l]=some [a,b,c,d,e,f]:=by simp[jj,I,Y,W,U,h5,h6]
theorem Qb{nm:String}{n' b n e s i:SE}(h:(Fact.rel nm false (lZ K T) [n',b,n,e,s,i]).holds E):∃(m' m:Nat)(lS J:List Dt)(a:Option Addr)(k c g:Nat)(ss:List Dt)(j:Int),
  ax E n'=some (.val (.int .i64 (.ofNat m')))/\ax E b=some (.ls (K T) lS)/\ax E n=some (.val (.int .i64 (.ofNat m)))/\ax E e=some (.ls (K T) J)/\ax E s=some (.sl (.slice a k c) T g ss)/\ax E i=some (.val (.int .i64 j))/\
  (gP (lS.take (m'*4))↔gP (J.take (m*4))/\gP (ss.take ((j+1).toNat*4)))/\dk (lS.take (m'*4))=dk (J.take (m*4))+dk (ss.take ((j+1).toNat*4)):=by
 obtain⟨l,d,m',m,lS,J,a,k,c,g,ss,j,rfl,I⟩:=h;obtain⟨d1,d2,d3,d4,d5,d6,e1,g1,g2,g3,g4,g5,g6⟩:=a2B d;injection e1 with f e1;injection e1 with o e1;injection e1 with p e1;injection e1 with q e1;injection e1 with r e1;injection e1 with t _;subst f;subst o;subst p;subst q;subst r;subst t;exact⟨m',m,lS,J,a,k,c,g,ss,j,g1,g2,g3,g4,g5,g6,I⟩
theorem W7{nm:String}{N M:Nat}(h:K T=[.int .i64,.int .i64,.str,.sl T])(G:M<=1073741824){n e s i:SE}(Y:(Fact.rel nm false (gK K T (N+1) M) [n,e,s,i]).holds E)(I:(Fact.tr (.a2 (.bin .geq) i (.int .i64 (.ofNat 0)))).holds E):
  ∃(m:Nat)(J:List Dt)(a:Option Addr)(k c g:Nat)(ss:List Dt)(p:Nat)(d0 d1 d2 d3:Dt),ax E n=some (.val (.int .i64 (.ofNat m)))/\ax E e=some (.ls (K T) J)/\ax E s=some (.sl (.slice a k c) T g ss)/\ax E i=some (.val (.int .i64 (p:Int)))/\m*4<=J.length/\
   ax E (.a2 (.bin .add) n (.int .i64 (.ofNat 1)))=some (.val (.int .i64 (.ofNat (m+1))))/\
   ax E (.a2 .sn (.a2 .sn (.a2 .sn (.a2 .sn (.a2 (.tk 4) e n) (.a1 (.ld 0) (.a2 .el s i))) (.a1 (.ld 1) (.a2 .el s i))) (.a1 (.ld 2) (.a2 .el s i))) (.a1 (.ld 3) (.a2 .el s i)))=some (.ls (K T) (J.take (m*4)++[d0,d1,d2,d3]))/\
   ax E (.a2 (.bin .sub) i (.int .i64 (.ofNat 1)))=some (.val (.int .i64 ((p:Int)-1)))/\ss.take ((p+1)*4)=ss.take (p*4)++[d0,d1,d2,d3]/\(p+1)*4<=ss.length:=by
 obtain⟨m,J,a,k,c,g,ss,j,g1,g2,g3,g4,g5,g6,g7,g9,g10,g11,g12⟩:=mM Y;have w:0<=j:=QO I g4;obtain⟨p,rfl⟩:=fK w;have v:p<k:=by omega
 have f:(K T).length=4:=by rw[h];rfl
 obtain⟨x,y,str,a',k',c',E0,z,c0,c1,c2,c3,H,L,O,P⟩:=zW h g3 g4 g7 v;have A:=WQ h g3 g4 g7 v c0 c1 c2 c3;have U:=R0 g5;have r:((p:Int)+1).toNat=p+1:=by omega
 rw[r]at g12;have t:ax E (.a2 (.tk 4) e n)=some (.ls (K T) (J.take (m*4))):=by grind[ax,Go.Proofs.YtokipodjggomfaaGreatDoor.Abs.e2]
 have d:(J.take (m*4)).length=m*4:=by rw[c8];omega
 have B:(K T)[0]? =some (.int .i64):=by rw[h];rfl
 have C:(K T)[1]? =some (.int .i64):=by rw[h];rfl
 have D:(K T)[2]? =some .str:=by rw[h];rfl
 have F:(K T)[3]? =some (.sl T):=by rw[h];rfl
 have s0:=gB t c0 (q:=.int .i64) (by rw[d,f,mT];exact B) ⟨_,rfl⟩;have s1:=gB s0 c1 (q:=.int .i64) (by rw[cg,d,f,ki,tY (by omega)];exact C) ⟨_,rfl⟩;have s2:=gB s1 c2 (q:=.str) (by rw[cg,cg,d,f,ki,ki,kf,tY (by omega)];exact D) ⟨_,rfl⟩;have u:=gB s2 c3 (q:=.sl T) (by rw[cg,cg,cg,d,f,ki,ki,ki,kf,kf,tY (by omega)];exact F) ⟨_,_,_,_,_,rfl⟩;rw[mw,mw,mw]at u;simp only[kg,fH]at u;have h5:(p+1)*4<=dk (ss.take ((p+1)*4)):=R0 (by omega);have l:ax E (.a2 (.bin .add) n (.int .i64 (.ofNat 1)))=some (.val (.int .i64 (.ofNat (m+1)))):=xb (b:=1) g1 rfl (by simp only[cN];omega) (by simp only[cN];omega);have o:ax E (.a2 (.bin .sub) i (.int .i64 (.ofNat 1)))=some (.val (.int .i64 ((p:Int)-1))):=w9 (b:=1) g4 rfl (by omega) (by omega);exact⟨m,J,a,k,c,g,ss,p,_,_,_,_,g1,g2,g3,g4,g5,l,u,o,A,by omega⟩
theorem Qc{nm d f:String}{N M:Nat}(q:K T=[.int .i64,.int .i64,.str,.sl T])(r:M<=1073741824){n e s i n' l:SE}(Y:(Fact.rel nm false (gK K T (N+1) M) [n,e,s,i]).holds E)(I:(Fact.tr (.a2 (.bin .geq) i (.int .i64 (.ofNat 0)))).holds E)
  (W:(Fact.rel f false (lZ K T) [n',l,.a2 (.bin .add) n (.int .i64 (.ofNat 1)),.a2 .sn (.a2 .sn (.a2 .sn (.a2 .sn (.a2 (.tk 4) e n) (.a1 (.ld 0) (.a2 .el s i))) (.a1 (.ld 1) (.a2 .el s i))) (.a1 (.ld 2) (.a2 .el s i))) (.a1 (.ld 3) (.a2 .el s i)),s,.a2 (.bin .sub) i (.int .i64 (.ofNat 1))]).holds E)
  (t:(Fact.rel d true (lZ K T) [n',l,n,e,s,i]).holds E):False:=by
 obtain⟨m,J,a,k,c,g,ss,p,d0,d1,d2,d3,g1,g2,g3,g4,g5,g6,g7,g8,g9,g10⟩:=W7 q r Y I;obtain⟨m',m1,lS,u,a1,x,c1,v,w,y,f1,f2,f3,f4,f5,f6,f7,f8⟩:=Qb W;rw[g6]at f3;rw[g7]at f4;rw[g3]at f5;rw[g8]at f6;have f3:=ae f3;injection f3 with f3;injection f3 with _ f3
 have f4:=ae f4;injection f4 with _ f4
 have f5:=ae f5;injection f5 with _ _ _ f5
 have f6:=ae f6;injection f6 with f6;injection f6 with _ f6
 have f3:m+1=m1:=mX f3;subst f3;subst f4;subst f5;subst f6;have b:(J.take (m*4)).length=m*4:=by rw[c8];omega
 have e1:((p:Int)-1+1).toNat=p:=by omega
 have e2:((p:Int)+1).toNat=p+1:=by omega
 have o:(J.take (m*4)++[d0,d1,d2,d3]).take ((m+1)*4)=J.take (m*4)++[d0,d1,d2,d3]:=gp (by rw[cg,b];simp only[cD,c7];omega);have j:(ss.take (p*4)).length=p*4:=by rw[c8];omega
 rw[e1,o,gP.iff b]at f7;rw[e1,o,eH]at f8;refine t ⟨_,a95 f1 f2 g1 g2 g3 g4,m',m,lS,J,a,k,c,g,ss,p,rfl,?_,?_⟩
 .rw[e2,g9,gP.iff j,f7];exact⟨λh=>⟨h.1.1,h.2,h.1.2⟩,λh=>⟨⟨h.1,h.2.2⟩,h.2.1⟩⟩
 .rw[e2,g9,eH,f8];omega
theorem a4P{nm d:String}{N M:Nat}{n e s i:SE}(Y:(Fact.rel nm false (gK K T N M) [n,e,s,i]).holds E)(I:(Fact.fl (.a2 (.bin .geq) i (.int .i64 (.ofNat 0)))).holds E)(f:(Fact.rel d true (lZ K T) [n,e,n,e,s,i]).holds E):False:=by
 obtain⟨m,J,a,k,c,g,ss,j,g1,g2,g3,g4,g5,g6,g7,g9,g10,g11,g12⟩:=mM Y;have I:ax E _=_:=I;rw[xa (b:=0) rfl g4 rfl]at I;have I:=ae I;injection I with I;injection I with I;have l:=iH I;have e1:(j+1).toNat=0:=by omega
 refine f ⟨_,a95 g1 g2 g1 g2 g3 g4,m,m,J,J,a,k,c,g,ss,j,rfl,?_,?_⟩
 .rw[e1,mr,oc];exact⟨λh=>⟨h,gP.nil⟩,λh=>h.1⟩
 .rw[e1,mr,oc];simp only[dk];omega
theorem Jp{nm:String}{N:Nat}(p:K T=[.int .i64,.int .i64,.str,.sl T])(z:N+1<=1073741824){n e:SE}(Y:(Fact.rel nm false (dh K T (N+1)) [n,e]).holds E)(I:(Fact.tr (.a2 (.bin .gtr) n (.int .i64 (.ofNat 0)))).holds E):
  ∃(m:Nat)(J:List Dt)(k j:Int)(str:ByteArray)(a:Option Addr)(l c g:Nat)(ss:List Dt),ax E n=some (.val (.int .i64 (.ofNat (m+1))))/\ax E e=some (.ls (K T) J)/\(m+1)*4<=J.length/\ax E (.a2 (.bin .sub) n (.int .i64 (.ofNat 1)))=some (.val (.int .i64 (.ofNat m)))/\
   ax E (.a2 (.at 4 0) e (.a2 (.bin .sub) n (.int .i64 (.ofNat 1))))=some (.val (.int .i64 k))/\ax E (.a2 (.at 4 1) e (.a2 (.bin .sub) n (.int .i64 (.ofNat 1))))=some (.val (.int .i64 j))/\ax E (.a2 (.at 4 2) e (.a2 (.bin .sub) n (.int .i64 (.ofNat 1))))=some (.val (.string str))/\
   ax E (.a2 (.at 4 3) e (.a2 (.bin .sub) n (.int .i64 (.ofNat 1))))=some (.sl (.slice a l c) T g ss)/\tN K T a l g ss/\J.take ((m+1)*4)=J.take (m*4)++[.val (.int .i64 k),.val (.int .i64 j),.val (.string str),.sl (.slice a l c) T g ss]:=by
 obtain⟨o,J,g1,g2,g3,g4,g5⟩:=xD Y;have hk:=Yj I g1;obtain⟨m,rfl⟩:∃m,o=m+1:=⟨o-1,by simp only[cN]at hk;omega⟩;have U:=R0 g3;have f:ax E (.a2 (.bin .sub) n (.int .i64 (.ofNat 1)))=some (.val (.int .i64 (.ofNat m))):=by rw[w9 (b:=1) g1 rfl (by simp only[cN];omega) (by simp only[cN];omega)];simp only[cN,Int.natCast_add,Int.natCast_one,pz]
 obtain⟨x,y,str,a,l,c,g,ss,c0,c1,c2,c3,r,A⟩:=ui p g4 (n:=m) (by omega);have d:∀q,ax E (.a2 (.at 4 q) e (.a2 (.bin .sub) n (.int .i64 (.ofNat 1))))=J[m*4+q]? :=λq=>by
  show(ax E e).bind _=_;rw[g2,bn,f];rfl
 obtain⟨B,C,D,F,s,t,u,v,w⟩:=CJ (l:=J) (n:=m) (by omega);have e0:=ae (c0.symm.trans s);have e1:=ae (c1.symm.trans t);have h:=ae (c2.symm.trans u);have i:=ae (c3.symm.trans v);exact⟨m,J,x,y,str,a,l,c,g,ss,g1,g2,g3,f,(d 0).trans c0,(d 1).trans c1,(d 2).trans c2,(d 3).trans c3,r,by rw[w,<-e0,<-e1,<-h,<-i]⟩
theorem NL{nm:String}{n e:SE}(h:(Fact.rel nm false (qI K T) [n,e]).holds E):∃(m:Nat)(J:List Dt),ax E n=some (.val (.int .i64 (.ofNat m)))/\ax E e=some (.ls (K T) J)/\gP (J.take (m*4)):=by obtain⟨l,a,m,J,rfl,I⟩:=h;obtain⟨d1,d2,e1,e2,e3⟩:=um a;injection e1 with b e1;injection e1 with c _;subst b;subst c;exact⟨m,J,e2,e3,I⟩
theorem KY{nm j:String}{N:Nat}(o:K T=[.int .i64,.int .i64,.str,.sl T])(u:N+1<=1073741824){n e n' r:SE}(Y:(Fact.rel nm false (dh K T (N+1)) [n,e]).holds E)(I:(Fact.tr (.a2 (.bin .gtr) n (.int .i64 (.ofNat 0)))).holds E)
  (W:(Fact.rel j false (lZ K T) [n',r,.a2 (.bin .sub) n (.int .i64 (.ofNat 1)),e,.a2 (.at 4 3) e (.a2 (.bin .sub) n (.int .i64 (.ofNat 1))),.a2 (.bin .sub) (.a1 .len (.a2 (.at 4 3) e (.a2 (.bin .sub) n (.int .i64 (.ofNat 1))))) (.int .i64 (.ofNat 1))]).holds E):
  ∃(m m':Nat)(J lS:List Dt)(k i:Int)(str:ByteArray)(l:Nat)(v:List Dt),ax E n=some (.val (.int .i64 (.ofNat (m+1))))/\ax E e=some (.ls (K T) J)/\ax E n'=some (.val (.int .i64 (.ofNat m')))/\ax E r=some (.ls (K T) lS)/\
   ax E (.a2 (.at 4 0) e (.a2 (.bin .sub) n (.int .i64 (.ofNat 1))))=some (.val (.int .i64 k))/\ax E (.a2 (.at 4 1) e (.a2 (.bin .sub) n (.int .i64 (.ofNat 1))))=some (.val (.int .i64 i))/\ax E (.a2 (.at 4 2) e (.a2 (.bin .sub) n (.int .i64 (.ofNat 1))))=some (.val (.string str))/\
   ax E (.a1 .len (.a2 (.at 4 3) e (.a2 (.bin .sub) n (.int .i64 (.ofNat 1)))))=some (.val (.int .i64 l))/\
   (gP (J.take ((m+1)*4))↔gP (lS.take (m'*4))/\da k i str.size l)/\dk (J.take ((m+1)*4))=dk (lS.take (m'*4))+4:=by
 obtain⟨m,J,k,i,str,a,l,c,g,ss,g1,g2,g3,g4,g5,g6,g7,g8,g9,g10⟩:=Jp o u Y I;obtain⟨m',m1,lS,w,a1,B,c1,x,y,C,f1,f2,f3,f4,f5,f6,f7,f8⟩:=Qb W;have hk:=A3 o g9;obtain⟨z,A,d,f,D,F,s⟩:=xD Y;rw[g1]at d;rw[g2]at f;have d:=ae d;injection d with d;injection d with _ d
 have f:=ae f;injection f with _ f
 have d:m+1=z:=mX d;subst d;subst f;rw[g10,eH]at s;simp only[dk,Qr]at s;have h:ax E (.a2 (.bin .sub) (.a1 .len (.a2 (.at 4 3) e (.a2 (.bin .sub) n (.int .i64 (.ofNat 1))))) (.int .i64 (.ofNat 1)))=some (.val (.int .i64 ((l:Int)-1))):=w9 (b:=1) (qi g8) rfl (by omega) (by omega);rw[g4]at f3;rw[g2]at f4;rw[g8]at f5;rw[h]at f6;have f3:=ae f3;injection f3 with f3;injection f3 with _ f3
 have f4:=ae f4;injection f4 with _ f4
 have f5:=ae f5;injection f5 with _ _ _ f5
 have f6:=ae f6;injection f6 with f6;injection f6 with _ f6
 have f3:m=m1:=mX f3;subst f3;subst f4;subst f5;subst f6;have e1:((l:Int)-1+1).toNat=l:=by omega
 have p:(K T).length=4:=by rw[o];rfl
 have q:=g9.1;rw[p]at q;rw[e1,gp (show ss.length<=l*4 by omega)]at f7 f8;have t:(J.take (m*4)).length=m*4:=by rw[c8];omega
 refine⟨m,m',J,lS,k,i,str,l,ss,g1,g2,f1,f2,g5,g6,g7,qi g8,?_,?_⟩
 .grind[gP.iff,gP.one,Cu.iff]
 .rw[g10,eH,f8];simp only[dk,Qr];omega
theorem Jv{nm a b c:String}{N:Nat}(f:K T=[.int .i64,.int .i64,.str,.sl T])(g:N+1<=1073741824){n e n' d:SE}(Y:(Fact.rel nm false (dh K T (N+1)) [n,e]).holds E)(I:(Fact.tr (.a2 (.bin .gtr) n (.int .i64 (.ofNat 0)))).holds E)
  (W:(Fact.rel a false (lZ K T) [n',d,.a2 (.bin .sub) n (.int .i64 (.ofNat 1)),e,.a2 (.at 4 3) e (.a2 (.bin .sub) n (.int .i64 (.ofNat 1))),.a2 (.bin .sub) (.a1 .len (.a2 (.at 4 3) e (.a2 (.bin .sub) n (.int .i64 (.ofNat 1))))) (.int .i64 (.ofNat 1))]).holds E)
  (U:(Fact.rel b false (qI K T) [n,e]).holds E) (h:(Fact.rel c true (qI K T) [n',d]).holds E):False:=by
 obtain⟨m,m',J,lS,k,j,str,l,ss,g1,g2,g3,g4,g5,g6,g7,g8,g9, -⟩:=KY f g Y I W;obtain⟨m2,i,f1,f2,f3⟩:=NL U;rw[g1]at f1;rw[g2]at f2;have f1:=ae f1;injection f1 with f1;injection f1 with _ f1
 have f2:=ae f2;injection f2 with _ f2
 have f1:m+1=m2:=mX f1;subst f1;subst f2;exact h ⟨_,A5 g3 g4,m',lS,rfl,(g9.1 f3).1⟩
theorem cR{nm f:String}{N:Nat}(h:K T=[.int .i64,.int .i64,.str,.sl T])(i:N+1<=1073741824){n e:SE}(Y:(Fact.rel nm false (dh K T (N+1)) [n,e]).holds E)(I:(Fact.tr (.a2 (.bin .gtr) n (.int .i64 (.ofNat 0)))).holds E)(U:(Fact.rel f false (qI K T) [n,e]).holds E):
  ∃(k d:Int)(str:ByteArray)(l:Nat),ax E (.a2 (.at 4 0) e (.a2 (.bin .sub) n (.int .i64 (.ofNat 1))))=some (.val (.int .i64 k))/\ax E (.a2 (.at 4 1) e (.a2 (.bin .sub) n (.int .i64 (.ofNat 1))))=some (.val (.int .i64 d))/\ax E (.a2 (.at 4 2) e (.a2 (.bin .sub) n (.int .i64 (.ofNat 1))))=some (.val (.string str))/\
   ax E (.a1 .len (.a2 (.at 4 3) e (.a2 (.bin .sub) n (.int .i64 (.ofNat 1)))))=some (.val (.int .i64 l))/\da k d str.size l:=by
 obtain⟨m,J,k,d,str,a,l,c,g,ss,g1,g2,g3,g4,g5,g6,g7,g8,g9,g10⟩:=Jp h i Y I;obtain⟨m2,j,f1,f2,f3⟩:=NL U;rw[g1]at f1;rw[g2]at f2;have f1:=ae f1;injection f1 with f1;injection f1 with _ f1
 have f2:=ae f2;injection f2 with _ f2
 have f1:m+1=m2:=mX f1;subst f1;subst f2;have b:(J.take (m*4)).length=m*4:=by rw[c8];omega
 rw[g10,gP.iff b,gP.one,Cu.iff]at f3;exact⟨k,d,str,l,g5,g6,g7,qi g8,f3.2.1⟩
end
section
variable(K:TypeId->List Kd)(T:TypeId)
def oo(l:List Dt):Prop:=∃(w:Int)(m:Nat)(J:List Dt),l=[.val (.int .i64 w),.val (.int .i64 (.ofNat m)),.ls (K T) J]/\0<=w/\w+dk (J.take (m*4))<=1000000000
def gX(l:List Dt):Prop:=∃(M w:Int)(m:Nat)(J:List Dt),l=[.val (.int .i64 M),.val (.int .i64 w),.val (.int .i64 (.ofNat m)),.ls (K T) J]/\M<=w+dk (J.take (m*4))
end
section
variable{K:TypeId->List Kd}{T:TypeId}{E:G}
theorem FQ{nm:String}{w n e:SE}(h:(Fact.rel nm false (oo K T) [w,n,e]).holds E):∃(x:Int)(m:Nat)(J:List Dt),ax E w=some (.val (.int .i64 x))/\ax E n=some (.val (.int .i64 (.ofNat m)))/\ax E e=some (.ls (K T) J)/\0<=x/\x+dk (J.take (m*4))<=1000000000:=by obtain⟨l,a,x,m,J,rfl,I⟩:=h;obtain⟨d1,d2,d3,e1,e2,e3,b⟩:=JA a;injection e1 with c e1;injection e1 with d e1;injection e1 with f _;subst c;subst d;subst f;exact⟨x,m,J,e2,e3,b,I⟩
theorem Je{nm:String}{M w n e:SE}(h:(Fact.rel nm false (gX K T) [M,w,n,e]).holds E):∃(a x:Int)(m:Nat)(J:List Dt),ax E M=some (.val (.int .i64 a))/\ax E w=some (.val (.int .i64 x))/\ax E n=some (.val (.int .i64 (.ofNat m)))/\ax E e=some (.ls (K T) J)/\a<=x+dk (J.take (m*4)):=by obtain⟨l,b,a,x,m,J,rfl,I⟩:=h;obtain⟨d1,d2,d3,d4,e1,e2,e3,c,d⟩:=vH b;injection e1 with f e1;injection e1 with g e1;injection e1 with i e1;injection e1 with j _;subst f;subst g;subst i;subst j;exact⟨a,x,m,J,e2,e3,c,d,I⟩
theorem AN{nm d f g:String}{N c:Nat}(i:K T=[.int .i64,.int .i64,.str,.sl T])(j:N+1<=1073741824)(q:c<=4){w n e n' h:SE}(Y:(Fact.rel nm false (dh K T (N+1)) [n,e]).holds E)(I:(Fact.tr (.a2 (.bin .gtr) n (.int .i64 (.ofNat 0)))).holds E)
  (W:(Fact.rel d false (lZ K T) [n',h,.a2 (.bin .sub) n (.int .i64 (.ofNat 1)),e,.a2 (.at 4 3) e (.a2 (.bin .sub) n (.int .i64 (.ofNat 1))),.a2 (.bin .sub) (.a1 .len (.a2 (.at 4 3) e (.a2 (.bin .sub) n (.int .i64 (.ofNat 1))))) (.int .i64 (.ofNat 1))]).holds E)
  (U:(Fact.rel f false (oo K T) [w,n,e]).holds E) (o:(Fact.rel g true (oo K T) [.a2 (.bin .add) w (.int .i64 (.ofNat c)),n',h]).holds E):False:=by
 obtain⟨m,m',J,lS,k,r,str,l,ss,g1,g2,g3,g4,g5,g6,g7,g8, -,g9⟩:=KY i j Y I W;obtain⟨x,m2,p,f0,f1,f2,f3,f4⟩:=FQ U;rw[g1]at f1;rw[g2]at f2;have f1:=ae f1;injection f1 with f1;injection f1 with _ f1
 have f2:=ae f2;injection f2 with _ f2
 have f1:m+1=m2:=mX f1;subst f1;subst f2;have a:ax E (.a2 (.bin .add) w (.int .i64 (.ofNat c)))=some (.val (.int .i64 (x+c))):=xb (b:=c) f0 rfl (by omega) (by omega);exact o ⟨_,ID a g3 g4,x+c,m',lS,rfl,by omega,by omega⟩
theorem w6{nm h i j o:String}{N c:Nat}(q:K T=[.int .i64,.int .i64,.str,.sl T])(r:N+1<=1073741824)(A:c<=4){w M n e n' p:SE}(Y:(Fact.rel nm false (dh K T (N+1)) [n,e]).holds E)(I:(Fact.tr (.a2 (.bin .gtr) n (.int .i64 (.ofNat 0)))).holds E)
  (W:(Fact.rel h false (lZ K T) [n',p,.a2 (.bin .sub) n (.int .i64 (.ofNat 1)),e,.a2 (.at 4 3) e (.a2 (.bin .sub) n (.int .i64 (.ofNat 1))),.a2 (.bin .sub) (.a1 .len (.a2 (.at 4 3) e (.a2 (.bin .sub) n (.int .i64 (.ofNat 1))))) (.int .i64 (.ofNat 1))]).holds E)
  (U:(Fact.rel i false (oo K T) [w,n,e]).holds E) (h5:(Fact.rel j false (gX K T) [M,.a2 (.bin .add) w (.int .i64 (.ofNat c)),n',p]).holds E) (s:(Fact.rel o true (gX K T) [M,w,n,e]).holds E):False:=by
 obtain⟨m,m',J,lS,k,B,str,l,ss,g1,g2,g3,g4,g5,g6,g7,g8, -,g9⟩:=KY q r Y I W;obtain⟨x,m2,t,f0,f1,f2,f3,f4⟩:=FQ U;obtain⟨u,y,m3,v,z,d,a,f,C⟩:=Je h5;rw[g1]at f1;rw[g2]at f2;rw[g3]at a;rw[g4]at f;have f1:=ae f1;injection f1 with f1;injection f1 with _ f1
 have f2:=ae f2;injection f2 with _ f2
 have a:=ae a;injection a with a;injection a with _ a
 have f:=ae f;injection f with _ f
 have f1:m+1=m2:=mX f1;have a:m'=m3:=mX a;subst f1;subst f2;subst a;subst f;have g:ax E (.a2 (.bin .add) w (.int .i64 (.ofNat c)))=some (.val (.int .i64 (x+c))):=xb (b:=c) f0 rfl (by omega) (by omega);rw[g]at d;have d:=ae d;injection d with d;injection d with _ d
 exact s ⟨_,a2C z f0 g1 g2,u,x,m+1,J,rfl,by omega⟩
theorem X8{nm a:String}{w n e:SE}(U:(Fact.rel nm false (oo K T) [w,n,e]).holds E)(c:(Fact.rel a true (gX K T) [w,w,n,e]).holds E):False:=by obtain⟨x,m2,b,f0,f1,f2,f3,f4⟩:=FQ U;exact c ⟨_,a2C f0 f0 f1 f2,x,x,m2,b,rfl,by omega⟩
theorem vh{op:BinOp}(d:qm op=true){b:Bool}{x:SE}{a c:Int}(h:ax E (.a2 (.bin op) x (.int .i64 c))=some (.val (.bool b)))(Z:ax E x=some (.val (.int .i64 a))):Ag op a c=b:=by
 have e:Jb (.a2 (.bin op) x (.int .i64 c))=some (op,x,.i64,c):=by show(match qm op with|false=>none|true=>_)=_;rw[d]
 obtain⟨j,g1,e1⟩:=tA e h;rw[Z]at g1;have g1:=ae g1;injection g1 with g1;injection g1 with _ g1;subst g1;injection e1 with e1;injection e1 with e1;exact e1.symm
theorem bN{x:SE}{a c:Int}(h:(Fact.tr (.a2 (.bin .eql) x (.int .i64 c))).holds E)(Z:ax E x=some (.val (.int .i64 a))):a=c:=b7 (vh (op:=.eql) rfl h Z)
theorem ah{x:SE}{a c:Int}(h:(Fact.fl (.a2 (.bin .eql) x (.int .i64 c))).holds E)(Z:ax E x=some (.val (.int .i64 a))):a≠c:=iH (vh (op:=.eql) rfl h Z)
theorem jd{x:SE}{a c:Int}(h:(Fact.tr (.a2 (.bin .leq) x (.int .i64 c))).holds E)(Z:ax E x=some (.val (.int .i64 a))):a<=c:=b7 (vh (op:=.leq) rfl h Z)
theorem n3{x:SE}{a c:Int}(h:(Fact.fl (.a2 (.bin .leq) x (.int .i64 c))).holds E)(Z:ax E x=some (.val (.int .i64 a))):¬a<=c:=iH (vh (op:=.leq) rfl h Z)
theorem fR{x:SE}{a c:Int}(h:(Fact.tr (.a2 (.bin .geq) x (.int .i64 c))).holds E)(Z:ax E x=some (.val (.int .i64 a))):c<=a:=b7 (vh (op:=.geq) rfl h Z)
theorem wI{x:SE}{a c:Int}(h:(Fact.fl (.a2 (.bin .geq) x (.int .i64 c))).holds E)(Z:ax E x=some (.val (.int .i64 a))):¬c<=a:=iH (vh (op:=.geq) rfl h Z)
theorem a1q{x:SE}{a c:Int}(h:(Fact.tr (.a2 (.bin .gtr) x (.int .i64 c))).holds E)(Z:ax E x=some (.val (.int .i64 a))):c<a:=b7 (vh (op:=.gtr) rfl h Z)
theorem cU{x:SE}{s:ByteArray}(h:ax E x=some (.val (.string s))):ax E (.a1 .len x)=some (.val (.int .i64 s.size)):=by show(ax E x).bind _=_;rw[h];rfl
theorem a52{b:Bool}{x:SE}{s:ByteArray}(h:ax E (.a2 (.bin .eql) x (.str []))=some (.val (.bool b)))(Z:ax E x=some (.val (.string s))):(b=true↔s.size=0):=by
 obtain⟨u,v,q,g1,g2,g3,g4⟩:=tt (p:=true) rfl h;rw[Z]at g1;have g1:=ae g1;injection g1 with g1
 have g2:=ae (show some (Dt.val (.string ⟨⟨[]⟩⟩))=some _ from g2);injection g2 with g2;subst g1;subst g2;injection g3 with g3;injection g3 with g3;have g3:b=q:=g3;rw[g3,g4];constructor
 .intro e;injection e with e;rw[e];rfl
 .intro e;have:s=⟨⟨[]⟩⟩:=by
   cases s with
   |mk d=>have a:d.size=0:=e;rw[Array.eq_empty_of_size_eq_zero a]
  rw[this]
theorem nZ{x:SE}{s:ByteArray}(h:(Fact.tr (.a2 (.bin .eql) x (.str []))).holds E)(Z:ax E x=some (.val (.string s))):s.size=0:=(a52 h Z).1 rfl
theorem n0{x:SE}{s:ByteArray}(h:(Fact.fl (.a2 (.bin .eql) x (.str []))).holds E)(Z:ax E x=some (.val (.string s))):s.size≠0:=λe=>by
 have:=(a52 h Z).2 e;cases this
end
def pY(l:List Dt):Prop:=∃a b c d,l=[a,b,c,d]/\Cu a b c d
section
variable{K:TypeId->List Kd}{T:TypeId}{E:G}
theorem K6{nm:String}{B:Nat}(u:K T=[.int .i64,.int .i64,.str,.sl T]){x y z t:SE}(I:(Fact.rel nm false (oG K T B) [x,y,z,t]).holds E):∃(k n:Int)(s:ByteArray)(a:Option Addr)(l c g:Nat)(ss:List Dt),ax E x=some (.val (.int .i64 k))/\ax E y=some (.val (.int .i64 n))/\ax E z=some (.val (.string s))/\ax E t=some (.sl (.slice a l c) T g ss)/\
  tN K T a l g ss/\Dt.lT K (K T) 0 [.val (.int .i64 k),.val (.int .i64 n),.val (.string s),.sl (.slice a l c) T g ss]/\dk ss+4<B/\
  ax E (.a2 .sn (.a2 .sn (.a2 .sn (.a2 .sn (.a1 (.nl [.int .i64,.int .i64,.str,.sl T]) (.bool true)) x) y) z) t)=some (.ls (K T) [.val (.int .i64 k),.val (.int .i64 n),.val (.string s),.sl (.slice a l c) T g ss]):=by
 obtain⟨li,C, -,Y,W⟩:=I;obtain⟨a,b,c,d,rfl,e1,f,h,A⟩:=vH C;have e:(K T).length=4:=by rw[u];rfl
 have v:ax E (.a1 (.nl [.int .i64,.int .i64,.str,.sl T]) (.bool true))=some (.ls (K T) []):=by rw[u];rfl
 have j:∀(q:Nat)d',q<4->([a,b,c,d]:List Dt)[q]? =some d'->∃k,(K T)[q]? =some k/\k.fits d':=by
  intro q d' D w;have:=(Y.get w).1
  rwa [eD,e,mv D]at this
 obtain⟨F,m,f0⟩:=j 0 a (by omega) rfl;obtain⟨G,o,f1⟩:=j 1 b (by omega) rfl;obtain⟨H,p,f2⟩:=j 2 c (by omega) rfl;obtain⟨J,r,f3⟩:=j 3 d (by omega) rfl;have s0:=gB v e1 (q:=F) (by rw[e];exact m) f0;have s1:=gB s0 f (q:=G) (by rw[e];exact o) f1;have s2:=gB s1 h (q:=H) (by rw[e];exact p) f2;have L:=gB s2 A (q:=J) (by rw[e];exact r) f3;have w:=(Y.get (i:=3) (d:=d) rfl).2;rw[u]at m o p r;simp only[dj,og,aD]at m o p r;subst m;subst o;subst p;subst r;obtain⟨k,rfl⟩:=f0;obtain⟨n,rfl⟩:=f1;obtain⟨s,rfl⟩:=f2;obtain⟨a',l,c',g,ss,rfl,g1⟩:=NP f3 w;simp only[dk,Qr]at W;exact⟨k,n,s,a',l,c',g,ss,e1,f,h,A,g1,Y,by omega,L⟩
theorem QX{nm:String}{x y z t:SE}(h:(Fact.rel nm false pY [x,y,z,t]).holds E):∃a b c d,ax E x=some a/\ax E y=some b/\ax E z=some c/\ax E t=some d/\Cu a b c d:=by obtain⟨l,e,a,b,c,d,rfl,I⟩:=h;obtain⟨d1,d2,d3,d4,e1,e2,e3,f,g⟩:=vH e;injection e1 with i e1;injection e1 with j e1;injection e1 with k e1;injection e1 with m _;subst i;subst j;subst k;subst m;exact⟨a,b,c,d,e2,e3,f,g,I⟩
end
section
variable{K:TypeId->List Kd}{T:TypeId}{E:G}
theorem W6{nm:String}{M:Nat}{n e s i:SE}(h:(Fact.rel nm false (gK K T 0 M) [n,e,s,i]).holds E):False:=by grind[mM]
theorem Wz{nm:String}{n e:SE}(h:(Fact.rel nm false (dh K T 0) [n,e]).holds E):False:=by grind[xD]
end
theorem LS{P:Program}{c:Nat->bX}{B:Nat}(z:fy P (c 0))(h:∀N,N+1<=B->fy P (c N)->fy P (c (N+1))):∀N,N<=B->fy P (c N)
 |0,_=>z
 |N+1,a=>h N a (LS z h N (by omega))
open Go.ChangeShapes
theorem FY{H:Type}{vn:TypeId×Value->H}{P:Program}{w:World}{base:Nat}{spare:Nat->Bool}{n:Nat}{t:TypeId}{cs:List Value}{name:String}{d:DataW H}{p:List MemPlace}{ms:Array (String×TypeId)}
  (b:P.underlying t=some (.interface ms)) (h:DataW.trod vn P w base spare false n t cs=some (.iface name d,p)):∃u v,cs=[.iface u v]/\P.typeName? 3 u=some name:=by
 cases n with
 |zero=>simp[DataW.trod]at h
 |succ n=>
  unfold DataW.trod at h;rw[b]at h;simp only at h;split at h<;>first|(cases h;done)|(rename_i heq;injection heq with heq;cases heq;done)|skip
  rename_i u v heq;cases a:P.typeName? 3 u with
  |none=>rw[a]at h;cases h
  |some q=>rw[a]at h;simp only[bk,cB,DataW.iface.injEq]at h;obtain⟨_,_,⟨⟨rfl,_⟩,_⟩⟩:=h;exact⟨u,v,rfl,a⟩
theorem Me{P:Program}{w:World}{n:String}{d:DataW Unit}:∀{l:List (String×DataW Unit)}{ps:List MemPlace},DataW.LaidVars P w l ps->(n,d)∈l->
  ∃g t cs fuel p,P.globalNamed n=some g/\(P.globals[g]?).map (·.type)=some t/\w.var? P n=some cs/\DataW.trod (λ_=>()) P w 0 (λ_=>true) false fuel t cs.toList=some (d,p)/\∀x∈MemPlace.row ⟨g,0,none⟩ cs.size,x∈ps
 | [],_,_,h=>by cases h
 |(m,e)::l,ps,f,b=>by
  obtain⟨g,t,cs,fuel,p,q,I,Y,W,U,h5,rfl⟩:=f;cases b with
  |head=>exact⟨g,t,cs,fuel,p,I,Y,W,U,λx Z=>wZ _ (wZ _ Z)⟩
  |tail _ b=>obtain⟨g',Q,c,a,p',i,j,k,o,r⟩:=Me h5 b;exact⟨g',Q,c,a,p',i,j,k,o,λx Z=>List.mem_append_right _ (r x Z)⟩
theorem BN{P:Program}{w:World}{laid:List (String×DataW Unit)}(h:laidMetH P laid w):laidMet P (laid.filter λx=>x.2.handleName?.isNone) w:=by
 unfold laidMetH at h;split at h
 .rename_i b;have:(laid.filter λx=>x.2.handleName?.isNone)=laid:=by
   rw[List.filter_eq_self];intro x a;cases c:x.2.handleName? with
   |none=>rfl
   |some s=>
    have:x∈laid.filter λx=>x.2.handleName?.isSome:=List.mem_filter.2 ⟨a,by rw[c];rfl⟩
    rw[b]at this;cases this
  rw[this];exact h
 .exact h.1
theorem Hd{P:Program}{w:World}{laid:List (String×DataW Unit)}(h:laidMetH P laid w){n name:String}{d:DataW Unit}(Z:(n,DataW.iface name d)∈laid)(hh:(DataW.iface name d:DataW Unit).handleName?.isNone=true)
  {g t:Nat} (e:P.globalNamed n=some g) (i:(P.globals[g]?).map (·.type)=some t) {ms:Array (String×TypeId)} (j:P.underlying t=some (.interface ms)):
  ∃u v,w.cell? ⟨g,0,none⟩=some (.iface u v)/\P.typeName? 3 u=some name/\Value.okWide P w .any 0 u v:=by
 have k:laidMet P (laid.filter λx=>x.2.handleName?.isNone) w:=BN h;obtain⟨ps,l, -,b⟩:=k;obtain⟨g',Q,cs,fuel,p,I,Y,W,U,h5⟩:=Me l (List.mem_filter.2 ⟨Z,hh⟩);rw[e]at I;obtain rfl:=ae I;rw[i]at Y;obtain rfl:=ae Y;obtain⟨u,v,a,m⟩:=FY j U;have f:w.cell? ⟨g,0,none⟩=some (.iface u v):=by
  rw[World.var?_cell e W 0];have:cs.toList[0]? =some (Value.iface u v):=by rw[a];rfl
  simpa using this
 have c:cs.size=1:=by rw[<-y9,a];rfl
 refine⟨u,v,f,m,(b g 0 (h5 _ ?_)).2 u v f⟩;rw[c];simp[MemPlace.row]
theorem AP{P:Program}{w:World}{g t:Nat}{z:Value}(h:w.ShapedOpen P)(a:Nat.blt g P.globals.size=true)
  (b:(((begin P (λ_ _=>0) default).world.heap[g]?).bind Obj.row?)=some (#[z],t)):∃(vs:Array Value)(v:Value),w.heap[g]? =some (.cells vs t (0,0))/\vs[0]? =some v:=by
 obtain⟨cs,I,Y, -⟩:=h.1 g _ t (bZ a) b;have c:cs.size=1:=Y;exact⟨cs,cs[0],I,fb (by omega)⟩
theorem PV{n:Nat}{V:Nat->Option Value}{L:List Dt}{g:Nat}{m:Int}(a:g<n)(b:V g=some (.int .i64 m)):ai (Nh n V L) (.cE (.int .i64) (.var g))=some (.int .i64 m):=
 eA (d:=.val (.int .i64 m)) (by simp only[ax,Nh,aJ a,bn,b,cM]) ⟨_,rfl⟩ rfl
def pd(P:Program)(u:EG)(pT pS:PD):bX:=
 { a1i P u pT with
   facts:=[.rel "" false pT [.var u.nG,.var (u.nG+1),.var (u.nG+2),.var (u.nG+3)],.rel "" false pS [.var u.nG,.var (u.nG+1),.var (u.nG+2),.var (u.nG+3)]],
   outs:=[{ res:=.int .i64 0,post:=[],facts:=[],m:=0 }] }
section
variable{K:TypeId->List Kd}{T:TypeId}{E:G}
abbrev a7a(T:TypeId)(x y z t:SE):SE:=.a2 .sn (.a2 .sn (.a2 .sn (.a2 .sn (.a1 (.nl [.int .i64,.int .i64,.str,.sl T]) (.bool true)) x) y) z) t
theorem a3j{nm b d:String}{B:Nat}(i:K T=[.int .i64,.int .i64,.str,.sl T]){x y z t:SE}(I:(Fact.rel nm false (oG K T B) [x,y,z,t]).holds E)(W:(Fact.rel b false pY [x,y,z,t]).holds E)
  (j:(Fact.rel d true (qI K T) [.int .i64 (.ofNat 1),a7a T x y z t]).holds E):False:=by
 obtain⟨k,n,s,a,l,c,g,ss,e1,e,f,m,g1,g2,g3,g4⟩:=K6 i I;obtain⟨a1,o,c1,d1,f1,f2,f3,f4,h⟩:=QX W;rw[e1]at f1;rw[e]at f2;rw[f]at f3;rw[m]at f4;obtain rfl:=ae f1;obtain rfl:=ae f2;obtain rfl:=ae f3;obtain rfl:=ae f4;refine j ⟨_,A5 rfl g4,1,_,rfl,?_⟩;rw[gp (by simp)];exact gP.one.2 h
theorem a3i{nm b:String}{B:Nat}(d:K T=[.int .i64,.int .i64,.str,.sl T])(i:B<=1000000){x y z t:SE}(I:(Fact.rel nm false (oG K T B) [x,y,z,t]).holds E)
  (e:(Fact.rel b true (oo K T) [.int .i64 (.ofNat 0),.int .i64 (.ofNat 1),a7a T x y z t]).holds E):False:=by
 obtain⟨k,n,s,a,l,c,g,ss,e1,f,h,j,g1,g2,g3,g4⟩:=K6 d I;refine e ⟨_,ID rfl rfl g4,0,1,_,rfl,by decide,?_⟩;rw[gp (by simp)];simp only[dk,Qr];omega
theorem Wf{nm f:String}{B:Nat}(j:K T=[.int .i64,.int .i64,.str,.sl T])(u:B<=60000){x y z t v:SE}(I:(Fact.rel nm false (oG K T B) [x,y,z,t]).holds E)
  (W:(Fact.rel f false (gX K T) [v,.int .i64 (.ofNat 0),.int .i64 (.ofNat 1),a7a T x y z t]).holds E) (o:(Fact.tr (.a2 (.bin .gtr) v (.int .i64 (.ofNat 65536)))).holds E):False:=by
 obtain⟨k,n,s,a,l,c,g,ss,e1,p,q,w,g1,g2,g3,g4⟩:=K6 j I;obtain⟨A,C,m,J,r,d,b,e,i⟩:=Je W;rw[g4]at e;have e:=ae e;injection e with _ e
 have d:=ae (show some (Dt.val (.int .i64 (.ofNat 0)))=some _ from d);injection d with d;injection d with _ d;have b:=ae (show some (Dt.val (.int .i64 (.ofNat 1)))=some _ from b);injection b with b;injection b with _ b;have b:1=m:=mX b;subst d;subst b;subst e;have h:=a1q o r;rw[gp (by simp)]at i;simp only[dk,Qr]at i;simp only[cN]at h i;omega
end
structure jy where
 a7Q:Nat
 a7P:Nat
 a7O:Nat
 a0O:Nat
 UM:Nat
 vm:Nat
 F2:Nat
 Mv:Nat
 Vz:Nat
 I2:Nat
 I3:Nat
 En:Nat
 Yo:Nat
 nG:Nat
def Wc(l:List Dt):Prop:=∃s:ByteArray,l=[.val (.string s)]/\s.size<4294967281
def Zx(b:Bool)(l:List Dt):Prop:=∃s t:ByteArray,l=[.val (.string s),.val (.string t)]/\Lib.contains s.data.toList t.data.toList=b
def OJ(l:List Dt):Prop:=∃s t a b:ByteArray,l=[.val (.string s),.val (.string t),.val (.string a),.val (.string b)]/\Lib.cut s.data.toList t.data.toList=(a.data.toList,b.data.toList,true)
def OK(l:List Dt):Prop:=∃s t:ByteArray,l=[.val (.string s),.val (.string t)]/\Lib.cut s.data.toList t.data.toList=(s.data.toList,[],false)
def JQ(l:List Dt):Prop:=∃(s:ByteArray)(c n:Int),l=[.val (.string s),.val (.int .u8 c),.val (.int .i64 n)]/\n=Lib.indexByte s.data.toList c.toNat.toUInt8
def a68(l:List Dt):Prop:=∃n:Int,l=[.val (.int .i64 n)]/\ -9223372036854775808<=n/\n<=9223372036854775807
def Zw(l:List Dt):Prop:=∃(n:Int)(s:ByteArray),l=[.val (.int .i64 n),.val (.string s)]/\s.data.toList=Lib.itoa n
def nO(l:List Dt):Prop:=∃(s:ByteArray)(n:Int),l=[.val (.string s),.val (.int .i64 n)]/\Lib.atoiAll s.data.toList=.ok n
def iR(l:List Dt):Prop:=∃s:ByteArray,l=[.val (.string s)]/\∀n,Lib.atoiAll s.data.toList≠.ok n
def So(t g:Nat):Nat×CB:=(g,.cells t [.cE (.int .i64) (.var g)] 0 true false)
def Pz(t g:Nat):Nat×CB:=(g,.cells t [.cE .WI (.var g)] 0 true false)
def a0D(t g:Nat):Nat×CB:=(g,.Ie t .u64 Lib.pow10Tab)
def nY(u:jy):bX:=
 { fn:=u.a7Q,nt:=2,round:=none,t:=[(0,.cE .str (.var u.nG)),(1,.cE .str (.var (u.nG+1)))],todo:=[],n:=u.nG+2,pre:=[So u.F2 u.vm],
   facts:=[.rel "" false Wc [.var u.nG]],
   outs:=[{ res:=.bool true,post:=[],facts:=[.rel "" false (Zx true) [.var u.nG,.var (u.nG+1)]],m:=0 },{ res:=.bool false,post:=[],facts:=[.rel "" false (Zx false) [.var u.nG,.var (u.nG+1)]],m:=0 }] }
def HQ(u:jy):bX:=
 { fn:=u.a7P,nt:=2,round:=none,t:=[(0,.cE .str (.var u.nG)),(1,.cE .str (.var (u.nG+1)))],todo:=[],n:=u.nG+2,pre:=[So u.F2 u.vm],
   facts:=[.rel "" false Wc [.var u.nG]],
   outs:=[{ res:=.ji [.cE .str (.var (u.nG+2)),.cE .str (.var (u.nG+3)),.bool true],post:=[],facts:=[.rel "" false OJ [.var u.nG,.var (u.nG+1),.var (u.nG+2),.var (u.nG+3)]],m:=2 },
    { res:=.ji [.cE .str (.var u.nG),.str [],.bool false],post:=[],facts:=[.rel "" false OK [.var u.nG,.var (u.nG+1)]],m:=0 }] }
def Ft(u:jy):bX:=
 { fn:=u.a7O,nt:=2,round:=none,t:=[(0,.cE .str (.var u.nG)),(1,.cE (.int .u8) (.var (u.nG+1)))],todo:=[],n:=u.nG+2,pre:=[],facts:=[],
   outs:=[{ res:=.cE (.int .i64) (.var (u.nG+2)),post:=[],facts:=[.rel "" false JQ [.var u.nG,.var (u.nG+1),.var (u.nG+2)]],m:=1 }] }
def Cg(u:jy):bX:=
 { fn:=u.a0O,nt:=1,round:=none,t:=[(0,.cE (.int .i64) (.var u.nG))],todo:=[],n:=u.nG+1,pre:=[a0D u.Vz u.Mv],
   facts:=[.rel "" false a68 [.var u.nG]],
   outs:=[{ res:=.cE .str (.var (u.nG+1)),post:=[],facts:=[.rel "" false Zw [.var u.nG,.var (u.nG+1)]],m:=1 }] }
def xM(u:jy):bX:=
 { fn:=u.UM,nt:=1,round:=none,t:=[(0,.cE .str (.var u.nG))],todo:=[],n:=u.nG+1,pre:=[Pz u.En u.I2,Pz u.En u.I3],
   facts:=[.rel "" false Wc [.var u.nG]],
   outs:=[{ res:=.ji [.cE (.int .i64) (.var (u.nG+1)),.qc],post:=[],facts:=[.rel "" false nO [.var u.nG,.var (u.nG+1)]],m:=1 },
    { res:=.ji [.cE (.int .i64) (.var (u.nG+1)),.iface u.Yo (.cE .any (.var (u.nG+2)))],post:=[],facts:=[.rel "" false iR [.var u.nG]],m:=2 }] }
open Go.RowKit (Below)
open Go.Sort (grow)
theorem r7{w M:World}(h:Below w.heap.size w M):Kept w M:=by
 refine⟨h.size,h.tape,h.os,h.output,λk o hk=>?_⟩;have a:k<w.heap.size:=by grind
 rw[h.block k a];exact hk
theorem R6(w:World)(n:Nat):Kept w (w.drewN n):=⟨bD _,rfl,rfl,rfl,λ_ _ h=>h⟩
theorem WE(w:World)(n:Nat)(os:Array Obj):Kept w (grow (w.drewN n) os):=by
 refine⟨by show _<=(w.heap++os).size;rw[AJ];exact Nat.le_add_right _ _,rfl,rfl,rfl,λk o h=>?_⟩;have a:k<w.heap.size:=by grind
 show(w.heap++os)[k]? =some o;rw[CC a];exact h
theorem Step.a0C {C:Ctx} {base:Nat} {w:World}:∀(ds:List Value){E:G}{s:S},Rel C base E s w->(∀v∈ds,Ex v=true)->
  ∃a,Step C base E s w a ⟨s.h,s.next+ds.length,s.pc⟩ w/\∀i v,ds[i]? =some v->ax a (.var (s.next+i))=some (.val v)
 | [],E,s,c,_=>⟨E,Step.refl c,λi v h=>by cases h⟩
 |d::ds,E,s,c,f=>by
  have st:=Step.ghost c (.val d) λ_=>f d bB
  obtain⟨a,b,I⟩:=Step.a0C ds (s:=⟨s.h,s.next+1,s.pc⟩) st.rel λv g=>f v (bQ _ g)
  refine⟨a,?_,λi v V=>?_⟩
  .have:=st.trans b;have e:s.next+1+ds.length=s.next+(d::ds).length:=by simp only[cD];omega
   simp only[e]at this;exact this
  .cases i with
   |zero=>simp only[dj,aD]at V;subst V;refine bG b.grow _ _ ?_;simp[ax]
   |succ i=>
    have:=I i v (by simpa using V);have e:s.next+1+i=s.next+(i+1):=by omega
    simp only[e]at this;exact this
theorem tg{P:Program}{c:bX}(l:∃fn,P.funcs[c.fn]? =some fn)(t:c.round=none)(d:∀o∈c.outs,o.gv=false/\o.post=[])
  (h:∀(base:Nat)(E:G)(a:List Value)(w:World),Rel (iD P (λ_=>false) []) base E c.S w->aW E c.nt c.tr ⟨a⟩->a.length=c.nt->
    Calls P c.fn ⟨a⟩ w λe M=>Kept w M/\∃o,o∈c.outs/\∃(ds:List Value)(k:Value),ds.length=o.m/\(∀v∈ds,Ex v=true)/\
     (∀b:G,Grow E b->(∀i v,ds[i]? =some v->ax b (.var (c.n+i))=some (.val v))->(∀f∈o.facts,f.pos=true/\f.holds b)/\ai b o.res=some k)/\e=.returned k):j3 P c:=by
 refine⟨l,t,λo ho=>(d o ho).1,λbase E a w r u y=>wW (h base E a w r u y) ?_⟩;rintro e M ⟨hk,o,ho,ds,k,A,j,p,rfl⟩;have st:=Step.kept r hk;obtain⟨b,q,z⟩:=Step.a0C ds st.rel j;have g:=st.trans q;obtain⟨I,Y⟩:=p b g.grow z;refine⟨o,ho,b,_,λi=>i,.var,k,g,λi _=>⟨rfl,rfl⟩,λi V=>V,?_,?_,λi V=>?_,λf s=>⟨(I f s).1,Hz.2 (I f s).2⟩,?_,rfl⟩
 .rw[(d o ho).2];intro x Z;cases Z
 .rw[(d o ho).2];intro x Z;cases Z
 .have:b i=none:=g.rel.new i (by show c.n+ds.length<=i;omega);simp only[ax,this,Option.bind_none]
 .exact(Ac o.res).trans Y
theorem rH{E:G}{nt:Nat}{t:Tr AV}{a:List Value}(h:aW E nt t ⟨a⟩){d:Nat}{k:Kd}{e:SE}(b:t.get d=some (.cE k e)):∃x,ax E e=some x/\k.fits x/\a[d]? =some x.v:=by
 obtain⟨-,c,Y,W⟩:=h.2.1 d _ b;rcases W with W|W
 .cases W
 .grind[ek]
theorem vz{P:Program}{base:Nat}{E:G}{s:S}{w:World}(m:Rel (iD P (λ_=>false) []) base E s w){g t:Nat}{k:Kd}{e:SE}{st:Bool}(p:g<P.globals.size)(q:s.h.get g=some (.cells t (Tr.ofList [.cE k e]) 1 0 [] st false)):
  ∃x,ax E e=some x/\k.fits x/\w.cell? ⟨g,0,none⟩=some x.v:=by
 obtain⟨l,o,r,ho,b⟩:=m.aO g _ q;obtain⟨O,d,f,i⟩:=m.gm g p;rw[r]at d;obtain rfl:=ae d;obtain⟨vs,lo,V,rfl, -,a, -⟩:=b;obtain⟨c,n,j⟩:=a 0 _ (by omega) (by rw[Tr.eP];rfl);rcases j with h|h
 .cases h
 .obtain⟨x,U,h5,rfl⟩:=ek h;refine⟨x,U,h5,?_⟩;rw[f]at ho;rw[i]at n;simpa[World.cell?,ho]using n
theorem PY{c:bX}{x:Nat×CB}{l:List (Nat×CB)}(h:c.pre=l++[x]):c.S.h.get x.1=some (x.2.sub Xg .var).aO:=by
 have key:∀(l:List (Nat×CB))(h:Tr gn),(NV Xg .var (l++[x]) h).get x.1=some (x.2.sub Xg .var).aO:=by
  intro l;induction l with
  |nil=>intro h;exact Tr.get_set_same _ _ _
  |cons y l a=>intro h;exact a _
 unfold bX.S;rw[h];exact key l .nil
theorem aby{c:bX}{x y:Nat×CB}(h:c.pre=[x,y])(a:y.1≠x.1):c.S.h.get x.1=some (x.2.sub Xg .var).aO:=by unfold bX.S;rw[h];exact(Tr.get_set_other _ _ a).trans (Tr.get_set_same _ _ _)
theorem aaU{a:List Value}(h:a.length=1){x:Value}(c:a[0]? =some x):a=[x]:=by
 match a,h with
 | [b],_=>simpa using c
theorem zE{a:List Value}(h:a.length=2){x y:Value}(d:a[0]? =some x)(I:a[1]? =some y):a=[x,y]:=by
 match a,h with
 | [b,c],_=>simp at d I;rw[d,I]
section
variable{P:Program}(u:jy)
theorem Mc(g:∃fn,P.funcs[u.a7Q]? =some fn)(z:u.vm<P.globals.size)
  (h:∀(s sub:ByteArray)(m:Int)(w:World),s.size<4294967281->w.cell? ⟨u.vm,0,none⟩=some (.int .i64 m)->
    Calls P u.a7Q #[.string s,.string sub] w λe M=>e=.returned (.bool (Lib.contains s.data.toList sub.data.toList))/\M=w):j3 P (nY u):=by
 refine tg g rfl (λo ho=>?_) λbase E i w p q A=>?_
 .grind[nY]
 .obtain⟨_,j,⟨s,rfl⟩,B⟩:=rH q (d:=0) (k:=.str) (e:=.var u.nG) rfl;obtain⟨_,r,⟨t,rfl⟩,C⟩:=rH q (d:=1) (k:=.str) (e:=.var (u.nG+1)) rfl;obtain rfl:=zE A B C;obtain⟨_,_,⟨m,rfl⟩,D⟩:=vz p (t:=u.F2) (k:=.int .i64) (e:=.var u.vm) (st:=true) z (PY (c:=nY u) (x:=So u.F2 u.vm) (l:=[]) rfl);obtain⟨-,ds,v,F,rfl,G⟩:=p.pc _ bB;simp only[jj,j,bn,cM,aD,pj,Dt.val.injEq,vv,fG]at v;subst v;refine wW (h s t m w G D) ?_;rintro e M ⟨rfl,rfl⟩;refine⟨⟨bD _,rfl,rfl,rfl,λ_ _ h=>h⟩,?_⟩;cases y:Lib.contains s.data.toList t.data.toList with
  |true=>refine⟨_,bB,[],.bool true,rfl,λ_ h=>(by cases h),λn a _=>⟨λf b=>?_,rfl⟩,rfl⟩;simp only[cC,fJ,fm]at b;subst b;exact⟨rfl,_,by simp only[jj,bG a _ _ j,bG a _ _ r,bn,cM],s,t,rfl,y⟩
  |false=>refine⟨_,bQ _ bB,[],.bool false,rfl,λ_ h=>(by cases h),λn a _=>⟨λf b=>?_,rfl⟩,rfl⟩;simp only[cC,fJ,fm]at b;subst b;exact⟨rfl,_,by simp only[jj,bG a _ _ j,bG a _ _ r,bn,cM],s,t,rfl,y⟩
theorem a3E(j:∃fn,P.funcs[u.a7P]? =some fn)(I:u.vm<P.globals.size)
  (h:∀(s sep:ByteArray)(m:Int)(w:World),s.size<4294967281->w.cell? ⟨u.vm,0,none⟩=some (.int .i64 m)->
    Calls P u.a7P #[.string s,.string sep] w λe M=>e=.returned (.tuple #[.string ⟨(Lib.cut s.data.toList sep.data.toList).1.toArray⟩,.string ⟨(Lib.cut s.data.toList sep.data.toList).2.1.toArray⟩,.bool (Lib.cut s.data.toList sep.data.toList).2.2])/\∃n,M=w.drewN n):j3 P (HQ u):=by
 refine tg j rfl (λo ho=>?_) λbase E p w q r J=>?_
 .grind[HQ]
 .obtain⟨_,i,⟨s,rfl⟩,K⟩:=rH r (d:=0) (k:=.str) (e:=.var u.nG) rfl;obtain⟨_,y,⟨t,rfl⟩,L⟩:=rH r (d:=1) (k:=.str) (e:=.var (u.nG+1)) rfl;obtain rfl:=zE J K L;obtain⟨_,_,⟨m,rfl⟩,N⟩:=vz q (t:=u.F2) (k:=.int .i64) (e:=.var u.vm) (st:=true) I (PY (c:=HQ u) (x:=So u.F2 u.vm) (l:=[]) rfl);obtain⟨-,ds,z,F,rfl,O⟩:=q.pc _ bB;simp only[jj,i,bn,cM,aD,pj,Dt.val.injEq,vv,fG]at z;subst z;refine wW (h s t m w O N) ?_;rintro e M ⟨rfl,n,rfl⟩;refine⟨R6 w n,?_⟩;by_cases C:0<=Lib.index s.data.toList t.data.toList
  .have e:Lib.cut s.data.toList t.data.toList=(s.data.toList.take (Lib.index s.data.toList t.data.toList).toNat,s.data.toList.drop ((Lib.index s.data.toList t.data.toList).toNat+t.data.toList.length),true):=by
     unfold Lib.cut;rw[aJ C]
   generalize s.data.toList.take (Lib.index s.data.toList t.data.toList).toNat=A at e;generalize s.data.toList.drop ((Lib.index s.data.toList t.data.toList).toNat+t.data.toList.length)=B at e;rw[e];refine⟨_,bB,[.string ⟨A.toArray⟩,.string ⟨B.toArray⟩],_,rfl,?_,λb a D=>?_,rfl⟩
   .intro v G;simp only[cC,fJ,fm]at G;rcases G with rfl|rfl<;>rfl
   .have H:ax b (.var (u.nG+2))=some (.val (.string ⟨A.toArray⟩)):=D 0 _ rfl;have z2:ax b (.var (u.nG+3))=some (.val (.string ⟨B.toArray⟩)):=D 1 _ rfl;refine⟨λf g=>?_,fo (Option.map λl=>Value.tuple ⟨l⟩) (aL.2 ⟨_,_,ir (k:=.str) H ⟨_,rfl⟩,aL.2 ⟨_,_,ir (k:=.str) z2 ⟨_,rfl⟩,aL.2 ⟨_,_,rfl,rfl,rfl⟩,rfl⟩,rfl⟩)⟩;simp only[cC,fJ,fm]at g;subst g;exact⟨rfl,_,by simp only[jj,bG a _ _ i,bG a _ _ y,H,z2,bn,cM],s,t,⟨A.toArray⟩,⟨B.toArray⟩,rfl,e⟩
  .have e:Lib.cut s.data.toList t.data.toList=(s.data.toList,[],false):=by
     unfold Lib.cut;rw[av C]
   rw[e];refine⟨_,bQ _ bB,[],.tuple #[.string s,.string ⟨[].toArray⟩,.bool false],rfl,λ_ h=>(by cases h),λb a _=>⟨λf g=>?_,?_⟩,rfl⟩
   .simp only[cC,fJ,fm]at g;subst g;exact⟨rfl,_,by simp only[jj,bG a _ _ i,bG a _ _ y,bn,cM],s,t,rfl,e⟩
   .exact fo (Option.map λl=>Value.tuple ⟨l⟩) (aL.2 ⟨_,_,ir (k:=.str) (bG a _ _ i) ⟨_,rfl⟩,aL.2 ⟨_,_,rfl,aL.2 ⟨_,_,rfl,rfl,rfl⟩,rfl⟩,rfl⟩)
theorem a3D(b:∃fn,P.funcs[u.a7O]? =some fn)
  (h:∀(s:ByteArray)(c:Int)(w:World),Calls P u.a7O #[.string s,.int .u8 c] w λe M=>e=.returned (.int .i64 (Lib.indexByte s.data.toList c.toNat.toUInt8))/\M=w):j3 P (Ft u):=by
 refine tg b rfl (λo ho=>?_) λbase E g w z j p=>?_
 .grind[Ft]
 .obtain⟨_,q,⟨s,rfl⟩,r⟩:=rH j (d:=0) (k:=.str) (e:=.var u.nG) rfl;obtain⟨_,t,⟨c,rfl⟩,x⟩:=rH j (d:=1) (k:=.int .u8) (e:=.var (u.nG+1)) rfl;obtain rfl:=zE p r x;refine wW (h s c w) ?_;rintro e M ⟨rfl,rfl⟩;refine⟨⟨bD _,rfl,rfl,rfl,λ_ _ h=>h⟩,_,bB,[.int .i64 (Lib.indexByte s.data.toList c.toNat.toUInt8)],_,rfl,?_,λi a y=>?_,rfl⟩
  .intro v l;simp only[cC,fJ,fm]at l;subst l;rfl
  .have m:ax i (.var (u.nG+2))=some (.val (.int .i64 (Lib.indexByte s.data.toList c.toNat.toUInt8))):=y 0 _ rfl;refine⟨λf n=>?_,ir m ⟨_,rfl⟩⟩;simp only[cC,fJ,fm]at n;subst n;exact⟨rfl,_,by simp only[jj,bG a _ _ q,bG a _ _ t,m,bn,cM],s,c,_,rfl,rfl⟩
theorem a0c(g:∃fn,P.funcs[u.a0O]? =some fn)(B:u.Mv<P.globals.size)
  (h:∀(n:Int)(w:World), -9223372036854775808<=n->n<=9223372036854775807->w.heap[u.Mv]? =some (.cells ⟨Lib.pow10Tab.map (.int .u64)⟩ u.Vz (0,0))->
    Calls P u.a0O #[.int .i64 n] w λe M=>e=.returned (.string ⟨(Lib.itoa n).toArray⟩)/\Kept w M):j3 P (Cg u):=by
 refine tg g rfl (λo ho=>?_) λbase E i w j C D=>?_
 .grind[Cg]
 .obtain⟨_,s,⟨n,rfl⟩,F⟩:=rH C (d:=0) (k:=.int .i64) (e:=.var u.nG) rfl;obtain rfl:=aaU D F;obtain⟨l,o,m,ho,a⟩:=j.aO u.Mv (.Ie u.Vz .u64 Lib.pow10Tab) (PY (c:=Cg u) (x:=a0D u.Vz u.Mv) (l:=[]) rfl);obtain⟨J,b,p, -⟩:=j.gm u.Mv B;rw[m]at b;obtain rfl:=ae b;rw[p]at ho;obtain rfl:=a;obtain⟨-,ds,t,n',rfl,G,H⟩:=j.pc _ bB;simp only[jj,s,bn,cM,aD,pj,Dt.val.injEq,kV,fp,fG]at t;subst t;refine wW (h n w G H ho) ?_;rintro e M ⟨rfl,hk⟩;refine⟨hk,_,bB,[.string ⟨(Lib.itoa n).toArray⟩],_,rfl,?_,λq r I=>?_,rfl⟩
  .intro v y;simp only[cC,fJ,fm]at y;subst y;rfl
  .have z:ax q (.var (u.nG+1))=some (.val (.string ⟨(Lib.itoa n).toArray⟩)):=I 0 _ rfl;refine⟨λf A=>?_,ir z ⟨_,rfl⟩⟩;simp only[cC,fJ,fm]at A;subst A;exact⟨rfl,_,by simp only[jj,bG r _ _ s,z,bn,cM],n,⟨(Lib.itoa n).toArray⟩,rfl,rfl⟩
def a0s(v:Value):Prop:=v=.nilIface\/∃t u,v=.iface t u
theorem a0d(r:∃fn,P.funcs[u.UM]? =some fn)(K:u.I2<P.globals.size)(z:u.I3<P.globals.size)(A:u.I2≠u.I3)
  (h:∀(s:ByteArray)(v:Int)(w:World),s.size<=281474976710656->Lib.atoiAll s.data.toList=.ok v->
    Calls P u.UM #[.string s] w λe M=>e=.returned (.tuple #[.int .i64 v,.nilIface])/\Kept w M)
  (h':∀(s:ByteArray)(ev i:Value)(w:World),s.size<=281474976710656->(∀v,Lib.atoiAll s.data.toList≠.ok v)->w.cell? ⟨u.I2,0,none⟩=some ev->a0s ev->w.cell? ⟨u.I3,0,none⟩=some i->a0s i->
    Calls P u.UM #[.string s] w λe M=>(∃n N,e=.returned (.tuple #[.int .i64 n,.iface u.Yo (.pointer (some ⟨N,0,none⟩))]))/\Kept w M):j3 P (xM u):=by
 refine tg r rfl (λo ho=>?_) λbase E B w C L O=>?_
 .grind[xM]
 .obtain⟨_,D,⟨s,rfl⟩,Q⟩:=rH L (d:=0) (k:=.str) (e:=.var u.nG) rfl;obtain rfl:=aaU O Q;obtain⟨_,_,⟨v1,rfl,G⟩,R⟩:=vz C (t:=u.En) (k:=.WI) (e:=.var u.I2) (st:=true) K (aby (c:=xM u) (x:=Pz u.En u.I2) (y:=Pz u.En u.I3) rfl (dt A));obtain⟨_,_,⟨v2,rfl,H⟩,I⟩:=vz C (t:=u.En) (k:=.WI) (e:=.var u.I3) (st:=true) z (PY (c:=xM u) (x:=Pz u.En u.I3) (l:=[Pz u.En u.I2]) rfl);obtain⟨-,ds,J,F,rfl,S⟩:=C.pc _ bB;simp only[jj,D,bn,cM,aD,pj,Dt.val.injEq,vv,fG]at J;subst J;by_cases b:∃v,Lib.atoiAll s.data.toList=.ok v
  .obtain⟨v,b⟩:=b;refine wW (h s v w (by omega) b) ?_;rintro e M ⟨rfl,hk⟩;refine⟨hk,_,bB,[.int .i64 v],_,rfl,?_,λa g p=>?_,rfl⟩
   .intro v j;simp only[cC,fJ,fm]at j;subst j;rfl
   .have q:ax a (.var (u.nG+1))=some (.val (.int .i64 v)):=p 0 _ rfl;refine⟨λf m=>?_,fo (Option.map λl=>Value.tuple ⟨l⟩) (aL.2 ⟨_,_,ir (k:=.int .i64) q ⟨_,rfl⟩,aL.2 ⟨_,_,rfl,rfl,rfl⟩,rfl⟩)⟩;simp only[cC,fJ,fm]at m;subst m;exact⟨rfl,_,by simp only[jj,bG g _ _ D,q,bn,cM],s,v,rfl,b⟩
  .have b:∀v,Lib.atoiAll s.data.toList≠.ok v:=λv e=>b ⟨v,e⟩
   refine wW (h' s v1 v2 w (by omega) b R G I H) ?_;rintro e M ⟨⟨n,N,rfl⟩,hk⟩;refine⟨hk,_,bQ _ bB,[.int .i64 n,.pointer (some ⟨N,0,none⟩)],_,rfl,?_,λa g p=>?_,rfl⟩
   .intro v j;simp only[cC,fJ,fm]at j;rcases j with rfl|rfl<;>rfl
   .have q:ax a (.var (u.nG+1))=some (.val (.int .i64 n)):=p 0 _ rfl;have z2:ax a (.var (u.nG+2))=some (.val (.pointer (some ⟨N,0,none⟩))):=p 1 _ rfl;refine⟨λf m=>?_,fo (Option.map λl=>Value.tuple ⟨l⟩) (aL.2 ⟨_,_,ir (k:=.int .i64) q ⟨_,rfl⟩,aL.2 ⟨_,_,(show ai a (.iface u.Yo (.cE .any (.var (u.nG+2))))=some (.iface u.Yo (.pointer (some ⟨N,0,none⟩))) by simp only[ai];exact fo (Option.map λv=>Value.iface u.Yo v) (ir (k:=.any) z2 rfl)),rfl,rfl⟩,rfl⟩)⟩;simp only[cC,fJ,fm]at m;subst m;exact⟨rfl,_,by simp only[jj,bG g _ _ D,bn,cM],s,rfl,b⟩
end
abbrev iv(n:Int):Dt:=.val (.int .i64 n)
abbrev uv(n:Int):Dt:=.val (.int .u8 n)
abbrev sv(l:List UInt8):Dt:=.val (.string ⟨⟨l⟩⟩)
abbrev bd(l:List UInt8):Dt:=.ls [.int .u8] (fw l)
section
variable{E:G}
theorem I9{o:Vn}{x:SE}:ax E (.a1 o x)=(ax E x).bind (e1 o):=rfl
theorem I8{o:Vn}{x y:SE}:ax E (.a2 o x y)=(ax E x).bind λu=>(ax E y).bind (e2 o u):=rfl
theorem I7{o:Vn}{x y z:SE}:ax E (.a3 o x y z)=(ax E x).bind λu=>(ax E y).bind λv=>(ax E z).bind (e3 o u v):=rfl
theorem sG{b:Bool}:ax E (.bool b)=some (.val (.bool b)):=rfl
theorem qx{s:List UInt8}:ax E (.str s)=some (sv s):=rfl
theorem I5{e:SE}:Fact.holds E (.tr e)=(ax E e=some (.val (.bool true))):=rfl
theorem I6{e:SE}:Fact.holds E (.fl e)=(ax E e=some (.val (.bool false))):=rfl
end
theorem aaF{a b:Int}(c:b≠0):e2 (.bin .rem) (iv a) (iv b)=some (iv (a.tmod b)):=by grind[e2,fj,bS,bM,okV]
section
variable{k:IntKind}{a b:Int}
theorem wb:e2 (.bin .eql) (.val (.int k a)) (.val (.int k b))=some (.val (.bool (decide (a=b)))):=by simp only[e2,fj,bS,bc,bM,okV]
theorem yp:e2 (.bin .neq) (.val (.int k a)) (.val (.int k b))=some (.val (.bool (!decide (a=b)))):=by simp only[e2,fj,bS,bc,bM,okV]
theorem yr:e2 (.bin .lss) (.val (.int k a)) (.val (.int k b))=some (.val (.bool (decide (a<b)))):=by simp only[e2,fj,bS,bc,bM,okV]
theorem yt:e2 (.bin .leq) (.val (.int k a)) (.val (.int k b))=some (.val (.bool (decide (a<=b)))):=by simp only[e2,fj,bS,bc,bM,okV]
theorem yv:e2 (.bin .gtr) (.val (.int k a)) (.val (.int k b))=some (.val (.bool (decide (b<a)))):=by simp only[e2,fj,bS,bc,bM,okV]
theorem yw:e2 (.bin .geq) (.val (.int k a)) (.val (.int k b))=some (.val (.bool (decide (b<=a)))):=by simp only[e2,fj,bS,bc,bM,okV]
end
theorem Ee(x y:List UInt8):eB x y=decide (x=y):=by grind[eB,je]
theorem wa{x y:List UInt8}:e2 (.bin .eql) (sv x) (sv y)=some (.val (.bool (decide (x=y)))):=by simp only[e2,fj,mb,okV,Ee]
theorem yo{x y:List UInt8}:e2 (.bin .neq) (sv x) (sv y)=some (.val (.bool (!decide (x=y)))):=by simp only[e2,fj,mb,okV,Ee]
theorem a7g{x y:List UInt8}(h:x.length+y.length<=1099511627776):e2 (.bin .add) (sv x) (sv y)=some (sv (x++y)):=by grind[e2,fj,mb,okV,Nat.ble_eq]
theorem yu{l:List UInt8}:e1 .len (sv l)=some (iv l.length):=rfl
theorem rW{a:Option Addr}{n c:Nat}{t:TypeId}{g:Nat}{J:List Dt}:e1 .len (.sl (.slice a n c) t g J)=some (iv n):=rfl
theorem rX{k q:IntKind}{n:Int}:e1 (.conv k) (.val (.int q n))=some (.val (.int k (k.wrap n))):=rfl
theorem yq{b:Bool}:e1 (.un .not) (.val (.bool b))=some (.val (.bool (!b))):=rfl
theorem IM{l:List UInt8}:e1 .sb (sv l)=some (bd l):=rfl
theorem ot:∀l:List UInt8,lK (fw l)=some l
 | []=>rfl
 |b::l=>by
  have a:=ot l;unfold fw at a ⊢;simp[lK,a]
theorem IP{l:List UInt8}:e1 .bs (bd l)=some (sv l):=by simp only[e1,ot,cM]
theorem a5I{l:List UInt8}{n:Int}:e2 .sn (bd l) (uv n)=some (.ls [.int .u8] (fw l++[uv n])):=by unfold e2;simp only;rw[aJ ⟨.int .u8,by rw[ki,Nat.mod_one];rfl,n,rfl⟩]
theorem Ve{l:List UInt8}{n:Int}{b:UInt8}(h:n=b.toNat):(Dt.ls [.int .u8] (fw l++[uv n]))=bd (l++[b]):=by subst h;simp[fw]
theorem yx{a b:List UInt8}:e2 .cat (bd a) (bd b)=some (bd (a++b)):=by simp[e2,bd,fw]
theorem aaE{l:List UInt8}{k:IntKind}{n:Nat}:e2 (.tk 1) (bd l) (.val (.int k (n:Int)))=if n<=l.length then some (bd (l.take n))else none:=by show(if n*1<=(fw l).length then some (Dt.ls [.int .u8] ((fw l).take (n*1)))else none)=_;simp[bd,fw,List.map_take]
theorem aaG{l:List UInt8}{k:IntKind}{n:Nat}:e2 (.at 1 0) (bd l) (.val (.int k (n:Int)))=(l[n]?).map λb=>.val (.int .u8 b.toNat):=by show(fw l)[n*1+0]? =_;simp[fw]
def YL:List (Nat×gn)->Tr gn->Tr gn
 | []=>λh=>h
 |x::l=>λh=>YL l (h.set x.1 x.2)
theorem Kb{id:Nat}{b:gn}:∀{l:List (Nat×gn)}{h:Tr gn},(YL l h).get id=some b->(id,b)∈l\/h.get id=some b
 | [],_,e=>.inr e
 |x::l,h,e=>by
  rcases Kb (l:=l) (h:=h.set x.1 x.2) e with I|I
  .exact .inl (bQ _ I)
  .grind[Tr.bY]
def SDw(C:Ctx)(ts:List TypeId)(N:Nat)(vars:List (Nat×gn)):S:=⟨YL vars .nil,Nat.add C.nG (a1H C ts),[Vh C ts N]⟩
theorem Vo{C:Ctx}{ts:List TypeId}{N:Nat}{vars:List (Nat×gn)}{id:Nat}{b:gn}(h:(SDw C ts N vars).h.get id=some b):(id,b)∈vars:=by
 rcases Kb h with h|h
 .exact h
 .rw[Tr.get_nil]at h;cases h
def a3Z(C:Ctx)(E:G)(w:World)(l:Loc)(x:Nat×gn):Prop:=x.1<C.nG/\ez x.2=true/\∃o,w.heap[x.1]? =some o/\dC C E l x.2 o
theorem VP{C:Ctx}{w:World}{N:Nat}{ts:List TypeId}{V:Nat->Option Value}{vars:List (Nat×gn)}(L:List Dt)(h:∀d∈L,d.ej C w λk=>k<w.heap.size)(a:L.length=a1H C ts)(i:OL (aA C) ts N L)
  (c:∀g v,V g=some v->Ex v=true) (l:∀x∈vars,a3Z C (Nh C.nG V L) w ⟨x.1,0,1,(V x.1).map .val⟩ x):Rel C 0 (Nh C.nG V L) (SDw C ts N vars) w:=by
 refine Rb (by rw[a];exact bD _) (λf m=>?_) c h λid b n=>l _ (Vo n)
 have e:f∈[Vh C ts N]:=m;simp only[List.mem_singleton]at e;subst e;exact⟨rfl,L,by rw[<-a];exact NW λj x Z=>Xm Z,i⟩
theorem QK{C:Ctx}(o:Good C)(p:C.P.follows .mixedOrders=true){f:FuncId}(n:Nat){N:Nat}{L ts:List TypeId}(q:Tv C L L=true)(i:∀u∈ts,u∈L)(vars:List (Nat×gn))(V:Nat->Option Value)
  {l:List (List Fact)} (h:R.res (λ_=>true) ((uU C (Et C n) f (M5 C ts C.nG) .normal none (SDw C ts N vars)).bind Us)=some l) (s:qF l)
  (w:World) {H:Type} {vn:TypeId×Value->H} {spare:Nat->Bool} {held:Bool} {r:Reach} {base:Nat} {args:Array Value} {ds:List (DataW H)} {ps:List MemPlace} (y:DataW.TrodAll vn C.P w 0 spare held ts args.toList ds ps)
  (k:∀(j:Nat)t v,ts[j]? =some t->args[j]? =some v->Value.okWide C.P w r base t v) (z:hW ds<=N)
  (c:∀g v,V g=some v->Ex v=true) (m:∀Ld:List Dt,∀x∈vars,a3Z C (Nh C.nG V Ld) w ⟨x.1,0,1,(V x.1).map .val⟩ x):
  Calls C.P f args w λe M=>e=.returned (.bool true)/\w.keptBut M (λ_=>False):=by
 obtain⟨d,I,Y,W,U⟩:=Ks (Jk q) i y λj t v a b=>k j t v a (by rw[<-w5];exact b)
 have A:=VP (C:=C) (w:=w) (N:=N) (ts:=ts) d I Y ⟨W.1,iG W.2 z⟩ c (m d);have B:=U (Nh C.nG V d) C.nG λj x Z=>Xm Z
 exact wW (P3 o p A B n h s) λ_ _⟨I,Y⟩=>⟨I,IX (λid b D=>(m d _ (Vo D)).2.1) Y⟩
def gwC(g t:Nat)(a:AV):Nat×gn:=(g,.cells t (Tr.ofList [a]) 1 0 [] true false)
theorem Sk{C:Ctx}{E:G}{w:World}{l:Loc}{g t:Nat}{a:AV}{vs:Array Value}{v:Value}(d:Nat.blt g C.nG=true)(e:(C.T.get t).map (·.size)=some 1)(f:w.heap[g]? =some (.cells vs t (0,0)))(j:vs[0]? =some v)
  (k:ai E a=some v) (m:l=⟨g,0,1,l.v⟩):a3Z C E w l (gwC g t a):=by
 have n:0<vs.size:=by grind
 rw[m];refine⟨bZ d,rfl,_,f,vs,0,0,rfl,by show 0+1<=_;omega,λi u V b=>?_,?_,(λh=>by cases h),bD _⟩
 .rw[Tr.eP]at b;cases i with
  |zero=>simp only[dj,aD]at b;subst b;exact⟨v,j,.inr k⟩
  |succ i=>simp at b
 .obtain⟨i,V,c⟩:=bk.1 e;exact⟨i,V,by rw[c];show 1<=1*1;omega,by rw[c];show 0+1*1<=_;omega,0,by simp⟩
theorem a7K{C:Ctx}{E:G}{w:World}{l:Loc}{g t:Nat}{k:IntKind}{zs:List Int}(a:Nat.blt g C.nG=true)(b:w.heap[g]? =some (.cells ⟨zs.map (.int k)⟩ t (0,0))):a3Z C E w l (g,.Ie t k zs):=
 ⟨bZ a,rfl,_,b,rfl⟩
theorem Eb{n:Nat}{V:Nat->Option Value}{L:List Dt}{g t:Nat}{v:Value}(a:g<n)(b:V g=some (.iface t v)):ai (Nh n V L) (.cE .WI (.var g))=some (.iface t v):=
 eA (d:=.val (.iface t v)) (by simp only[ax,Nh,aJ a,bn,b,cM]) ⟨_,rfl,.inr ⟨_,_,rfl⟩⟩ rfl
theorem a0l{P:Program}{w:World}{laid:List (String×DataW Unit)}(h:laidMetH P laid w){n:String}{k:IntKind}{zs:List Int}(Z:(n,(Lib.tabData k zs:DataW Unit))∈laid)(hh:(Lib.tabData k zs:DataW Unit).handleName?.isNone=true)
  (j:w.ShapedOpen P) {g t u e m:Nat} {z:Array Value} (f:P.globalNamed n=some g) (a:(P.globals[g]?).map (·.type)=some u) (l:P.underlying u=some (.array m e)) (o:P.underlying e=some (.int k)) (b:P.cellsOf e=1) (c:P.cellsOf u=m)
  (d:Nat.blt g P.globals.size=true) (q:(((begin P (λ_ _=>0) default).world.heap[g]?).bind Obj.row?)=some (z,t)):
  w.heap[g]? =some (.cells ⟨zs.map (.int k)⟩ t (0,0)):=by
 have r:laidMet P (laid.filter λx=>x.2.handleName?.isNone) w:=BN h;obtain⟨ps,s, -, -⟩:=r;obtain⟨g',y,cs,fuel,p,I,Y,W,U, -⟩:=Me s (List.mem_filter.2 ⟨Z,hh⟩);rw[f]at I;obtain rfl:=ae I;rw[a]at Y;obtain rfl:=ae Y;have v:=Lib.cells_of_tab l o b c U;obtain⟨vs,i, -, -⟩:=j.1 g z t (bZ d) q;have e:some cs=some vs:=by rw[<-W];unfold World.var?;rw[f,bn,i]
 obtain rfl:=ae e;rw[i,<-v]
end Go.Proofs.YtokipodjggomfaaGreatDoor.Abs
