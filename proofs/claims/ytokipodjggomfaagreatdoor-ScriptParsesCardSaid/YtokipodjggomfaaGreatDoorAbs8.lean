/- Part 8 of an abstract machine that evaluates programs of the model in the kernel, and of the proofs that its run is the model's. Conditions: those of each theorem. -/
import Derived.Test.YtokipodjggomfaaGreatDoorAbs7
import Derived.JoinedCond
import Derived.LaidLaws
import Derived.Deep.DeepHandedRow
import Derived.FnData
import Derived.LaidSub
import Derived.Lib.AtoiAll
import Derived.Lib.ItoaNum
import Derived.Lib.IndexMore
import Derived.Lib.AtoiAllCases
import Derived.Lib.AtoiAllMem
import Derived.Sort.Grow
import Derived.Below
import Derived.Deep.Draws
import Derived.Lib.LaidTab
noncomputable section
set_option linter.unusedVariables false
set_option linter.unusedSimpArgs false
namespace Go.Proofs.YtokipodjggomfaaGreatDoor.Abs
open Go
section
variable(K:TypeId->List Kd)(T:TypeId)
def b9(M:Nat)(l:List Dt):Prop:=∃(n:Nat)(J:List Dt),l=[.val (.int .i64 (.ofNat n)),.ls (K T) J]/\n*4<=J.length/\Dt.jx K (K T) 0 J/\ca (J.take (n*4))<M
def e8(N M:Nat)(l:List Dt):Prop:=∃(n:Nat)(J:List Dt)(a:Option Addr)(k c g:Nat)(ss:List Dt)(i:Int),l=[.val (.int .i64 (.ofNat n)),.ls (K T) J,.sl (.slice a k c) T g ss,.val (.int .i64 i)]/\
 n*4<=J.length/\Dt.jx K (K T) 0 J/\oA K T a k g ss/\ -1<=i/\i<k/\i+1<N/\ca (J.take (n*4))+ca (ss.take ((i+1).toNat*4))<M
def kO(B:Nat)(l:List Dt):Prop:=l.length=4/\Dt.jx K (K T) 0 l/\ca l<B
end
theorem oQ{E:G}{x y:SE}{l:List Dt}(h:gZ E [x,y]=some l):∃a b,l=[a,b]/\aj E x=some a/\aj E y=some b:=by simp only[gZ,bW,aN]at h;obtain⟨a,c,q,⟨b,d,r,e,rfl⟩,rfl⟩:=h;obtain rfl:=ae e;exact⟨a,b,rfl,c,d⟩
theorem qw{E:G}{x y z t:SE}{l:List Dt}(h:gZ E [x,y,z,t]=some l):∃a b c d,l=[a,b,c,d]/\aj E x=some a/\aj E y=some b/\aj E z=some c/\aj E t=some d:=by simp only[gZ,bW,aN]at h;obtain⟨a,e,q,⟨b,f,k,⟨c,g,m,⟨d,i,r,j,rfl⟩,rfl⟩,rfl⟩,rfl⟩:=h;obtain rfl:=ae j;exact⟨a,b,c,d,rfl,e,f,g,i⟩
theorem Yl{E:G}{x y z t:SE}{a b c d:Dt}(A:aj E x=some a)(I:aj E y=some b)(W:aj E z=some c)(D:aj E t=some d):gZ E [x,y,z,t]=some [a,b,c,d]:=by simp[gZ,A,I,W,D]
theorem r0{E:G}{op:BinOp}{x y:SE}{a b:Int}(c:kV op=true)(Y:aj E x=some (.val (.int .i64 a)))(d:aj E y=some (.val (.int .i64 b))):aj E (.a2 (.bin op) x y)=okV (intOp op .i64 a b):=by simp only[aj,Y,d,aW,e2,dW];cases op<;>first|(cases c;done)|rfl
theorem r5{E:G}{x y:SE}{a b:Int}(Y:aj E x=some (.val (.int .i64 a)))(c:aj E y=some (.val (.int .i64 b)))(A: -9223372036854775808<=a+b)(I:a+b<=9223372036854775807):aj E (.a2 (.bin .add) x y)=some (.val (.int .i64 (a+b))):=by simp only[aj,Y,c,aW,e2,dW,bj,aH,intOp,okV];rw[ez A I]
theorem rZ{E:G}{x y:SE}{a b:Int}(Y:aj E x=some (.val (.int .i64 a)))(c:aj E y=some (.val (.int .i64 b)))(A: -9223372036854775808<=a-b)(I:a-b<=9223372036854775807):aj E (.a2 (.bin .sub) x y)=some (.val (.int .i64 (a-b))):=by simp only[aj,Y,c,aW,e2,dW,bj,aH,intOp,okV];rw[ez A I]
theorem Lx{E:G}{x:SE}{a c:Int}(h:(Fact.tr (.a2 (.bin .geq) x (.int .i64 c))).holds E)(Y:aj E x=some (.val (.int .i64 a))):c<=a:=by have h:aj E _=_:=h;rw[r0 (b:=c) rfl Y rfl]at h;have h:=ae h;injection h with h;injection h with h;exact bq h
theorem T1{E:G}{x:SE}{a c:Int}(h:(Fact.tr (.a2 (.bin .gtr) x (.int .i64 c))).holds E)(Y:aj E x=some (.val (.int .i64 a))):c<a:=by have h:aj E _=_:=h;rw[r0 (b:=c) rfl Y rfl]at h;have h:=ae h;injection h with h;injection h with h;exact bq h
theorem oN{K:TypeId->List Kd}{T:TypeId}(l:K T=[.int .i64,.int .i64,.str,.sl T]){J:List Dt}(o:Dt.jx K (K T) 0 J){n:Nat}(h:n*4+4<=J.length):
  ∃(x y:Int)(s:ByteArray)(a:Option Addr)(k c g:Nat)(ss:List Dt),J[n*4]? =some (.val (.int .i64 x))/\J[n*4+1]? =some (.val (.int .i64 y))/\J[n*4+2]? =some (.val (.string s))/\J[n*4+3]? =some (.sl (.slice a k c) T g ss)/\
   oA K T a k g ss/\ca (J.take ((n+1)*4))=ca (J.take (n*4))+4+ca ss:=by
 obtain⟨d0,d1,d2,d3,m,A,I,W,p⟩:=xS h;have r:(K T).length=4:=by rw[l];rfl
 have b:∀(q:Nat)d,q<4->J[n*4+q]? =some d->(∃k,(K T)[q]? =some k/\k.fits d)/\d.wf K:=by
  intro q d t u;have:=o.get u
  rwa [r,du,rL,vn,jH t]at this
 obtain⟨⟨v,e,f0⟩, -⟩:=b 0 d0 (by omega) m;obtain⟨⟨w,f,f1⟩, -⟩:=b 1 d1 (by omega) A;obtain⟨⟨z,i,f2⟩, -⟩:=b 2 d2 (by omega) I;obtain⟨⟨B,j,f3⟩,w3⟩:=b 3 d3 (by omega) W;rw[l]at e f i j;simp only[cr,kA,ar]at e f i j;subst e;subst f;subst i;subst j;obtain⟨x,rfl⟩:=f0;obtain⟨y,rfl⟩:=f1;obtain⟨s,rfl⟩:=f2;obtain⟨a,k,c,g,ss,rfl,g1⟩:=IX f3 w3;refine⟨x,y,s,a,k,c,g,ss,m,A,I,W,g1,?_⟩;rw[p,dA];simp only[ca,Lc];omega
section
variable{K:TypeId->List Kd}{T:TypeId}{E:G}
theorem sA{nm:String}{M:Nat}{n e:SE}(h:(Fact.rel nm false (b9 K T M) [n,e]).holds E):∃(k:Nat)(J:List Dt),aj E n=some (.val (.int .i64 (.ofNat k)))/\aj E e=some (.ls (K T) J)/\k*4<=J.length/\Dt.jx K (K T) 0 J/\ca (J.take (k*4))<M:=by obtain⟨l,d,k,J,rfl,A,I,W⟩:=h;obtain⟨a,b,e1,e2,e3⟩:=oQ d;injection e1 with e1 c;injection c with c _;subst e1;subst c;exact⟨k,J,e2,e3,A,I,W⟩
theorem jV{nm:String}{N M:Nat}{n e s i:SE}(h:(Fact.rel nm false (e8 K T N M) [n,e,s,i]).holds E):∃(m:Nat)(J:List Dt)(a:Option Addr)(k c g:Nat)(ss:List Dt)(j:Int),
  aj E n=some (.val (.int .i64 (.ofNat m)))/\aj E e=some (.ls (K T) J)/\aj E s=some (.sl (.slice a k c) T g ss)/\aj E i=some (.val (.int .i64 j))/\
  m*4<=J.length/\Dt.jx K (K T) 0 J/\oA K T a k g ss/\ -1<=j/\j<k/\j+1<N/\ca (J.take (m*4))+ca (ss.take ((j+1).toNat*4))<M:=by
 obtain⟨l,b,m,J,a,k,c,g,ss,j,rfl,A⟩:=h;obtain⟨d1,d2,d3,d4,e1,e2,e3,d,f⟩:=qw b;injection e1 with o e1;injection e1 with p e1;injection e1 with q e1;injection e1 with r _;subst o;subst p;subst q;subst r;exact⟨m,J,a,k,c,g,ss,j,e2,e3,d,f,A⟩
theorem MI{J:List Dt}{n:Nat}(h:n*4<=J.length):n*4<=ca (J.take (n*4)):=by grind[wQ,List.length_take]
theorem eP{P:List Kd}{J:List Dt}{x y:SE}{d:Dt}{q:Kd}(Y:aj E x=some (.ls P J))(a:aj E y=some d)(b:P[J.length%P.length]? =some q)(c:q.fits d):aj E (.a2 .sn x y)=some (.ls P (J++[d])):=by simp only[aj,Y,a,aW,Go.Proofs.YtokipodjggomfaaGreatDoor.Abs.e2];rw[az ⟨q,b,c⟩]
theorem W5{nm:String}{N M:Nat}{n e s i:SE}(I:(Fact.rel nm false (e8 K T N M) [n,e,s,i]).holds E)(A:(Fact.tr (.a2 (.bin .geq) i (.int .i64 (.ofNat 0)))).holds E)(h:(Fact.rel "out" false jg [i,.a1 .len s]).holds E):False:=by obtain⟨m,J,a,k,c,g,ss,j,g1,g2,g3,g4, -, -, -, -,g5, -⟩:=jV I;have o:=Lx A g4;obtain⟨l,p,t,q,m1,rfl,r⟩:=h;obtain⟨x,y,e1,b,d⟩:=oQ p;injection e1 with e1 f;injection f with f _;subst e1;subst f;rw[g4]at b;simp only[aj,g3,aW,Go.Proofs.YtokipodjggomfaaGreatDoor.Abs.e1]at d;have b:=ae b;have d:=ae d;injection b with b;injection b with _ b;injection d with d;injection d with _ d;apply r;simp only[cq]at o;omega
theorem SM{nm:String}{N M bytes:Nat}(v:M<=1073741824)(h:bytes<=56){n e s i:SE}(I:(Fact.rel nm false (e8 K T N M) [n,e,s,i]).holds E)(o:(Fact.rel "grow" false (eL 4 bytes 1) [e,n]).holds E):False:=by
 obtain⟨m,J,a,k,c,g,ss,j,g1,g2,g3,g4,g5, -, -, -, -, -,g6⟩:=jV I;obtain⟨l,p,P,j7,q,rfl,r⟩:=o;obtain⟨x,y,e1,d,b⟩:=oQ p;injection e1 with e1 f;injection f with f _;subst e1;subst f;rw[g2]at d;rw[g1]at b;have d:=ae d;have b:=ae b;injection d with _ d;injection b with b;injection b with _ b;subst d;have D:=MI g5;have t:q.toNat=m:=by rw[<-b];rfl
 have u:(m+1)*bytes<=(m+1)*56:=Nat.mul_le_mul_left _ h;apply r;rw[t];refine⟨by rw[<-b];exact ky m,g5,by omega,by omega⟩
theorem SL{nm B:String}{N M:Nat}(r:K T=[.int .i64,.int .i64,.str,.sl T])(Y:M<=1073741824){n e s i:SE}(I:(Fact.rel nm false (e8 K T (N+1) M) [n,e,s,i]).holds E)(A:(Fact.tr (.a2 (.bin .geq) i (.int .i64 (.ofNat 0)))).holds E)
  (V:(Fact.rel B true (e8 K T N M) [.a2 (.bin .add) n (.int .i64 (.ofNat 1)),.a2 .sn (.a2 .sn (.a2 .sn (.a2 .sn (.a2 (.tk 4) e n) (.a1 (.ld 0) (.a2 .el s i))) (.a1 (.ld 1) (.a2 .el s i))) (.a1 (.ld 2) (.a2 .el s i))) (.a1 (.ld 3) (.a2 .el s i)),s,.a2 (.bin .sub) i (.int .i64 (.ofNat 1))]).holds E):False:=by
 obtain⟨m,J,a,k,c,g,ss,j,g1,g2,g3,g4,g5,g6,g7,g9,g10,g11,g12⟩:=jV I;have W:0<=j:=Lx A g4;obtain⟨p,rfl⟩:=et W;have Z:p<k:=by omega
 have h:(K T).length=4:=by rw[r];rfl
 obtain⟨t,g8,C⟩:=g7;obtain⟨u,b,rfl⟩:=C (by omega);rw[h]at t u;subst u;obtain⟨x,y,str,a',k',c',Ag,F,c0,c1,c2,c3,l1,X⟩:=oN r g8 (n:=p) (by omega);have D:=MI g5;have G:((p:Int)+1).toNat=p+1:=by omega
 rw[G,X]at g12;have H:aj E (.a2 .el s i)=some (.pt (.pointer (some ⟨b.block,b.off+p*4,none⟩)) T 4 ss (p*4) 0):=by grind[aj,Go.Proofs.YtokipodjggomfaaGreatDoor.Abs.e2]
 have o:∀q,aj E (.a1 (.ld q) (.a2 .el s i))=ss[p*4+0+q]? :=λq=>by
  show(aj E (.a2 .el s i)).bind _=_;rw[H];rfl
 have L:aj E (.a2 (.tk 4) e n)=some (.ls (K T) (J.take (m*4))):=by grind[aj,Go.Proofs.YtokipodjggomfaaGreatDoor.Abs.e2]
 have f:(J.take (m*4)).length=m*4:=by rw[cG];omega
 have Q:(K T)[0]? =some (.int .i64):=by rw[r];rfl
 have R:(K T)[1]? =some (.int .i64):=by rw[r];rfl
 have S:(K T)[2]? =some .str:=by rw[r];rfl
 have U:(K T)[3]? =some (.sl T):=by rw[r];rfl
 have s0:=eP L ((o 0).trans c0) (q:=.int .i64) (by rw[f,h,rT];exact Q) ⟨_,rfl⟩;have s1:=eP s0 ((o 1).trans c1) (q:=.int .i64) (by rw[bL,f,h,il,oE (by omega)];exact R) ⟨_,rfl⟩;have s2:=eP s1 ((o 2).trans c2) (q:=.str) (by rw[bL,bL,f,h,il,il,ig,oE (by omega)];exact S) ⟨_,rfl⟩;have O:=eP s2 ((o 3).trans c3) (q:=.sl T) (by rw[bL,bL,bL,f,h,il,il,il,ig,ig,oE (by omega)];exact U) ⟨_,_,_,_,_,rfl⟩;rw[jI,jI,jI]at O;simp only[jG,ij]at O;have h5:(p+1)*4<=ca (ss.take ((p+1)*4)):=MI (by omega);have v:aj E (.a2 (.bin .add) n (.int .i64 (.ofNat 1)))=some (.val (.int .i64 (.ofNat (m+1)))):=r5 (b:=1) g1 rfl (by simp only[cq];omega) (by simp only[cq];omega);have w:aj E (.a2 (.bin .sub) i (.int .i64 (.ofNat 1)))=some (.val (.int .i64 ((p:Int)-1))):=rZ (b:=1) g4 rfl (by omega) (by omega);have P:Dt.jx K (K T) 0 (J.take (m*4)++[.val (.int .i64 x),.val (.int .i64 y),.val (.string str),.sl (.slice a' k' c') T Ag F]):=by
  refine Dt.jx.append (g6.take _) λq d l=>?_
  rw[f,h,du];have z:=λ(q:Nat)d(l:ss[p*4+q]? =some d)=>(g8.get l).2
  rcases q with _|_|_|_|q
  .simp only[cr,ar]at l;subst l;exact⟨⟨.int .i64,by rw[hx,rT];exact Q,_,rfl⟩,z 0 _ c0⟩
  .simp only[kA,cr,ar]at l;subst l;exact⟨⟨.int .i64,by rw[oE (by omega)];exact R,_,rfl⟩,z 1 _ c1⟩
  .simp only[kA,cr,ar]at l;subst l;exact⟨⟨.str,by rw[oE (by omega)];exact S,_,rfl⟩,z 2 _ c2⟩
  .simp only[kA,cr,ar]at l;subst l;exact⟨⟨.sl T,by rw[oE (by omega)];exact U,_,_,_,_,_,rfl⟩,z 3 _ c3⟩
  .simp at l
 refine V ⟨_,Yl v O g3 w,m+1,_,_,k,c,4,ss,(p:Int)-1,rfl,?_,P,⟨by rw[h];exact t,g8,λ_=>⟨h.symm,b,rfl⟩⟩,by omega,by omega,by omega,?_⟩
 .grind[List.length_append,List.length_cons,List.length_nil]
 .have e1:((p:Int)-1+1).toNat=p:=by omega
  rw[e1,fv (by rw[bL,f];simp only[bZ,dv];omega),dA];simp only[ca,Lc];omega
theorem W6{nm b:String}{N M:Nat}{n e s i:SE}(I:(Fact.rel nm false (e8 K T N M) [n,e,s,i]).holds E)(d:(Fact.rel b true (b9 K T M) [n,e]).holds E):False:=by obtain⟨m,J,a,k,c,g,ss,j,g1,g2,g3,g4,g5,g6, -, -, -, -,g7⟩:=jV I;exact d ⟨_,vU g1 g2,m,J,rfl,g5,g6,by omega⟩
theorem si{nm:String}{N:Nat}{n e:SE}(I:(Fact.rel nm false (b9 K T N) [n,e]).holds E)(A:(Fact.tr (.a2 (.bin .gtr) n (.int .i64 (.ofNat 0)))).holds E)(a:N<=1073741824):
  ∃(k:Nat)(J:List Dt),aj E n=some (.val (.int .i64 (.ofNat (k+1))))/\aj E e=some (.ls (K T) J)/\(k+1)*4<=J.length/\Dt.jx K (K T) 0 J/\ca (J.take ((k+1)*4))<N/\aj E (.a2 (.bin .sub) n (.int .i64 (.ofNat 1)))=some (.val (.int .i64 (.ofNat k))):=by
 obtain⟨k,J,g1,g2,g3,g4,g5⟩:=sA I;have Z:=T1 A g1;have b:=MI g3;simp only[cq]at Z;obtain⟨q,rfl⟩:∃q,k=q+1:=⟨k-1,by omega⟩;refine⟨q,J,g1,g2,g3,g4,g5,?_⟩;rw[rZ g1 rfl (by simp only[cq];omega) (by simp only[cq];omega)];congr 3;simp only[cq];omega
theorem RD{nm:String}{N:Nat}{n e:SE}(d:N<=1073741824)(I:(Fact.rel nm false (b9 K T N) [n,e]).holds E)(A:(Fact.tr (.a2 (.bin .gtr) n (.int .i64 (.ofNat 0)))).holds E)(f:(Fact.rel "out" false jg [.a2 (.bin .sub) n (.int .i64 (.ofNat 1)),n]).holds E):False:=by obtain⟨k,J,g1,g2,g3,g4,g5,g6⟩:=si I A d;obtain⟨l,g,i,q,m1,rfl,h⟩:=f;obtain⟨x,y,e1,a,b⟩:=oQ g;injection e1 with e1 c;injection c with c _;subst e1;subst c;rw[g6]at a;rw[g1]at b;have a:=ae a;have b:=ae b;injection a with a;injection a with _ a;injection b with b;injection b with _ b;apply h;simp only[cq]at a b;omega
theorem Md{nm:String}{N:Nat}{n e:SE}(d:N<=1073741824)(I:(Fact.rel nm false (b9 K T N) [n,e]).holds E)(A:(Fact.tr (.a2 (.bin .gtr) n (.int .i64 (.ofNat 0)))).holds E)(f:(Fact.rel "hole" false (BX 4) [e,.a2 (.bin .sub) n (.int .i64 (.ofNat 1))]).holds E):False:=by
 obtain⟨k,J,g1,g2,g3,g4,g5,g6⟩:=si I A d;obtain⟨l,g,P,j7,j,q,rfl,h⟩:=f;obtain⟨x,y,e1,b,a⟩:=oQ g;injection e1 with e1 c;injection c with c _;subst e1;subst c;rw[g2]at b;rw[g6]at a;have b:=ae b;have a:=ae a;injection b with _ b;injection a with a;injection a with _ a;subst b;apply h;have i:q.toNat=k:=by rw[<-a];rfl
 rw[i];exact⟨by rw[<-a];exact ky k,by omega⟩
theorem RE{nm:String}{N:Nat}{n e:SE}(b:N<=1073741824)(I:(Fact.rel nm false (b9 K T N) [n,e]).holds E)(A:(Fact.tr (.a2 (.bin .gtr) n (.int .i64 (.ofNat 0)))).holds E)(c:(Fact.rel "cut" false Mg [.int .i64 (.ofNat 0),.a2 (.bin .sub) n (.int .i64 (.ofNat 1)),n]).holds E):False:=by obtain⟨k,J,g1,g2,g3,g4,g5,g6⟩:=si I A b;obtain⟨l,a,f,q,g,m1,h,rfl,d⟩:=c;have:=Dy (show aj E (.int .i64 (.ofNat 0))=some (.val (.int .i64 (.ofNat 0)))from rfl) g6 g1;rw[this]at a;have a:=ae a;injection a with a1 a;injection a with a2 a;injection a with a3 _;injection a1 with a1;injection a1 with _ a1;injection a2 with a2;injection a2 with _ a2;injection a3 with a3;injection a3 with _ a3;apply d;simp only[cq]at a1 a2 a3;omega
theorem Me{nm f:String}{N h:Nat}(i:K T=[.int .i64,.int .i64,.str,.sl T])(m:N+1<=1073741824)(o:1073741824<=h){n e:SE}(I:(Fact.rel nm false (b9 K T (N+1)) [n,e]).holds E)(A:(Fact.tr (.a2 (.bin .gtr) n (.int .i64 (.ofNat 0)))).holds E)
  (p:(Fact.rel f true (e8 K T h N) [.a2 (.bin .sub) n (.int .i64 (.ofNat 1)),e,.a2 (.at 4 3) e (.a2 (.bin .sub) n (.int .i64 (.ofNat 1))),.a2 (.bin .sub) (.a1 .len (.a2 (.at 4 3) e (.a2 (.bin .sub) n (.int .i64 (.ofNat 1))))) (.int .i64 (.ofNat 1))]).holds E):False:=by
 obtain⟨k,J,g1,g2,g3,g4,g5,g6⟩:=si I A m;have g:(K T).length=4:=by rw[i];rfl
 obtain⟨x,y,str,a',k',c',Ag,a,c0,c1,c2,c3,j,q⟩:=oN i g4 (n:=k) (by omega);rw[q]at g5;have b:aj E (.a2 (.at 4 3) e (.a2 (.bin .sub) n (.int .i64 (.ofNat 1))))=some (.sl (.slice a' k' c') T Ag a):=by show(aj E e).bind (λu=>(aj E (.a2 (.bin .sub) n (.int .i64 (.ofNat 1)))).bind (Go.Proofs.YtokipodjggomfaaGreatDoor.Abs.e2 (.at 4 3) u))=_;rw[g2,g6];exact c3
 have c:aj E (.a1 .len (.a2 (.at 4 3) e (.a2 (.bin .sub) n (.int .i64 (.ofNat 1)))))=some (.val (.int .i64 k')):=by show(aj E (.a2 (.at 4 3) e (.a2 (.bin .sub) n (.int .i64 (.ofNat 1))))).bind _=_;rw[b];rfl
 have r:a.length=k'*4:=by have:=j.1;rwa [g]at this
 have s:=wQ (l:=a);have d:=rZ c (show aj E (.int .i64 (.ofNat 1))=some (.val (.int .i64 (.ofNat 1)))from rfl) (by simp only[cq];omega) (by simp only[cq];omega);refine p ⟨_,Yl g6 g2 b d,k,J,a',k',c',Ag,a,_,rfl,by omega,g4,j,?_,?_,?_,?_⟩
 .simp only[cq];omega
 .simp only[cq];omega
 .simp only[cq];omega
 .grind
theorem KN{nm g:String}{B:Nat}(m:K T=[.int .i64,.int .i64,.str,.sl T]){x y z t:SE}(A:(Fact.rel nm false (kO K T B) [x,y,z,t]).holds E)
  (n:(Fact.rel g true (b9 K T B) [.int .i64 (.ofNat 1),.a2 .sn (.a2 .sn (.a2 .sn (.a2 .sn (.a1 (.nl [.int .i64,.int .i64,.str,.sl T]) (.bool true)) x) y) z) t]).holds E):False:=by
 obtain⟨l,o, -,I,W⟩:=A;obtain⟨a,b,c,d,rfl,e1,h,i,p⟩:=qw o;have e:(K T).length=4:=by rw[m];rfl
 have j:aj E (.a1 (.nl [.int .i64,.int .i64,.str,.sl T]) (.bool true))=some (.ls (K T) []):=by rw[m];rfl
 have f:∀(q:Nat)d',q<4->([a,b,c,d]:List Dt)[q]? =some d'->∃k,(K T)[q]? =some k/\k.fits d':=by
  intro q d' r s;have:=(I.get s).1
  rwa [du,e,jH r]at this
 obtain⟨u,v,f0⟩:=f 0 a (by omega) rfl;obtain⟨w,C,f1⟩:=f 1 b (by omega) rfl;obtain⟨D,F,f2⟩:=f 2 c (by omega) rfl;obtain⟨G,H,f3⟩:=f 3 d (by omega) rfl;have s0:=eP j e1 (q:=u) (by rw[e];exact v) f0;have s1:=eP s0 h (q:=w) (by rw[e];exact C) f1;have s2:=eP s1 i (q:=D) (by rw[e];exact F) f2;have J:=eP s2 p (q:=G) (by rw[e];exact H) f3;exact n ⟨_,vU rfl J,1,[a,b,c,d],rfl,by simp,I,by
  rw[fv (by simp)];exact W⟩
end
theorem nJ{F:Nat->Fact}{rows L7:List (List Nat)}(d:∀p∈L7,∀E:G,(∀i∈p,(F i).holds E)->False)
  (h:(rows.all λr=>L7.any λp=>p.all λi=>r.contains i)=true):mr (rows.map λr=>r.map F):=by
 rintro pc a ⟨E,e⟩;obtain⟨r,f,rfl⟩:=List.mem_map.1 a;obtain⟨p,b,c⟩:=List.any_eq_true.1 (qj.1 h r f);exact d p b E λi V=>e _ (List.mem_map.2 ⟨i,by simpa using qj.1 c i V,rfl⟩)
theorem oo{P:Program}{c:bp}(h:∀E:G,(∀f∈c.facts,f.holds E)->False):eb P c:=λ_ E _ _ _ _ _ _ a=>(h E λf b=>(a.rel.pc f b).2).elim
end Go.Proofs.YtokipodjggomfaaGreatDoor.Abs
namespace Go.Proofs.YtokipodjggomfaaGreatDoor.Abs
open Go
end Go.Proofs.YtokipodjggomfaaGreatDoor.Abs
namespace Go.Proofs.YtokipodjggomfaaGreatDoor.Abs
open Go
mutual
inductive Alike:Dt->Dt->Prop
 |val (v:Value):Alike (.val v) (.val v)
 |sl (a a':Option Addr) (n c c':Nat) (t Q:TypeId) (g Ag:Nat) (J j7:List Dt):hI J j7->Alike (.sl (.slice a n c) t g J) (.sl (.slice a' n c') Q Ag j7)
inductive hI:List Dt->List Dt->Prop
 |nil:hI [] []
 |cons (x y:Dt) (l m:List Dt):Alike x y->hI l m->hI (x::l) (y::m)
end
theorem hI.append:∀{a b c d:List Dt},hI a b->hI c d->hI (a++c) (b++d)
 |_,_,_,_,.nil,h=>h
 |_,_,_,_,.cons _ _ _ _ A I,h=>.cons _ _ _ _ A (I.append h)
theorem hI.get:∀{a b:List Dt}{i:Nat}{x:Dt},hI a b->a[i]? =some x->∃y,b[i]? =some y/\Alike x y
 |_,_,_,_,.nil,h=>by simp at h
 |_,_,0,_,.cons x y l m A _,h=>by grind
 |_,_,i+1,_,.cons x y l m _ I,h=>by
  obtain⟨z,W,D⟩:=I.get (i:=i) (by simpa using h);exact⟨z,by simpa using W,D⟩
section
variable{K:TypeId->List Kd}{T:TypeId}{E:G}
theorem l8{s:SE}{a:Option Addr}{k c g:Nat}{t:TypeId}{ss:List Dt}(h:aj E s=some (.sl (.slice a k c) t g ss)):aj E (.a1 .len s)=some (.val (.int .i64 k)):=by show(aj E s).bind _=_;rw[h];rfl
theorem FK{x y:SE}{a b:Int}(h:(Fact.tr (.a2 (.bin .lss) x y)).holds E)(Y:aj E x=some (.val (.int .i64 a)))(c:aj E y=some (.val (.int .i64 b))):a<b:=by have h:aj E _=_:=h;rw[r0 (b:=b) rfl Y c]at h;have h:=ae h;injection h with h;injection h with h;exact bq h
theorem uO(u:K T=[.int .i64,.int .i64,.str,.sl T]){s i:SE}{a:Option Addr}{k c g p:Nat}{ss:List Dt}(A:aj E s=some (.sl (.slice a k c) T g ss))(V:aj E i=some (.val (.int .i64 (p:Int))))(m:oA K T a k g ss)(B:p<k):
  ∃(x y:Int)(str:ByteArray)(a':Option Addr)(k' c' Ag:Nat)(e:List Dt),aj E (.a1 (.ld 0) (.a2 .el s i))=some (.val (.int .i64 x))/\aj E (.a1 (.ld 1) (.a2 .el s i))=some (.val (.int .i64 y))/\aj E (.a1 (.ld 2) (.a2 .el s i))=some (.val (.string str))/\
   aj E (.a1 (.ld 3) (.a2 .el s i))=some (.sl (.slice a' k' c') T Ag e)/\oA K T a' k' Ag e/\Dt.jx K (K T) 0 [.val (.int .i64 x),.val (.int .i64 y),.val (.string str),.sl (.slice a' k' c') T Ag e]/\
   ca (ss.take ((p+1)*4))=ca (ss.take (p*4))+4+ca e/\ss.length=k*4:=by
 have h:(K T).length=4:=by rw[u];rfl
 obtain⟨j,g8,o⟩:=m;obtain⟨l,b,rfl⟩:=o (by omega);rw[h]at j l;subst l;obtain⟨x,y,str,a',k',c',Ag,e,c0,c1,c2,c3,v,w⟩:=oN u g8 (n:=p) (by omega);have r:aj E (.a2 .el s i)=some (.pt (.pointer (some ⟨b.block,b.off+p*4,none⟩)) T 4 ss (p*4) 0):=by grind[aj,Go.Proofs.YtokipodjggomfaaGreatDoor.Abs.e2]
 have f:∀q,aj E (.a1 (.ld q) (.a2 .el s i))=ss[p*4+0+q]? :=λq=>by
  show(aj E (.a2 .el s i)).bind _=_;rw[r];rfl
 have key:∀(q:Nat)d,q<4->ss[p*4+q]? =some d->(∃k,(K T)[(0+q)%(K T).length]? =some k/\k.fits d)/\d.wf K:=λq d C z=>by
  have:=g8.get z;rw[h,du,rL p 4,vn]at this;rw[h,du];exact this
 refine⟨x,y,str,a',k',c',Ag,e,(f 0).trans c0,(f 1).trans c1,(f 2).trans c2,(f 3).trans c3,v,.mk λq d t=>?_,w,j⟩;rcases q with _|_|_|_|q
 .simp only[cr,ar]at t;subst t;exact key 0 _ (by omega) c0
 .grind
 .grind
 .grind
 .simp at t
theorem xm(m:K T=[.int .i64,.int .i64,.str,.sl T]){s i:SE}{a:Option Addr}{k c g p:Nat}{ss:List Dt}(n:aj E s=some (.sl (.slice a k c) T g ss))(V:aj E i=some (.val (.int .i64 (p:Int))))(e:oA K T a k g ss)(o:p<k)(q:Nat):
  aj E (.a1 (.ld q) (.a2 .el s i))=ss[p*4+q]? :=by
 have f:(K T).length=4:=by rw[m];rfl
 obtain⟨h,g8,j⟩:=e;obtain⟨d,b,rfl⟩:=j (by omega);rw[f]at h d;subst d;have l:aj E (.a2 .el s i)=some (.pt (.pointer (some ⟨b.block,b.off+p*4,none⟩)) T 4 ss (p*4) 0):=by grind[aj,Go.Proofs.YtokipodjggomfaaGreatDoor.Abs.e2]
 show(aj E (.a2 .el s i)).bind _=_;rw[l];rfl
theorem Sq(o:K T=[.int .i64,.int .i64,.str,.sl T]){s i:SE}{a:Option Addr}{k c g p:Nat}{ss:List Dt}(q:aj E s=some (.sl (.slice a k c) T g ss))(V:aj E i=some (.val (.int .i64 (p:Int))))(b:oA K T a k g ss)(r:p<k){d0 d1 d2 d3:Dt}
  (e:aj E (.a1 (.ld 0) (.a2 .el s i))=some d0) (A:aj E (.a1 (.ld 1) (.a2 .el s i))=some d1) (I:aj E (.a1 (.ld 2) (.a2 .el s i))=some d2) (W:aj E (.a1 (.ld 3) (.a2 .el s i))=some d3):ss.take ((p+1)*4)=ss.take (p*4)++[d0,d1,d2,d3]:=by
 rw[xm o q V b r]at e A I W;obtain⟨t, -⟩:=jK.1 W;obtain⟨v,w,x,y,f,h,j,m,u⟩:=xS (l:=ss) (n:=p) (by omega);have d:ss[p*4]? =some d0:=e;rw[d]at f;rw[A]at h;rw[I]at j;rw[W]at m;rw[u,ae f,ae h,ae j,ae m]
theorem vR(c:K T=[.int .i64,.int .i64,.str,.sl T]){a:Option Addr}{k g:Nat}{ss:List Dt}(h:oA K T a k g ss):k*4<=ca ss:=by
 have b:(K T).length=4:=by rw[c];rfl
 have:=h.1;rw[b]at this;have:=wQ (l:=ss);omega
end
end Go.Proofs.YtokipodjggomfaaGreatDoor.Abs
namespace Go.Proofs.YtokipodjggomfaaGreatDoor.Abs
open Go
theorem Oi{P:Program}{cS:Nat->bp}{cL:Nat->Nat->bp}{B:Nat}(a:eb P (cS 0))(b:∀N,eb P (cL N 0))
  (c:∀N M,N<=B->eb P (cS N)->eb P (cL N M)->eb P (cL N (M+1))) (d:∀N,N+1<=B->eb P (cL N (N+1))->eb P (cS (N+1))):∀N,N<=B->eb P (cS N)
 |0,_=>a
 |N+1,h=>by
  have e:=Oi a b c d N (by omega);have all:∀M,eb P (cL N M):=λM=>by
   induction M with
   |zero=>exact b N
   |succ M f=>exact c N M (by omega) e f
  exact d N h (all (N+1))
end Go.Proofs.YtokipodjggomfaaGreatDoor.Abs
namespace Go.Proofs.YtokipodjggomfaaGreatDoor.Abs
open Go
def Po(o:Out):R Unit:=
 match o.res with
 | .ret v=>match v with
   | .bool b=>match b with
     |true=>.ok ()
     |false=>.must o.s.pc (.ok ())
   | .bS k e=>match ny k .bool with
     |true=>.must (.fl e::o.s.pc) (.ok ())
     |false=>.bad "another end"
   |_=>.bad "another end"
 | .eH _=>.must o.s.pc (.ok ())
theorem KQ{C:Ctx}(u:Good C)(z:C.P.follows .mixedOrders=true){base:Nat}{E:G}{s:S}{w:World}(A:Rel C base E s w){f:FuncId}{args:List AV}{g:List Value}(j:ax E args=some g)(n:Nat)
  {l:List (List Fact)} (h:R.res (λ_=>true) ((pC C (zu C n) f args .normal none s).bind Po)=some l) (D:mr l):
  Calls C.P f ⟨g⟩ w λe M=>e=.returned (.bool true)/\Xo E s w M:=by
 refine kZ (H0 u z A j n h D) ?_;rintro e M ⟨B,o,x,a,Y,m,i⟩;refine⟨?_,a.keep.size,a.keep.tape,a.keep.os,a.keep.output,a.keep.stays⟩;have p:∀f∈o.s.pc,f.holds B:=λf q=>(a.rel.pc f q).2
 unfold a1P at i;unfold Po at Y;cases t:o.res with
 |eH ch=>rw[t]at Y;obtain⟨y, -,rfl⟩:=R.hN Y;exact absurd ⟨B,p⟩ (m o.s.pc aV)
 |ret v=>
  rw[t]at Y i;obtain⟨c,r,rfl⟩:=i;cases v with
  |bool b=>
   cases b with
   |true=>simp only[ag,ar]at r;rw[<-r]
   |false=>obtain⟨y, -,rfl⟩:=R.hN (show R.res (λ_=>true) (R.must o.s.pc (R.ok ()))=some x from Y);exact absurd ⟨B,p⟩ (m o.s.pc aV)
  |bS k e=>
   cases Z:ny k .bool with
   |false=>have Y:R.res (λ_=>true) (match ny k .bool with|true=>R.must (.fl e::o.s.pc) (R.ok ())|false=>.bad "another end")=some x:=Y;rw[Z]at Y;cases Y
   |true=>
    have Y:R.res (λ_=>true) (match ny k .bool with|true=>R.must (.fl e::o.s.pc) (R.ok ())|false=>.bad "another end")=some x:=Y;rw[Z]at Y;obtain⟨y, -,rfl⟩:=R.hN Y;obtain rfl:=iH Z;obtain⟨d,g1,⟨b,rfl⟩,g3⟩:=c7 r;cases b with
    |true=>rw[g3];rfl
    |false=>
     refine absurd ⟨B,λf q=>?_⟩ (m (.fl e::o.s.pc) aV);cases q with
     |head=>exact g1
     |tail _ q=>exact p f q
  |_=>cases Y
end Go.Proofs.YtokipodjggomfaaGreatDoor.Abs
namespace Go.Proofs.YtokipodjggomfaaGreatDoor.Abs
open Go
section
variable{K:TypeId->List Kd}{T:TypeId}{E:G}
theorem Ed{x y z:SE}{l:List Dt}(h:gZ E [x,y,z]=some l):∃a b c,l=[a,b,c]/\aj E x=some a/\aj E y=some b/\aj E z=some c:=by simp only[gZ,bW,aN]at h;obtain⟨a,d,q,⟨b,e,r,⟨c,f,u,g,rfl⟩,rfl⟩,rfl⟩:=h;obtain rfl:=ae g;exact⟨a,b,c,rfl,d,e,f⟩
end
end Go.Proofs.YtokipodjggomfaaGreatDoor.Abs
namespace Go.Proofs.YtokipodjggomfaaGreatDoor.Abs
open Go
section
variable(K:TypeId->List Kd)(T:TypeId)
def pZ(N:Nat)(l:List Dt):Prop:=∃(a1 a2:Option Addr)(k c1 c2 c d:Nat)(a b:List Dt),l=[.sl (.slice a1 k c1) T c a,.sl (.slice a2 k c2) T d b]/\oA K T a1 k c a/\oA K T a2 k d b/\hI a b/\ca a<N
def lj(N M:Nat)(l:List Dt):Prop:=∃(a1 a2:Option Addr)(k c1 c2 c d:Nat)(a b:List Dt)(i:Int),l=[.sl (.slice a1 k c1) T c a,.sl (.slice a2 k c2) T d b,.val (.int .i64 i)]/\oA K T a1 k c a/\oA K T a2 k d b/\hI a b/\ca a<N+1/\
 0<=i/\i<=k/\(k:Int)-i<M
end
section
variable{K:TypeId->List Kd}{T:TypeId}{E:G}
theorem AX{nm:String}{N:Nat}{x y:SE}(h:(Fact.rel nm false (pZ K T N) [x,y]).holds E):∃(a1 a2:Option Addr)(k c1 c2 c d:Nat)(a b:List Dt),
  aj E x=some (.sl (.slice a1 k c1) T c a)/\aj E y=some (.sl (.slice a2 k c2) T d b)/\oA K T a1 k c a/\oA K T a2 k d b/\hI a b/\ca a<N:=by
 obtain⟨l,e,a1,a2,k,c1,c2,c,d,a,b,rfl,A⟩:=h;obtain⟨d1,d2,e1,e2,e3⟩:=oQ e;injection e1 with f e1;injection e1 with g _;subst f;subst g;exact⟨a1,a2,k,c1,c2,c,d,a,b,e2,e3,A⟩
theorem rE{nm:String}{N M:Nat}{x y i:SE}(h:(Fact.rel nm false (lj K T N M) [x,y,i]).holds E):∃(a1 a2:Option Addr)(k c1 c2 c d:Nat)(a b:List Dt)(j:Int),
  aj E x=some (.sl (.slice a1 k c1) T c a)/\aj E y=some (.sl (.slice a2 k c2) T d b)/\aj E i=some (.val (.int .i64 j))/\oA K T a1 k c a/\oA K T a2 k d b/\hI a b/\ca a<N+1/\0<=j/\j<=k/\(k:Int)-j<M:=by
 obtain⟨l,e,a1,a2,k,c1,c2,c,d,a,b,j,rfl,A⟩:=h;obtain⟨d1,d2,d3,e1,e2,e3,f⟩:=Ed e;injection e1 with g e1;injection e1 with m e1;injection e1 with n _;subst g;subst m;subst n;exact⟨a1,a2,k,c1,c2,c,d,a,b,j,e2,e3,f,A⟩
theorem a0A{nm:String}{x y:SE}(h:(Fact.rel nm false (pZ K T 0) [x,y]).holds E):False:=by grind[AX]
theorem Xh{nm:String}{N:Nat}{x y i:SE}(h:(Fact.rel nm false (lj K T N 0) [x,y,i]).holds E):False:=by grind[rE]
theorem a4E{nm:String}{N:Nat}{x y:SE}(A:(Fact.rel nm false (pZ K T N) [x,y]).holds E)(a:(Fact.tr (.a2 (.bin .neq) (.a1 .len x) (.a1 .len y))).holds E):False:=by obtain⟨a1,a2,k,c1,c2,c,d,e,f,g1,g2, -⟩:=AX A;have a:aj E _=_:=a;rw[r0 (b:=(k:Int)) rfl (l8 g1) (l8 g2)]at a;have a:=ae a;injection a with a;injection a with a;simp at a
theorem Xj{nm a:String}{N:Nat}(f:K T=[.int .i64,.int .i64,.str,.sl T]){x y:SE}(A:(Fact.rel nm false (pZ K T (N+1)) [x,y]).holds E)(g:(Fact.rel a true (lj K T N (N+1)) [x,y,.int .i64 (.ofNat 0)]).holds E):False:=by obtain⟨a1,a2,k,c1,c2,b,c,d,e,g1,g2,g3,g4,g5,g6⟩:=AX A;have Z:=vR f g3;exact g ⟨_,Dy g1 g2 rfl,a1,a2,k,c1,c2,b,c,d,e,0,rfl,g3,g4,g5,g6,by omega,by omega,by omega⟩
theorem Nv{nm:String}{N M q:Nat}(c:K T=[.int .i64,.int .i64,.str,.sl T])(e:q<3){x y i:SE}(I:(Fact.rel nm false (lj K T N M) [x,y,i]).holds E)(A:(Fact.tr (.a2 (.bin .lss) i (.a1 .len x))).holds E)
  (f:(Fact.fl (.a2 (.bin .eql) (.a1 (.ld q) (.a2 .el x i)) (.a1 (.ld q) (.a2 .el y i)))).holds E):False:=by
 obtain⟨a1,a2,k,c1,c2,g,h,l,m,j,g1,g2,g3,g4,g5,g6,g7,g8,g9,g10⟩:=rE I;have n:=FK A g3 (l8 g1);obtain⟨p,rfl⟩:=et g8;obtain⟨u,v,b,e1,a,e3,d⟩:=og (p:=true) rfl (show aj E _=some _ from f);rw[xm c g1 g3 g4 (by omega)]at e1;rw[xm c g2 g3 g5 (by omega)]at a;obtain⟨z,f1,f2⟩:=g6.get e1;rw[a]at f1;obtain rfl:=ae f1;cases f2;injection e3 with e3;injection e3 with e3;have e3:false=b:=e3;rw[<-e3]at d;exact absurd (d.2 rfl) (by decide)
theorem SQ{nm h:String}{N M:Nat}(g:K T=[.int .i64,.int .i64,.str,.sl T]){x y i:SE}(I:(Fact.rel nm false (lj K T N M) [x,y,i]).holds E)(A:(Fact.tr (.a2 (.bin .lss) i (.a1 .len x))).holds E)
  (o:(Fact.rel h true (pZ K T N) [.a1 (.ld 3) (.a2 .el x i),.a1 (.ld 3) (.a2 .el y i)]).holds E):False:=by
 obtain⟨a1,a2,k,c1,c2,q,r,c,s,j,g1,g2,g3,g4,g5,g6,g7,g8,g9,g10⟩:=rE I;have V:=FK A g3 (l8 g1);obtain⟨p,rfl⟩:=et g8;obtain⟨X,Y,s1,t,u,v,w,t1,B,C,c12,d,m,D,F,G⟩:=uO g g1 g3 g4 (by omega);obtain⟨Z,y2,s2,H,J,L,O,t2,c20,c21,P,e,n,Q,R,S⟩:=uO g g2 g3 g5 (by omega);have e1:=d;have f:=e;rw[xm g g1 g3 g4 (by omega)]at e1;rw[xm g g2 g3 g5 (by omega)]at f;obtain⟨z,f1,f2⟩:=g6.get e1;rw[f]at f1;obtain rfl:=ae f1;have U:=Cf (l:=c) (a:=(p+1)*4) (b:=c.length) (by omega);rw[vo]at U;cases f2 with
 |sl _ _ _ _ _ _ _ _ _ _ _ W=>exact o ⟨_,vU d e,_,_,_,_,_,_,_,_,_,rfl,m,n,W,by omega⟩
theorem Xi{nm c:String}{N M:Nat}(h:K T=[.int .i64,.int .i64,.str,.sl T])(m:N<=1073741824){x y i:SE}(I:(Fact.rel nm false (lj K T N (M+1)) [x,y,i]).holds E)(A:(Fact.tr (.a2 (.bin .lss) i (.a1 .len x))).holds E)
  (l:(Fact.rel c true (lj K T N M) [x,y,.a2 (.bin .add) i (.int .i64 (.ofNat 1))]).holds E):False:=by
 obtain⟨a1,a2,k,c1,c2,d,e,f,g,j,g1,g2,g3,g4,g5,g6,g7,g8,g9,g10⟩:=rE I;have n:=FK A g3 (l8 g1);have Z:=vR h g4;have a:=r5 (E:=E) (b:=1) g3 (show aj E (.int .i64 (.ofNat 1))=_ from rfl) (by omega) (by omega);exact l ⟨_,Dy g1 g2 a,a1,a2,k,c1,c2,d,e,f,g,j+1,rfl,g4,g5,g6,g7,by omega,by omega,by omega⟩
theorem a7e{nm a:String}{N:Nat}{x y:SE}(A:(Fact.rel nm false (pZ K T N) [x,y]).holds E)(c:(Fact.rel a true dk [.a2 (.bin .eql) (.a1 .len x) (.a1 .len y)]).holds E):False:=by obtain⟨a1,a2,k,c1,c2,d,e,f,g,g1,g2, -⟩:=AX A;refine c (Gb.2 ?_);rw[r0 (b:=(k:Int)) rfl (l8 g1) (l8 g2)];show some (Dt.val (.bool (decide ((k:Int)=k))))=_;rw[zO rfl]
theorem a4C{nm d:String}{N M:Nat}(e:K T=[.int .i64,.int .i64,.str,.sl T])(o:N<=1073741824){x y i:SE}(I:(Fact.rel nm false (lj K T N M) [x,y,i]).holds E)(A:(Fact.tr (.a2 (.bin .lss) i (.a1 .len x))).holds E)
  (f:(Fact.rel d true ee [.a2 (.bin .add) i (.int .i64 (.ofNat 1)),.int .i64 (.ofNat 1073741825)]).holds E):False:=by
 obtain⟨a1,a2,k,c1,c2,g,h,l,n,j,g1,g2,g3,g4,g5,g6,g7,g8,g9,g10⟩:=rE I;have p:=FK A g3 (l8 g1);have Z:=vR e g4;have c:=r5 (E:=E) (b:=1) g3 (show aj E (.int .i64 (.ofNat 1))=_ from rfl) (by omega) (by omega);exact f (BE.2 (show∃(k:IntKind)(a m:Int),aj E _=some (.val (.int k a))/\aj E _=some (.val (.int .i64 m))/\0<=a/\a<m from⟨_,j+1,1073741825,c,rfl,by omega,by omega⟩))
theorem Zs{b:String}(c:(Fact.rel b true ee [.int .i64 (.ofNat 0),.int .i64 (.ofNat 1073741825)]).holds E):False:=
 c (BE.2 (show∃(k:IntKind)(a m:Int),aj E _=some (.val (.int k a))/\aj E _=some (.val (.int .i64 m))/\0<=a/\a<m from⟨_,0,1073741825,rfl,rfl,by decide,by decide⟩))
end
end Go.Proofs.YtokipodjggomfaaGreatDoor.Abs
namespace Go.Proofs.YtokipodjggomfaaGreatDoor.Abs
open Go
def b4(k n:Int)(s l:Nat):Prop:=
 (k=1/\ -576460752303423488<=n/\n<=576460752303423487/\s=0/\l=0)\/(k=2/\n=0/\s<=64/\l=0)\/((k=3\/k=4\/k=6)/\0<=n/\n<=1073741824/\s=0/\l=0)\/(k=5/\0<=n/\n<=1073741824/\s=0/\l<=64)\/
 (k=7/\n=0/\s=0/\l<=64)\/(k=8/\n=0/\s=0/\l=0)\/(k=9/\n=0/\s=0/\l=2)
inductive xF:Dt->Dt->Dt->Dt->Prop
 |mk (k n:Int) (s:ByteArray) (a:Option Addr) (l c:Nat) (t:TypeId) (g:Nat) (J:List Dt):b4 k n s.size l->
  (∀i d0 d1 d2 d3,J[i*4]? =some d0->J[i*4+1]? =some d1->J[i*4+2]? =some d2->J[i*4+3]? =some d3->xF d0 d1 d2 d3)->
  xF (.val (.int .i64 k)) (.val (.int .i64 n)) (.val (.string s)) (.sl (.slice a l c) t g J)
def fe(J:List Dt):Prop:=∀i d0 d1 d2 d3,J[i*4]? =some d0->J[i*4+1]? =some d1->J[i*4+2]? =some d2->J[i*4+3]? =some d3->xF d0 d1 d2 d3
theorem fe.nil:fe []:=λi d0 d1 d2 d3 h=>by simp at h
theorem fe.left {a b:List Dt} (h:fe (a++b)):fe a:=λi d0 d1 d2 d3 f A I W=>by
 have e:∀{j d},a[j]? =some d->(a++b)[j]? =some d:=λ{j d}c=>by
  rw[Aa (jK.1 c).1];exact c
 exact h i d0 d1 d2 d3 (e f) (e A) (e I) (e W)
theorem fe.right {a b:List Dt} {m:Nat} (g:a.length=m*4) (h:fe (a++b)):fe b:=λi d0 d1 d2 d3 c A I W=>by
 have e:∀{j d},b[j]? =some d->(a++b)[m*4+j]? =some d:=λ{j d}f=>by
  rw[A4 (by omega)];rw[show m*4+j-a.length=j by omega];exact f
 refine h (m+i) d0 d1 d2 d3 ?_ ?_ ?_ ?_
 .rw[show(m+i)*4=m*4+i*4 by omega];exact e c
 .rw[show(m+i)*4+1=m*4+(i*4+1) by omega];exact e A
 .rw[show(m+i)*4+2=m*4+(i*4+2) by omega];exact e I
 .rw[show(m+i)*4+3=m*4+(i*4+3) by omega];exact e W
theorem fe.append {a b:List Dt} {m:Nat} (c:a.length=m*4) (A:fe a) (I:fe b):fe (a++b):=λi d0 d1 d2 d3 e0 e1 e2 e3=>by
 by_cases V:i<m
 .have e:∀{j d},j<m*4->(a++b)[j]? =some d->a[j]? =some d:=λ{j d}f h=>by
    rw[Aa (by omega)]at h;exact h
  exact A i d0 d1 d2 d3 (e (by omega) e0) (e (by omega) e1) (e (by omega) e2) (e (by omega) e3)
 .have e:∀{q d},(a++b)[i*4+q]? =some d->b[(i-m)*4+q]? =some d:=λ{q d}h=>by
    rw[A4 (by omega)]at h;rw[show(i-m)*4+q=i*4+q-a.length by omega];exact h
  exact I (i-m) d0 d1 d2 d3 (e (q:=0) e0) (e e1) (e e2) (e e3)
theorem fe.iff {a b:List Dt} {m:Nat} (c:a.length=m*4):fe (a++b)↔fe a/\fe b:=⟨λh=>⟨h.left,h.right c⟩,λh=>h.1.append c h.2⟩
theorem fe.one {d0 d1 d2 d3:Dt}:fe [d0,d1,d2,d3]↔xF d0 d1 d2 d3:=by
 refine⟨λh=>h 0 d0 d1 d2 d3 rfl rfl rfl rfl,λh i b c d e a A I W=>?_⟩;cases i with
 |zero=>simp only[kx,du,cr,kA,ar]at a A I W;subst a;subst A;subst I;subst W;exact h
 |succ i=>rw[zZ (by simp only[bZ,dv];omega)]at a;cases a
theorem xF.iff {k n:Int} {s:ByteArray} {a:Option Addr} {l c:Nat} {t:TypeId} {g:Nat} {J:List Dt}:xF (.val (.int .i64 k)) (.val (.int .i64 n)) (.val (.string s)) (.sl (.slice a l c) t g J)↔b4 k n s.size l/\fe J:=by
 refine⟨λh=>?_,λh=>.mk _ _ _ _ _ _ _ _ _ h.1 h.2⟩;cases h with
 |mk _ _ _ _ _ _ _ _ _ A I=>exact⟨A,I⟩
section
variable(K:TypeId->List Kd)(T:TypeId)
def jz(l:List Dt):Prop:=∃(m' m:Nat)(j7 J:List Dt)(a:Option Addr)(k c g:Nat)(ss:List Dt)(j:Int),l=[.val (.int .i64 (.ofNat m')),.ls (K T) j7,.val (.int .i64 (.ofNat m)),.ls (K T) J,.sl (.slice a k c) T g ss,.val (.int .i64 j)]/\
 (fe (j7.take (m'*4))↔fe (J.take (m*4))/\fe (ss.take ((j+1).toNat*4)))/\ca (j7.take (m'*4))=ca (J.take (m*4))+ca (ss.take ((j+1).toNat*4))
def my(l:List Dt):Prop:=∃(m:Nat)(J:List Dt),l=[.val (.int .i64 (.ofNat m)),.ls (K T) J]/\fe (J.take (m*4))
end
section
variable{K:TypeId->List Kd}{T:TypeId}{E:G}
theorem Yk{g i j k m n:SE}{l:List Dt}(h:gZ E [g,i,j,k,m,n]=some l):∃a b c d e f,l=[a,b,c,d,e,f]/\aj E g=some a/\aj E i=some b/\aj E j=some c/\aj E k=some d/\aj E m=some e/\aj E n=some f:=by simp only[gZ,bW,aN]at h;obtain⟨a,o,q,⟨b,p,r,⟨c,s,u,⟨d,t,v,⟨e,x,w,⟨f,y,z,A,rfl⟩,rfl⟩,rfl⟩,rfl⟩,rfl⟩,rfl⟩:=h;obtain rfl:=ae A;exact⟨a,b,c,d,e,f,rfl,o,p,s,t,x,y⟩
theorem a5u{g h i j k l:SE}{a b c d e f:Dt}(A:aj E g=some a)(I:aj E h=some b)(W:aj E i=some c)(D:aj E j=some d)(h5:aj E k=some e)(h6:aj E l=some f):gZ E [g,h,i,j,k,l]=some [a,b,c,d,e,f]:=by simp[gZ,A,I,W,D,h5,h6]
theorem KZ{nm:String}{b d n e s i:SE}(h:(Fact.rel nm false (jz K T) [b,d,n,e,s,i]).holds E):∃(m' m:Nat)(j7 J:List Dt)(a:Option Addr)(k c g:Nat)(ss:List Dt)(j:Int),
  aj E b=some (.val (.int .i64 (.ofNat m')))/\aj E d=some (.ls (K T) j7)/\aj E n=some (.val (.int .i64 (.ofNat m)))/\aj E e=some (.ls (K T) J)/\aj E s=some (.sl (.slice a k c) T g ss)/\aj E i=some (.val (.int .i64 j))/\
  (fe (j7.take (m'*4))↔fe (J.take (m*4))/\fe (ss.take ((j+1).toNat*4)))/\ca (j7.take (m'*4))=ca (J.take (m*4))+ca (ss.take ((j+1).toNat*4)):=by
 obtain⟨l,f,m',m,j7,J,a,k,c,g,ss,j,rfl,A⟩:=h;obtain⟨d1,d2,d3,d4,d5,d6,e1,g1,g2,g3,g4,g5,g6⟩:=Yk f;injection e1 with o e1;injection e1 with p e1;injection e1 with q e1;injection e1 with r e1;injection e1 with t e1;injection e1 with u _;subst o;subst p;subst q;subst r;subst t;subst u;exact⟨m',m,j7,J,a,k,c,g,ss,j,g1,g2,g3,g4,g5,g6,A⟩
theorem SK{nm:String}{N M:Nat}(h:K T=[.int .i64,.int .i64,.str,.sl T])(L:M<=1073741824){n e s i:SE}(I:(Fact.rel nm false (e8 K T (N+1) M) [n,e,s,i]).holds E)(A:(Fact.tr (.a2 (.bin .geq) i (.int .i64 (.ofNat 0)))).holds E):
  ∃(m:Nat)(J:List Dt)(a:Option Addr)(k c g:Nat)(ss:List Dt)(p:Nat)(d0 d1 d2 d3:Dt),aj E n=some (.val (.int .i64 (.ofNat m)))/\aj E e=some (.ls (K T) J)/\aj E s=some (.sl (.slice a k c) T g ss)/\aj E i=some (.val (.int .i64 (p:Int)))/\m*4<=J.length/\
   aj E (.a2 (.bin .add) n (.int .i64 (.ofNat 1)))=some (.val (.int .i64 (.ofNat (m+1))))/\
   aj E (.a2 .sn (.a2 .sn (.a2 .sn (.a2 .sn (.a2 (.tk 4) e n) (.a1 (.ld 0) (.a2 .el s i))) (.a1 (.ld 1) (.a2 .el s i))) (.a1 (.ld 2) (.a2 .el s i))) (.a1 (.ld 3) (.a2 .el s i)))=some (.ls (K T) (J.take (m*4)++[d0,d1,d2,d3]))/\
   aj E (.a2 (.bin .sub) i (.int .i64 (.ofNat 1)))=some (.val (.int .i64 ((p:Int)-1)))/\ss.take ((p+1)*4)=ss.take (p*4)++[d0,d1,d2,d3]/\(p+1)*4<=ss.length:=by
 obtain⟨m,J,a,k,c,g,ss,j,g1,g2,g3,g4,g5,g6,g7,g9,g10,g11,g12⟩:=jV I;have w:0<=j:=Lx A g4;obtain⟨p,rfl⟩:=et w;have v:p<k:=by omega
 have f:(K T).length=4:=by rw[h];rfl
 obtain⟨x,y,str,a',k',c',Ag,z,c0,c1,c2,c3,O,P,Q,R⟩:=uO h g3 g4 g7 v;have B:=Sq h g3 g4 g7 v c0 c1 c2 c3;have D:=MI g5;have r:((p:Int)+1).toNat=p+1:=by omega
 rw[r]at g12;have t:aj E (.a2 (.tk 4) e n)=some (.ls (K T) (J.take (m*4))):=by grind[aj,Go.Proofs.YtokipodjggomfaaGreatDoor.Abs.e2]
 have d:(J.take (m*4)).length=m*4:=by rw[cG];omega
 have C:(K T)[0]? =some (.int .i64):=by rw[h];rfl
 have F:(K T)[1]? =some (.int .i64):=by rw[h];rfl
 have G:(K T)[2]? =some .str:=by rw[h];rfl
 have H:(K T)[3]? =some (.sl T):=by rw[h];rfl
 have s0:=eP t c0 (q:=.int .i64) (by rw[d,f,rT];exact C) ⟨_,rfl⟩;have s1:=eP s0 c1 (q:=.int .i64) (by rw[bL,d,f,il,oE (by omega)];exact F) ⟨_,rfl⟩;have s2:=eP s1 c2 (q:=.str) (by rw[bL,bL,d,f,il,il,ig,oE (by omega)];exact G) ⟨_,rfl⟩;have u:=eP s2 c3 (q:=.sl T) (by rw[bL,bL,bL,d,f,il,il,il,ig,ig,oE (by omega)];exact H) ⟨_,_,_,_,_,rfl⟩;rw[jI,jI,jI]at u;simp only[jG,ij]at u;have h5:(p+1)*4<=ca (ss.take ((p+1)*4)):=MI (by omega);have l:aj E (.a2 (.bin .add) n (.int .i64 (.ofNat 1)))=some (.val (.int .i64 (.ofNat (m+1)))):=r5 (b:=1) g1 rfl (by simp only[cq];omega) (by simp only[cq];omega);have o:aj E (.a2 (.bin .sub) i (.int .i64 (.ofNat 1)))=some (.val (.int .i64 ((p:Int)-1))):=rZ (b:=1) g4 rfl (by omega) (by omega);exact⟨m,J,a,k,c,g,ss,p,_,_,_,_,g1,g2,g3,g4,g5,l,u,o,B,by omega⟩
theorem K0{nm d f:String}{N M:Nat}(r:K T=[.int .i64,.int .i64,.str,.sl T])(t:M<=1073741824){n e s i l o:SE}(I:(Fact.rel nm false (e8 K T (N+1) M) [n,e,s,i]).holds E)(A:(Fact.tr (.a2 (.bin .geq) i (.int .i64 (.ofNat 0)))).holds E)
  (W:(Fact.rel f false (jz K T) [l,o,.a2 (.bin .add) n (.int .i64 (.ofNat 1)),.a2 .sn (.a2 .sn (.a2 .sn (.a2 .sn (.a2 (.tk 4) e n) (.a1 (.ld 0) (.a2 .el s i))) (.a1 (.ld 1) (.a2 .el s i))) (.a1 (.ld 2) (.a2 .el s i))) (.a1 (.ld 3) (.a2 .el s i)),s,.a2 (.bin .sub) i (.int .i64 (.ofNat 1))]).holds E)
  (u:(Fact.rel d true (jz K T) [l,o,n,e,s,i]).holds E):False:=by
 obtain⟨m,J,a,k,c,g,ss,p,d0,d1,d2,d3,g1,g2,g3,g4,g5,g6,g7,g8,g9,g10⟩:=SK r t I A;obtain⟨m',m1,j7,v,a1,y,c1,w,x,z,f1,f2,f3,f4,f5,f6,f7,f8⟩:=KZ W;rw[g6]at f3;rw[g7]at f4;rw[g3]at f5;rw[g8]at f6;have f3:=ae f3;injection f3 with f3;injection f3 with _ f3
 have f4:=ae f4;injection f4 with _ f4
 have f5:=ae f5;injection f5 with _ _ _ f5
 have f6:=ae f6;injection f6 with f6;injection f6 with _ f6
 have f3:m+1=m1:=k8 f3;subst f3;subst f4;subst f5;subst f6;have b:(J.take (m*4)).length=m*4:=by rw[cG];omega
 have e1:((p:Int)-1+1).toNat=p:=by omega
 have e2:((p:Int)+1).toNat=p+1:=by omega
 have q:(J.take (m*4)++[d0,d1,d2,d3]).take ((m+1)*4)=J.take (m*4)++[d0,d1,d2,d3]:=fv (by rw[bL,b];simp only[bZ,dv];omega);have j:(ss.take (p*4)).length=p*4:=by rw[cG];omega
 rw[e1,q,fe.iff b]at f7;rw[e1,q,dA]at f8;refine u ⟨_,a5u f1 f2 g1 g2 g3 g4,m',m,j7,J,a,k,c,g,ss,p,rfl,?_,?_⟩
 .rw[e2,g9,fe.iff j,f7];exact⟨λh=>⟨h.1.1,h.2,h.1.2⟩,λh=>⟨⟨h.1,h.2.2⟩,h.2.1⟩⟩
 .rw[e2,g9,dA,f8];omega
theorem a0w{nm d:String}{N M:Nat}{n e s i:SE}(I:(Fact.rel nm false (e8 K T N M) [n,e,s,i]).holds E)(A:(Fact.fl (.a2 (.bin .geq) i (.int .i64 (.ofNat 0)))).holds E)(f:(Fact.rel d true (jz K T) [n,e,n,e,s,i]).holds E):False:=by
 obtain⟨m,J,a,k,c,g,ss,j,g1,g2,g3,g4,g5,g6,g7,g9,g10,g11,g12⟩:=jV I;have A:aj E _=_:=A;rw[r0 (b:=0) rfl g4 rfl]at A;have A:=ae A;injection A with A;injection A with A;have l:=gp A;have e1:(j+1).toNat=0:=by omega
 refine f ⟨_,a5u g1 g2 g1 g2 g3 g4,m,m,J,J,a,k,c,g,ss,j,rfl,?_,?_⟩
 .rw[e1,kx,rO];exact⟨λh=>⟨h,fe.nil⟩,λh=>h.1⟩
 .rw[e1,kx,rO];simp only[ca];omega
theorem D3{nm:String}{N:Nat}(p:K T=[.int .i64,.int .i64,.str,.sl T])(z:N+1<=1073741824){n e:SE}(I:(Fact.rel nm false (b9 K T (N+1)) [n,e]).holds E)(A:(Fact.tr (.a2 (.bin .gtr) n (.int .i64 (.ofNat 0)))).holds E):
  ∃(m:Nat)(J:List Dt)(k j:Int)(str:ByteArray)(a:Option Addr)(l c g:Nat)(ss:List Dt),aj E n=some (.val (.int .i64 (.ofNat (m+1))))/\aj E e=some (.ls (K T) J)/\(m+1)*4<=J.length/\aj E (.a2 (.bin .sub) n (.int .i64 (.ofNat 1)))=some (.val (.int .i64 (.ofNat m)))/\
   aj E (.a2 (.at 4 0) e (.a2 (.bin .sub) n (.int .i64 (.ofNat 1))))=some (.val (.int .i64 k))/\aj E (.a2 (.at 4 1) e (.a2 (.bin .sub) n (.int .i64 (.ofNat 1))))=some (.val (.int .i64 j))/\aj E (.a2 (.at 4 2) e (.a2 (.bin .sub) n (.int .i64 (.ofNat 1))))=some (.val (.string str))/\
   aj E (.a2 (.at 4 3) e (.a2 (.bin .sub) n (.int .i64 (.ofNat 1))))=some (.sl (.slice a l c) T g ss)/\oA K T a l g ss/\J.take ((m+1)*4)=J.take (m*4)++[.val (.int .i64 k),.val (.int .i64 j),.val (.string str),.sl (.slice a l c) T g ss]:=by
 obtain⟨o,J,g1,g2,g3,g4,g5⟩:=sA I;have Z:=T1 A g1;obtain⟨m,rfl⟩:∃m,o=m+1:=⟨o-1,by simp only[cq]at Z;omega⟩;have D:=MI g3;have f:aj E (.a2 (.bin .sub) n (.int .i64 (.ofNat 1)))=some (.val (.int .i64 (.ofNat m))):=by rw[rZ (b:=1) g1 rfl (by simp only[cq];omega) (by simp only[cq];omega)];simp only[cq,Int.natCast_add,Int.natCast_one,vw]
 obtain⟨x,y,str,a,l,c,g,ss,c0,c1,c2,c3,r,B⟩:=oN p g4 (n:=m) (by omega);have d:∀q,aj E (.a2 (.at 4 q) e (.a2 (.bin .sub) n (.int .i64 (.ofNat 1))))=J[m*4+q]? :=λq=>by
  show(aj E e).bind _=_;rw[g2,aW,f];rfl
 obtain⟨C,F,G,H,s,t,u,v,w⟩:=xS (l:=J) (n:=m) (by omega);have e0:=ae (c0.symm.trans s);have e1:=ae (c1.symm.trans t);have h:=ae (c2.symm.trans u);have i:=ae (c3.symm.trans v);exact⟨m,J,x,y,str,a,l,c,g,ss,g1,g2,g3,f,(d 0).trans c0,(d 1).trans c1,(d 2).trans c2,(d 3).trans c3,r,by rw[w,<-e0,<-e1,<-h,<-i]⟩
theorem IV{nm:String}{n e:SE}(h:(Fact.rel nm false (my K T) [n,e]).holds E):∃(m:Nat)(J:List Dt),aj E n=some (.val (.int .i64 (.ofNat m)))/\aj E e=some (.ls (K T) J)/\fe (J.take (m*4)):=by obtain⟨l,a,m,J,rfl,A⟩:=h;obtain⟨d1,d2,e1,e2,e3⟩:=oQ a;injection e1 with b e1;injection e1 with c _;subst b;subst c;exact⟨m,J,e2,e3,A⟩
theorem FL{nm j:String}{N:Nat}(o:K T=[.int .i64,.int .i64,.str,.sl T])(v:N+1<=1073741824){n e r s:SE}(I:(Fact.rel nm false (b9 K T (N+1)) [n,e]).holds E)(A:(Fact.tr (.a2 (.bin .gtr) n (.int .i64 (.ofNat 0)))).holds E)
  (W:(Fact.rel j false (jz K T) [r,s,.a2 (.bin .sub) n (.int .i64 (.ofNat 1)),e,.a2 (.at 4 3) e (.a2 (.bin .sub) n (.int .i64 (.ofNat 1))),.a2 (.bin .sub) (.a1 .len (.a2 (.at 4 3) e (.a2 (.bin .sub) n (.int .i64 (.ofNat 1))))) (.int .i64 (.ofNat 1))]).holds E):
  ∃(m m':Nat)(J j7:List Dt)(k i:Int)(str:ByteArray)(l:Nat)(w:List Dt),aj E n=some (.val (.int .i64 (.ofNat (m+1))))/\aj E e=some (.ls (K T) J)/\aj E r=some (.val (.int .i64 (.ofNat m')))/\aj E s=some (.ls (K T) j7)/\
   aj E (.a2 (.at 4 0) e (.a2 (.bin .sub) n (.int .i64 (.ofNat 1))))=some (.val (.int .i64 k))/\aj E (.a2 (.at 4 1) e (.a2 (.bin .sub) n (.int .i64 (.ofNat 1))))=some (.val (.int .i64 i))/\aj E (.a2 (.at 4 2) e (.a2 (.bin .sub) n (.int .i64 (.ofNat 1))))=some (.val (.string str))/\
   aj E (.a1 .len (.a2 (.at 4 3) e (.a2 (.bin .sub) n (.int .i64 (.ofNat 1)))))=some (.val (.int .i64 l))/\
   (fe (J.take ((m+1)*4))↔fe (j7.take (m'*4))/\b4 k i str.size l)/\ca (J.take ((m+1)*4))=ca (j7.take (m'*4))+4:=by
 obtain⟨m,J,k,i,str,a,l,c,g,ss,g1,g2,g3,g4,g5,g6,g7,g8,g9,g10⟩:=D3 o v I A;obtain⟨m',m1,j7,x,a1,D,c1,y,z,F,f1,f2,f3,f4,f5,f6,f7,f8⟩:=KZ W;have Z:=vR o g9;obtain⟨B,C,d,f,G,H,t⟩:=sA I;rw[g1]at d;rw[g2]at f;have d:=ae d;injection d with d;injection d with _ d
 have f:=ae f;injection f with _ f
 have d:m+1=B:=k8 d;subst d;subst f;rw[g10,dA]at t;simp only[ca,Lc]at t;have h:aj E (.a2 (.bin .sub) (.a1 .len (.a2 (.at 4 3) e (.a2 (.bin .sub) n (.int .i64 (.ofNat 1))))) (.int .i64 (.ofNat 1)))=some (.val (.int .i64 ((l:Int)-1))):=rZ (b:=1) (l8 g8) rfl (by omega) (by omega);rw[g4]at f3;rw[g2]at f4;rw[g8]at f5;rw[h]at f6;have f3:=ae f3;injection f3 with f3;injection f3 with _ f3
 have f4:=ae f4;injection f4 with _ f4
 have f5:=ae f5;injection f5 with _ _ _ f5
 have f6:=ae f6;injection f6 with f6;injection f6 with _ f6
 have f3:m=m1:=k8 f3;subst f3;subst f4;subst f5;subst f6;have e1:((l:Int)-1+1).toNat=l:=by omega
 have p:(K T).length=4:=by rw[o];rfl
 have q:=g9.1;rw[p]at q;rw[e1,fv (show ss.length<=l*4 by omega)]at f7 f8;have u:(J.take (m*4)).length=m*4:=by rw[cG];omega
 refine⟨m,m',J,j7,k,i,str,l,ss,g1,g2,f1,f2,g5,g6,g7,l8 g8,?_,?_⟩
 .grind[fe.iff,fe.one,xF.iff]
 .rw[g10,dA,f8];simp only[ca,Lc];omega
theorem D9{nm a b c:String}{N:Nat}(g:K T=[.int .i64,.int .i64,.str,.sl T])(h:N+1<=1073741824){n e d f:SE}(I:(Fact.rel nm false (b9 K T (N+1)) [n,e]).holds E)(A:(Fact.tr (.a2 (.bin .gtr) n (.int .i64 (.ofNat 0)))).holds E)
  (W:(Fact.rel a false (jz K T) [d,f,.a2 (.bin .sub) n (.int .i64 (.ofNat 1)),e,.a2 (.at 4 3) e (.a2 (.bin .sub) n (.int .i64 (.ofNat 1))),.a2 (.bin .sub) (.a1 .len (.a2 (.at 4 3) e (.a2 (.bin .sub) n (.int .i64 (.ofNat 1))))) (.int .i64 (.ofNat 1))]).holds E)
  (D:(Fact.rel b false (my K T) [n,e]).holds E) (i:(Fact.rel c true (my K T) [d,f]).holds E):False:=by
 obtain⟨m,m',J,j7,k,o,str,l,ss,g1,g2,g3,g4,g5,g6,g7,g8,g9, -⟩:=FL g h I A W;obtain⟨m2,j,f1,f2,f3⟩:=IV D;rw[g1]at f1;rw[g2]at f2;have f1:=ae f1;injection f1 with f1;injection f1 with _ f1
 have f2:=ae f2;injection f2 with _ f2
 have f1:m+1=m2:=k8 f1;subst f1;subst f2;exact i ⟨_,vU g3 g4,m',j7,rfl,(g9.1 f3).1⟩
theorem bT{nm f:String}{N:Nat}(h:K T=[.int .i64,.int .i64,.str,.sl T])(i:N+1<=1073741824){n e:SE}(I:(Fact.rel nm false (b9 K T (N+1)) [n,e]).holds E)(A:(Fact.tr (.a2 (.bin .gtr) n (.int .i64 (.ofNat 0)))).holds E)(D:(Fact.rel f false (my K T) [n,e]).holds E):
  ∃(k d:Int)(str:ByteArray)(l:Nat),aj E (.a2 (.at 4 0) e (.a2 (.bin .sub) n (.int .i64 (.ofNat 1))))=some (.val (.int .i64 k))/\aj E (.a2 (.at 4 1) e (.a2 (.bin .sub) n (.int .i64 (.ofNat 1))))=some (.val (.int .i64 d))/\aj E (.a2 (.at 4 2) e (.a2 (.bin .sub) n (.int .i64 (.ofNat 1))))=some (.val (.string str))/\
   aj E (.a1 .len (.a2 (.at 4 3) e (.a2 (.bin .sub) n (.int .i64 (.ofNat 1)))))=some (.val (.int .i64 l))/\b4 k d str.size l:=by
 obtain⟨m,J,k,d,str,a,l,c,g,ss,g1,g2,g3,g4,g5,g6,g7,g8,g9,g10⟩:=D3 h i I A;obtain⟨m2,j,f1,f2,f3⟩:=IV D;rw[g1]at f1;rw[g2]at f2;have f1:=ae f1;injection f1 with f1;injection f1 with _ f1
 have f2:=ae f2;injection f2 with _ f2
 have f1:m+1=m2:=k8 f1;subst f1;subst f2;have b:(J.take (m*4)).length=m*4:=by rw[cG];omega
 rw[g10,fe.iff b,fe.one,xF.iff]at f3;exact⟨k,d,str,l,g5,g6,g7,l8 g8,f3.2.1⟩
end
section
variable(K:TypeId->List Kd)(T:TypeId)
def kG(l:List Dt):Prop:=∃(w:Int)(m:Nat)(J:List Dt),l=[.val (.int .i64 w),.val (.int .i64 (.ofNat m)),.ls (K T) J]/\0<=w/\w+ca (J.take (m*4))<=1000000000
def fk(l:List Dt):Prop:=∃(M w:Int)(m:Nat)(J:List Dt),l=[.val (.int .i64 M),.val (.int .i64 w),.val (.int .i64 (.ofNat m)),.ls (K T) J]/\M<=w+ca (J.take (m*4))
end
section
variable{K:TypeId->List Kd}{T:TypeId}{E:G}
theorem A8{nm:String}{w n e:SE}(h:(Fact.rel nm false (kG K T) [w,n,e]).holds E):∃(x:Int)(m:Nat)(J:List Dt),aj E w=some (.val (.int .i64 x))/\aj E n=some (.val (.int .i64 (.ofNat m)))/\aj E e=some (.ls (K T) J)/\0<=x/\x+ca (J.take (m*4))<=1000000000:=by obtain⟨l,a,x,m,J,rfl,A⟩:=h;obtain⟨d1,d2,d3,e1,e2,e3,b⟩:=Ed a;injection e1 with c e1;injection e1 with d e1;injection e1 with f _;subst c;subst d;subst f;exact⟨x,m,J,e2,e3,b,A⟩
theorem DT{nm:String}{M w n e:SE}(h:(Fact.rel nm false (fk K T) [M,w,n,e]).holds E):∃(a x:Int)(m:Nat)(J:List Dt),aj E M=some (.val (.int .i64 a))/\aj E w=some (.val (.int .i64 x))/\aj E n=some (.val (.int .i64 (.ofNat m)))/\aj E e=some (.ls (K T) J)/\a<=x+ca (J.take (m*4)):=by obtain⟨l,b,a,x,m,J,rfl,A⟩:=h;obtain⟨d1,d2,d3,d4,e1,e2,e3,c,d⟩:=qw b;injection e1 with f e1;injection e1 with g e1;injection e1 with i e1;injection e1 with j _;subst f;subst g;subst i;subst j;exact⟨a,x,m,J,e2,e3,c,d,A⟩
theorem vD{nm d f g:String}{N c:Nat}(j:K T=[.int .i64,.int .i64,.str,.sl T])(o:N+1<=1073741824)(r:c<=4){w n e h i:SE}(I:(Fact.rel nm false (b9 K T (N+1)) [n,e]).holds E)(A:(Fact.tr (.a2 (.bin .gtr) n (.int .i64 (.ofNat 0)))).holds E)
  (W:(Fact.rel d false (jz K T) [h,i,.a2 (.bin .sub) n (.int .i64 (.ofNat 1)),e,.a2 (.at 4 3) e (.a2 (.bin .sub) n (.int .i64 (.ofNat 1))),.a2 (.bin .sub) (.a1 .len (.a2 (.at 4 3) e (.a2 (.bin .sub) n (.int .i64 (.ofNat 1))))) (.int .i64 (.ofNat 1))]).holds E)
  (D:(Fact.rel f false (kG K T) [w,n,e]).holds E) (p:(Fact.rel g true (kG K T) [.a2 (.bin .add) w (.int .i64 (.ofNat c)),h,i]).holds E):False:=by
 obtain⟨m,m',J,j7,k,s,str,l,ss,g1,g2,g3,g4,g5,g6,g7,g8, -,g9⟩:=FL j o I A W;obtain⟨x,m2,q,f0,f1,f2,f3,f4⟩:=A8 D;rw[g1]at f1;rw[g2]at f2;have f1:=ae f1;injection f1 with f1;injection f1 with _ f1
 have f2:=ae f2;injection f2 with _ f2
 have f1:m+1=m2:=k8 f1;subst f1;subst f2;have a:aj E (.a2 (.bin .add) w (.int .i64 (.ofNat c)))=some (.val (.int .i64 (x+c))):=r5 (b:=c) f0 rfl (by omega) (by omega);exact p ⟨_,Dy a g3 g4,x+c,m',j7,rfl,by omega,by omega⟩
theorem rV{nm h i j o:String}{N c:Nat}(r:K T=[.int .i64,.int .i64,.str,.sl T])(s:N+1<=1073741824)(C:c<=4){w M n e p q:SE}(I:(Fact.rel nm false (b9 K T (N+1)) [n,e]).holds E)(A:(Fact.tr (.a2 (.bin .gtr) n (.int .i64 (.ofNat 0)))).holds E)
  (W:(Fact.rel h false (jz K T) [p,q,.a2 (.bin .sub) n (.int .i64 (.ofNat 1)),e,.a2 (.at 4 3) e (.a2 (.bin .sub) n (.int .i64 (.ofNat 1))),.a2 (.bin .sub) (.a1 .len (.a2 (.at 4 3) e (.a2 (.bin .sub) n (.int .i64 (.ofNat 1))))) (.int .i64 (.ofNat 1))]).holds E)
  (D:(Fact.rel i false (kG K T) [w,n,e]).holds E) (h5:(Fact.rel j false (fk K T) [M,.a2 (.bin .add) w (.int .i64 (.ofNat c)),p,q]).holds E) (t:(Fact.rel o true (fk K T) [M,w,n,e]).holds E):False:=by
 obtain⟨m,m',J,j7,k,F,str,l,ss,g1,g2,g3,g4,g5,g6,g7,g8, -,g9⟩:=FL r s I A W;obtain⟨x,m2,u,f0,f1,f2,f3,f4⟩:=A8 D;obtain⟨v,y,m3,z,B,d,a,f,G⟩:=DT h5;rw[g1]at f1;rw[g2]at f2;rw[g3]at a;rw[g4]at f;have f1:=ae f1;injection f1 with f1;injection f1 with _ f1
 have f2:=ae f2;injection f2 with _ f2
 have a:=ae a;injection a with a;injection a with _ a
 have f:=ae f;injection f with _ f
 have f1:m+1=m2:=k8 f1;have a:m'=m3:=k8 a;subst f1;subst f2;subst a;subst f;have g:aj E (.a2 (.bin .add) w (.int .i64 (.ofNat c)))=some (.val (.int .i64 (x+c))):=r5 (b:=c) f0 rfl (by omega) (by omega);rw[g]at d;have d:=ae d;injection d with d;injection d with _ d
 exact t ⟨_,Yl B f0 g1 g2,v,x,m+1,J,rfl,by omega⟩
theorem TR{nm a:String}{w n e:SE}(D:(Fact.rel nm false (kG K T) [w,n,e]).holds E)(c:(Fact.rel a true (fk K T) [w,w,n,e]).holds E):False:=by obtain⟨x,m2,b,f0,f1,f2,f3,f4⟩:=A8 D;exact c ⟨_,Yl f0 f0 f1 f2,x,x,m2,b,rfl,by omega⟩
theorem C6{op:BinOp}(d:mc op=true){b:Bool}{x:SE}{a c:Int}(h:aj E (.a2 (.bin op) x (.int .i64 c))=some (.val (.bool b)))(Y:aj E x=some (.val (.int .i64 a))):uW op a c=b:=by
 have e:DQ (.a2 (.bin op) x (.int .i64 c))=some (op,x,.i64,c):=by show(match mc op with|false=>none|true=>_)=_;rw[d]
 obtain⟨j,g1,e1⟩:=oq e h;rw[Y]at g1;have g1:=ae g1;injection g1 with g1;injection g1 with _ g1;subst g1;injection e1 with e1;injection e1 with e1;exact e1.symm
theorem bc{x:SE}{a c:Int}(h:(Fact.tr (.a2 (.bin .eql) x (.int .i64 c))).holds E)(Y:aj E x=some (.val (.int .i64 a))):a=c:=bq (C6 (op:=.eql) rfl h Y)
theorem af{x:SE}{a c:Int}(h:(Fact.fl (.a2 (.bin .eql) x (.int .i64 c))).holds E)(Y:aj E x=some (.val (.int .i64 a))):a≠c:=gp (C6 (op:=.eql) rfl h Y)
theorem gK{x:SE}{a c:Int}(h:(Fact.tr (.a2 (.bin .leq) x (.int .i64 c))).holds E)(Y:aj E x=some (.val (.int .i64 a))):a<=c:=bq (C6 (op:=.leq) rfl h Y)
theorem kp{x:SE}{a c:Int}(h:(Fact.fl (.a2 (.bin .leq) x (.int .i64 c))).holds E)(Y:aj E x=some (.val (.int .i64 a))):¬a<=c:=gp (C6 (op:=.leq) rfl h Y)
theorem ej{x:SE}{a c:Int}(h:(Fact.tr (.a2 (.bin .geq) x (.int .i64 c))).holds E)(Y:aj E x=some (.val (.int .i64 a))):c<=a:=bq (C6 (op:=.geq) rfl h Y)
theorem ry{x:SE}{a c:Int}(h:(Fact.fl (.a2 (.bin .geq) x (.int .i64 c))).holds E)(Y:aj E x=some (.val (.int .i64 a))):¬c<=a:=gp (C6 (op:=.geq) rfl h Y)
theorem WY{x:SE}{a c:Int}(h:(Fact.tr (.a2 (.bin .gtr) x (.int .i64 c))).holds E)(Y:aj E x=some (.val (.int .i64 a))):c<a:=bq (C6 (op:=.gtr) rfl h Y)
theorem bV{x:SE}{s:ByteArray}(h:aj E x=some (.val (.string s))):aj E (.a1 .len x)=some (.val (.int .i64 s.size)):=by show(aj E x).bind _=_;rw[h];rfl
theorem a1E{b:Bool}{x:SE}{s:ByteArray}(h:aj E (.a2 (.bin .eql) x (.str []))=some (.val (.bool b)))(Y:aj E x=some (.val (.string s))):(b=true↔s.size=0):=by
 obtain⟨u,v,q,g1,g2,g3,g4⟩:=og (p:=true) rfl h;rw[Y]at g1;have g1:=ae g1;injection g1 with g1
 have g2:=ae (show some (Dt.val (.string ⟨⟨[]⟩⟩))=some _ from g2);injection g2 with g2;subst g1;subst g2;injection g3 with g3;injection g3 with g3;have g3:b=q:=g3;rw[g3,g4];constructor
 .intro e;injection e with e;rw[e];rfl
 .intro e;have:s=⟨⟨[]⟩⟩:=by
   cases s with
   |mk d=>have a:d.size=0:=e;rw[Array.eq_empty_of_size_eq_zero a]
  rw[this]
theorem kn{x:SE}{s:ByteArray}(h:(Fact.tr (.a2 (.bin .eql) x (.str []))).holds E)(Y:aj E x=some (.val (.string s))):s.size=0:=(a1E h Y).1 rfl
theorem ko{x:SE}{s:ByteArray}(h:(Fact.fl (.a2 (.bin .eql) x (.str []))).holds E)(Y:aj E x=some (.val (.string s))):s.size≠0:=λe=>by
 have:=(a1E h Y).2 e;cases this
end
end Go.Proofs.YtokipodjggomfaaGreatDoor.Abs
namespace Go.Proofs.YtokipodjggomfaaGreatDoor.Abs
open Go
def lT(l:List Dt):Prop:=∃a b c d,l=[a,b,c,d]/\xF a b c d
section
variable{K:TypeId->List Kd}{T:TypeId}{E:G}
theorem FU{nm:String}{B:Nat}(u:K T=[.int .i64,.int .i64,.str,.sl T]){x y z t:SE}(A:(Fact.rel nm false (kO K T B) [x,y,z,t]).holds E):∃(k n:Int)(s:ByteArray)(a:Option Addr)(l c g:Nat)(ss:List Dt),aj E x=some (.val (.int .i64 k))/\aj E y=some (.val (.int .i64 n))/\aj E z=some (.val (.string s))/\aj E t=some (.sl (.slice a l c) T g ss)/\
  oA K T a l g ss/\Dt.jx K (K T) 0 [.val (.int .i64 k),.val (.int .i64 n),.val (.string s),.sl (.slice a l c) T g ss]/\ca ss+4<B/\
  aj E (.a2 .sn (.a2 .sn (.a2 .sn (.a2 .sn (.a1 (.nl [.int .i64,.int .i64,.str,.sl T]) (.bool true)) x) y) z) t)=some (.ls (K T) [.val (.int .i64 k),.val (.int .i64 n),.val (.string s),.sl (.slice a l c) T g ss]):=by
 obtain⟨li,D, -,I,W⟩:=A;obtain⟨a,b,c,d,rfl,e1,f,h,C⟩:=qw D;have e:(K T).length=4:=by rw[u];rfl
 have v:aj E (.a1 (.nl [.int .i64,.int .i64,.str,.sl T]) (.bool true))=some (.ls (K T) []):=by rw[u];rfl
 have j:∀(q:Nat)d',q<4->([a,b,c,d]:List Dt)[q]? =some d'->∃k,(K T)[q]? =some k/\k.fits d':=by
  intro q d' F w;have:=(I.get w).1
  rwa [du,e,jH F]at this
 obtain⟨G,m,f0⟩:=j 0 a (by omega) rfl;obtain⟨H,o,f1⟩:=j 1 b (by omega) rfl;obtain⟨J,p,f2⟩:=j 2 c (by omega) rfl;obtain⟨L,r,f3⟩:=j 3 d (by omega) rfl;have s0:=eP v e1 (q:=G) (by rw[e];exact m) f0;have s1:=eP s0 f (q:=H) (by rw[e];exact o) f1;have s2:=eP s1 h (q:=J) (by rw[e];exact p) f2;have M:=eP s2 C (q:=L) (by rw[e];exact r) f3;have w:=(I.get (i:=3) (d:=d) rfl).2;rw[u]at m o p r;simp only[cr,kA,ar]at m o p r;subst m;subst o;subst p;subst r;obtain⟨k,rfl⟩:=f0;obtain⟨n,rfl⟩:=f1;obtain⟨s,rfl⟩:=f2;obtain⟨a',l,c',g,ss,rfl,g1⟩:=IX f3 w;simp only[ca,Lc]at W;exact⟨k,n,s,a',l,c',g,ss,e1,f,h,C,g1,I,by omega,M⟩
theorem LK{nm:String}{x y z t:SE}(h:(Fact.rel nm false lT [x,y,z,t]).holds E):∃a b c d,aj E x=some a/\aj E y=some b/\aj E z=some c/\aj E t=some d/\xF a b c d:=by obtain⟨l,e,a,b,c,d,rfl,A⟩:=h;obtain⟨d1,d2,d3,d4,e1,e2,e3,f,g⟩:=qw e;injection e1 with i e1;injection e1 with j e1;injection e1 with k e1;injection e1 with m _;subst i;subst j;subst k;subst m;exact⟨a,b,c,d,e2,e3,f,g,A⟩
end
section
variable{K:TypeId->List Kd}{T:TypeId}{E:G}
theorem SJ{nm:String}{M:Nat}{n e s i:SE}(h:(Fact.rel nm false (e8 K T 0 M) [n,e,s,i]).holds E):False:=by grind[jV]
theorem R7{nm:String}{n e:SE}(h:(Fact.rel nm false (b9 K T 0) [n,e]).holds E):False:=by grind[sA]
end
theorem GL{P:Program}{c:Nat->bp}{B:Nat}(z:eb P (c 0))(h:∀N,N+1<=B->eb P (c N)->eb P (c (N+1))):∀N,N<=B->eb P (c N)
 |0,_=>z
 |N+1,a=>h N a (GL z h N (by omega))
end Go.Proofs.YtokipodjggomfaaGreatDoor.Abs
namespace Go.Proofs.YtokipodjggomfaaGreatDoor.Abs
open Go Go.ChangeShapes
theorem Bd{H:Type}{qf:TypeId×Value->H}{P:Program}{w:World}{base:Nat}{spare:Nat->Bool}{n:Nat}{t:TypeId}{cs:List Value}{name:String}{d:DataW H}{p:List MemPlace}{ms:Array (String×TypeId)}
  (b:P.underlying t=some (.interface ms)) (h:DataW.trod qf P w base spare false n t cs=some (.iface name d,p)):∃u v,cs=[.iface u v]/\P.typeName? 3 u=some name:=by
 cases n with
 |zero=>simp[DataW.trod]at h
 |succ n=>
  unfold DataW.trod at h;rw[b]at h;simp only at h;split at h<;>first|(cases h;done)|(rename_i heq;injection heq with heq;cases heq;done)|skip
  rename_i u v heq;cases a:P.typeName? 3 u with
  |none=>rw[a]at h;cases h
  |some q=>rw[a]at h;simp only[aN,bK,DataW.iface.injEq]at h;obtain⟨_,_,⟨⟨rfl,_⟩,_⟩⟩:=h;exact⟨u,v,rfl,a⟩
theorem He{P:Program}{w:World}{n:String}{d:DataW Unit}:∀{l:List (String×DataW Unit)}{ps:List MemPlace},DataW.LaidVars P w l ps->(n,d)∈l->
  ∃g t cs fuel p,P.globalNamed n=some g/\(P.globals[g]?).map (·.type)=some t/\w.var? P n=some cs/\DataW.trod (λ_=>()) P w 0 (λ_=>true) false fuel t cs.toList=some (d,p)/\∀x∈MemPlace.row ⟨g,0,none⟩ cs.size,x∈ps
 | [],_,_,h=>by cases h
 |(m,e)::l,ps,f,b=>by
  obtain⟨g,t,cs,fuel,p,q,A,I,W,D,h5,rfl⟩:=f;cases b with
  |head=>exact⟨g,t,cs,fuel,p,A,I,W,D,λx Y=>xL _ (xL _ Y)⟩
  |tail _ b=>obtain⟨i,Q,c,a,p',j,k,o,r,s⟩:=He h5 b;exact⟨i,Q,c,a,p',j,k,o,r,λx Y=>zY _ (s x Y)⟩
theorem wV{P:Program}{w:World}{laid:List (String×DataW Unit)}(h:laidMetH P laid w):laidMet P (laid.filter λx=>x.2.handleName?.isNone) w:=by
 unfold laidMetH at h;split at h
 .rename_i b;have:(laid.filter λx=>x.2.handleName?.isNone)=laid:=by
   rw[List.filter_eq_self];intro x a;cases c:x.2.handleName? with
   |none=>rfl
   |some s=>
    have:x∈laid.filter λx=>x.2.handleName?.isSome:=vj.2 ⟨a,by rw[c];rfl⟩
    rw[b]at this;cases this
  rw[this];exact h
 .exact h.1
theorem Cn{P:Program}{w:World}{laid:List (String×DataW Unit)}(h:laidMetH P laid w){n name:String}{d:DataW Unit}(Y:(n,DataW.iface name d)∈laid)(hh:(DataW.iface name d:DataW Unit).handleName?.isNone=true)
  {g t:Nat} (e:P.globalNamed n=some g) (i:(P.globals[g]?).map (·.type)=some t) {ms:Array (String×TypeId)} (j:P.underlying t=some (.interface ms)):
  ∃u v,w.cell? ⟨g,0,none⟩=some (.iface u v)/\P.typeName? 3 u=some name/\Value.okWide P w .any 0 u v:=by
 have k:laidMet P (laid.filter λx=>x.2.handleName?.isNone) w:=wV h;obtain⟨ps,l, -,b⟩:=k;obtain⟨o,Q,cs,fuel,p,A,I,W,D,h5⟩:=He l (vj.2 ⟨Y,hh⟩);rw[e]at A;obtain rfl:=ae A;rw[i]at I;obtain rfl:=ae I;obtain⟨u,v,a,m⟩:=Bd j D;have f:w.cell? ⟨g,0,none⟩=some (.iface u v):=by
  rw[World.var?_cell e W 0];have:cs.toList[0]? =some (Value.iface u v):=by rw[a];rfl
  simpa using this
 have c:cs.size=1:=by rw[<-tY,a];rfl
 refine⟨u,v,f,m,(b g 0 (h5 _ ?_)).2 u v f⟩;rw[c];simp[MemPlace.row]
theorem vF{P:Program}{w:World}{g t:Nat}{z:Value}(h:w.ShapedOpen P)(a:Nat.blt g P.globals.size=true)
  (b:(((begin P (λ_ _=>0) default).world.heap[g]?).bind Obj.row?)=some (#[z],t)):∃(vs:Array Value)(v:Value),w.heap[g]? =some (.cells vs t (0,0))/\vs[0]? =some v:=by
 obtain⟨cs,A,I, -⟩:=h.1 g _ t (bn a) b;have c:cs.size=1:=I;exact⟨cs,cs[0],A,dR (by omega)⟩
theorem KE{n:Nat}{V:Nat->Option Value}{L:List Dt}{g:Nat}{m:Int}(a:g<n)(b:V g=some (.int .i64 m)):ag (Is n V L) (.bS (.int .i64) (.var g))=some (.int .i64 m):=
 dn (d:=.val (.int .i64 m)) (by simp only[aj,Is,az a,aW,b,bX]) ⟨_,rfl⟩ rfl
end Go.Proofs.YtokipodjggomfaaGreatDoor.Abs
namespace Go.Proofs.YtokipodjggomfaaGreatDoor.Abs
open Go
def lA(P:Program)(u:zI)(pT pS:PD):bp:=
 { WN P u pT with
   facts:=[.rel "term" false pT [.var u.nG,.var (u.nG+1),.var (u.nG+2),.var (u.nG+3)],.rel "sound" false pS [.var u.nG,.var (u.nG+1),.var (u.nG+2),.var (u.nG+3)]],
   outs:=[{ res:=.int .i64 0,post:=[],facts:=[],m:=0 }] }
section
variable{K:TypeId->List Kd}{T:TypeId}{E:G}
abbrev a2I(T:TypeId)(x y z t:SE):SE:=.a2 .sn (.a2 .sn (.a2 .sn (.a2 .sn (.a1 (.nl [.int .i64,.int .i64,.str,.sl T]) (.bool true)) x) y) z) t
theorem YX{nm b d:String}{B:Nat}(i:K T=[.int .i64,.int .i64,.str,.sl T]){x y z t:SE}(A:(Fact.rel nm false (kO K T B) [x,y,z,t]).holds E)(W:(Fact.rel b false lT [x,y,z,t]).holds E)
  (j:(Fact.rel d true (my K T) [.int .i64 (.ofNat 1),a2I T x y z t]).holds E):False:=by
 obtain⟨k,n,s,a,l,c,g,ss,e1,e,f,m,g1,g2,g3,g4⟩:=FU i A;obtain⟨a1,o,c1,d1,f1,f2,f3,f4,h⟩:=LK W;rw[e1]at f1;rw[e]at f2;rw[f]at f3;rw[m]at f4;obtain rfl:=ae f1;obtain rfl:=ae f2;obtain rfl:=ae f3;obtain rfl:=ae f4;refine j ⟨_,vU rfl g4,1,_,rfl,?_⟩;rw[fv (by simp)];exact fe.one.2 h
theorem YW{nm b:String}{B:Nat}(d:K T=[.int .i64,.int .i64,.str,.sl T])(i:B<=1000000){x y z t:SE}(A:(Fact.rel nm false (kO K T B) [x,y,z,t]).holds E)
  (e:(Fact.rel b true (kG K T) [.int .i64 (.ofNat 0),.int .i64 (.ofNat 1),a2I T x y z t]).holds E):False:=by
 obtain⟨k,n,s,a,l,c,g,ss,e1,f,h,j,g1,g2,g3,g4⟩:=FU d A;refine e ⟨_,Dy rfl rfl g4,0,1,_,rfl,by decide,?_⟩;rw[fv (by simp)];simp only[ca,Lc];omega
theorem RL{nm f:String}{B:Nat}(j:K T=[.int .i64,.int .i64,.str,.sl T])(u:B<=60000){x y z t v:SE}(A:(Fact.rel nm false (kO K T B) [x,y,z,t]).holds E)
  (W:(Fact.rel f false (fk K T) [v,.int .i64 (.ofNat 0),.int .i64 (.ofNat 1),a2I T x y z t]).holds E) (o:(Fact.tr (.a2 (.bin .gtr) v (.int .i64 (.ofNat 65536)))).holds E):False:=by
 obtain⟨k,n,s,a,l,c,g,ss,e1,p,q,w,g1,g2,g3,g4⟩:=FU j A;obtain⟨C,D,m,J,r,d,b,e,i⟩:=DT W;rw[g4]at e;have e:=ae e;injection e with _ e
 have d:=ae (show some (Dt.val (.int .i64 (.ofNat 0)))=some _ from d);injection d with d;injection d with _ d;have b:=ae (show some (Dt.val (.int .i64 (.ofNat 1)))=some _ from b);injection b with b;injection b with _ b;have b:1=m:=k8 b;subst d;subst b;subst e;have h:=WY o r;rw[fv (by simp)]at i;simp only[ca,Lc]at i;simp only[cq]at h i;omega
end
end Go.Proofs.YtokipodjggomfaaGreatDoor.Abs
namespace Go.Proofs.YtokipodjggomfaaGreatDoor.Abs
open Go
structure h2 where
 a3t:Nat
 a3s:Nat
 a3r:Nat
 Wc:Nat
 P6:Nat
 yn:Nat
 IJ:Nat
 HB:Nat
 Q8:Nat
 DN:Nat
 DO:Nat
 zo:Nat
 T6:Nat
 nG:Nat
def lU(l:List Dt):Prop:=∃s:ByteArray,l=[.val (.string s)]/\s.size<4294967281
def U1(b:Bool)(l:List Dt):Prop:=∃s t:ByteArray,l=[.val (.string s),.val (.string t)]/\Lib.contains s.data.toList t.data.toList=b
def JK(l:List Dt):Prop:=∃s t a b:ByteArray,l=[.val (.string s),.val (.string t),.val (.string a),.val (.string b)]/\Lib.cut s.data.toList t.data.toList=(a.data.toList,b.data.toList,true)
def JL(l:List Dt):Prop:=∃s t:ByteArray,l=[.val (.string s),.val (.string t)]/\Lib.cut s.data.toList t.data.toList=(s.data.toList,[],false)
def Et(l:List Dt):Prop:=∃(s:ByteArray)(c n:Int),l=[.val (.string s),.val (.int .u8 c),.val (.int .i64 n)]/\n=Lib.indexByte s.data.toList c.toNat.toUInt8
def qR(l:List Dt):Prop:=∃n:Int,l=[.val (.int .i64 n)]/\ -9223372036854775808<=n/\n<=9223372036854775807
def kb(l:List Dt):Prop:=∃(n:Int)(s:ByteArray),l=[.val (.int .i64 n),.val (.string s)]/\s.data.toList=Lib.itoa n
def kc(l:List Dt):Prop:=∃(s:ByteArray)(n:Int),l=[.val (.string s),.val (.int .i64 n)]/\Lib.atoiAll s.data.toList=.ok n
def gz(l:List Dt):Prop:=∃s:ByteArray,l=[.val (.string s)]/\∀n,Lib.atoiAll s.data.toList≠.ok n
def V0(t g:Nat):Nat×CB:=(g,.cells t [.bS (.int .i64) (.var g)] 0 true false)
def Kv(t g:Nat):Nat×CB:=(g,.cells t [.bS .Sf (.var g)] 0 true false)
def VZ(t g:Nat):Nat×CB:=(g,.Dp t .u64 Lib.pow10Tab)
def km(u:h2):bp:=
 { fn:=u.a3t,nt:=2,round:=none,t:=[(0,.bS .str (.var u.nG)),(1,.bS .str (.var (u.nG+1)))],todo:=[],n:=u.nG+2,pre:=[V0 u.IJ u.yn],
   facts:=[.rel "few" false lU [.var u.nG]],
   outs:=[{ res:=.bool true,post:=[],facts:=[.rel "has" false (U1 true) [.var u.nG,.var (u.nG+1)]],m:=0 },{ res:=.bool false,post:=[],facts:=[.rel "hasnt" false (U1 false) [.var u.nG,.var (u.nG+1)]],m:=0 }] }
def C2(u:h2):bp:=
 { fn:=u.a3s,nt:=2,round:=none,t:=[(0,.bS .str (.var u.nG)),(1,.bS .str (.var (u.nG+1)))],todo:=[],n:=u.nG+2,pre:=[V0 u.IJ u.yn],
   facts:=[.rel "few" false lU [.var u.nG]],
   outs:=[{ res:=.jy [.bS .str (.var (u.nG+2)),.bS .str (.var (u.nG+3)),.bool true],post:=[],facts:=[.rel "cut" false JK [.var u.nG,.var (u.nG+1),.var (u.nG+2),.var (u.nG+3)]],m:=2 },
    { res:=.jy [.bS .str (.var u.nG),.str [],.bool false],post:=[],facts:=[.rel "cutn" false JL [.var u.nG,.var (u.nG+1)]],m:=0 }] }
def AO(u:h2):bp:=
 { fn:=u.a3r,nt:=2,round:=none,t:=[(0,.bS .str (.var u.nG)),(1,.bS (.int .u8) (.var (u.nG+1)))],todo:=[],n:=u.nG+2,pre:=[],facts:=[],
   outs:=[{ res:=.bS (.int .i64) (.var (u.nG+2)),post:=[],facts:=[.rel "idx" false Et [.var u.nG,.var (u.nG+1),.var (u.nG+2)]],m:=1 }] }
def xr(u:h2):bp:=
 { fn:=u.Wc,nt:=1,round:=none,t:=[(0,.bS (.int .i64) (.var u.nG))],todo:=[],n:=u.nG+1,pre:=[VZ u.Q8 u.HB],
   facts:=[.rel "i64" false qR [.var u.nG]],
   outs:=[{ res:=.bS .str (.var (u.nG+1)),post:=[],facts:=[.rel "itoa" false kb [.var u.nG,.var (u.nG+1)]],m:=1 }] }
def sI(u:h2):bp:=
 { fn:=u.P6,nt:=1,round:=none,t:=[(0,.bS .str (.var u.nG))],todo:=[],n:=u.nG+1,pre:=[Kv u.zo u.DN,Kv u.zo u.DO],
   facts:=[.rel "few" false lU [.var u.nG]],
   outs:=[{ res:=.jy [.bS (.int .i64) (.var (u.nG+1)),.lY],post:=[],facts:=[.rel "atoi" false kc [.var u.nG,.var (u.nG+1)]],m:=1 },
    { res:=.jy [.bS (.int .i64) (.var (u.nG+1)),.iface u.T6 (.bS .any (.var (u.nG+2)))],post:=[],facts:=[.rel "atoin" false gz [.var u.nG]],m:=2 }] }
end Go.Proofs.YtokipodjggomfaaGreatDoor.Abs
namespace Go.Proofs.YtokipodjggomfaaGreatDoor.Abs
open Go
open Go.RowKit (Below)
open Go.Sort (grow)
theorem nx{w M:World}(h:Below w.heap.size w M):Kept w M:=by
 refine⟨h.size,h.tape,h.os,h.output,λk o Z=>?_⟩;have a:k<w.heap.size:=by grind
 rw[h.block k a];exact Z
theorem ML(w:World)(n:Nat):Kept w (w.drewN n):=⟨aX _,rfl,rfl,rfl,λ_ _ h=>h⟩
theorem Sc(w:World)(n:Nat)(os:Array Obj):Kept w (grow (w.drewN n) os):=by
 refine⟨by show _<=(w.heap++os).size;rw[rU];exact Nat.le_add_right _ _,rfl,rfl,rfl,λk o h=>?_⟩;have a:k<w.heap.size:=by grind
 show(w.heap++os)[k]? =some o;rw[xO a];exact h
theorem Step.VY {C:Ctx} {base:Nat} {w:World}:∀(ds:List Value){E:G}{s:S},Rel C base E s w->(∀v∈ds,zB v=true)->
  ∃a,Step C base E s w a ⟨s.h,s.next+ds.length,s.pc⟩ w/\∀i v,ds[i]? =some v->aj a (.var (s.next+i))=some (.val v)
 | [],E,s,c,_=>⟨E,Step.refl c,λi v h=>by cases h⟩
 |d::ds,E,s,c,f=>by
  have st:=Step.ghost c (.val d) λ_=>f d aV
  obtain⟨a,b,A⟩:=Step.VY ds (s:=⟨s.h,s.next+1,s.pc⟩) st.rel λv g=>f v (bk _ g)
  refine⟨a,?_,λi v V=>?_⟩
  .have:=st.trans b;have e:s.next+1+ds.length=s.next+(d::ds).length:=by simp only[bZ];omega
   simp only[e]at this;exact this
  .cases i with
   |zero=>simp only[cr,ar]at V;subst V;refine a7 b.grow _ _ ?_;simp[aj]
   |succ i=>
    have:=A i v (by simpa using V);have e:s.next+1+i=s.next+(i+1):=by omega
    simp only[e]at this;exact this
theorem qX{P:Program}{c:bp}(l:∃fn,P.funcs[c.fn]? =some fn)(t:c.round=none)(d:∀o∈c.outs,o.eH=false/\o.post=[])
  (h:∀(base:Nat)(E:G)(a:List Value)(w:World),Rel (gk P (λ_=>false) []) base E c.S w->aD E c.nt c.tr ⟨a⟩->a.length=c.nt->
    Calls P c.fn ⟨a⟩ w λe M=>Kept w M/\∃o,o∈c.outs/\∃(ds:List Value)(k:Value),ds.length=o.m/\(∀v∈ds,zB v=true)/\
     (∀b:G,Grow E b->(∀i v,ds[i]? =some v->aj b (.var (c.n+i))=some (.val v))->(∀f∈o.facts,f.pos=true/\f.holds b)/\ag b o.res=some k)/\e=.returned k):ju P c:=by
 refine⟨l,t,λo ho=>(d o ho).1,λbase E a w r u y=>kZ (h base E a w r u y) ?_⟩;rintro e M ⟨Z,o,ho,ds,k,B,j,p,rfl⟩;have st:=Step.kept r Z;obtain⟨b,q,z⟩:=Step.VY ds st.rel j;have g:=st.trans q;obtain⟨A,I⟩:=p b g.grow z;refine⟨o,ho,b,_,λi=>i,.var,k,g,λi _=>⟨rfl,rfl⟩,λi V=>V,?_,?_,λi V=>?_,λf s=>⟨(A f s).1,CJ.2 (A f s).2⟩,?_,rfl⟩
 .rw[(d o ho).2];intro x Y;cases Y
 .rw[(d o ho).2];intro x Y;cases Y
 .have:b i=none:=g.rel.new i (by show c.n+ds.length<=i;omega);simp only[aj,this,Option.bind_none]
 .exact(uS o.res).trans I
theorem qp{E:G}{nt:Nat}{t:Tr AV}{a:List Value}(h:aD E nt t ⟨a⟩){d:Nat}{k:Kd}{e:SE}(b:t.get d=some (.bS k e)):∃x,aj E e=some x/\k.fits x/\a[d]? =some x.v:=by
 obtain⟨-,c,I,W⟩:=h.2.1 d _ b;rcases W with W|W
 .cases W
 .grind[c7]
theorem vG{P:Program}{base:Nat}{E:G}{s:S}{w:World}(m:Rel (gk P (λ_=>false) []) base E s w){g t:Nat}{k:Kd}{e:SE}{st:Bool}(p:g<P.globals.size)(q:s.h.get g=some (.cells t (Tr.ofList [.bS k e]) 1 0 [] st false)):
  ∃x,aj E e=some x/\k.fits x/\w.cell? ⟨g,0,none⟩=some x.v:=by
 obtain⟨l,o,r,ho,b⟩:=m.ay g _ q;obtain⟨O,d,f,i⟩:=m.eM g p;rw[r]at d;obtain rfl:=ae d;obtain⟨vs,lo,V,rfl, -,a, -⟩:=b;obtain⟨c,n,j⟩:=a 0 _ (by omega) (by rw[Tr.dG];rfl);rcases j with h|h
 .cases h
 .obtain⟨x,D,h5,rfl⟩:=c7 h;refine⟨x,D,h5,?_⟩;rw[f]at ho;rw[i]at n;simpa[World.cell?,ho]using n
theorem Qo{c:bp}{x:Nat×CB}{l:List (Nat×CB)}(h:c.pre=l++[x]):c.S.h.get x.1=some (x.2.sub SV .var).ay:=by
 have key:∀(l:List (Nat×CB))(h:Tr eD),(I3 SV .var (l++[x]) h).get x.1=some (x.2.sub SV .var).ay:=by
  intro l;induction l with
  |nil=>intro h;exact Tr.get_set_same _ _ _
  |cons y l a=>intro h;exact a _
 unfold bp.S;rw[h];exact key l .nil
theorem a6z{c:bp}{x y:Nat×CB}(h:c.pre=[x,y])(a:y.1≠x.1):c.S.h.get x.1=some (x.2.sub SV .var).ay:=by unfold bp.S;rw[h];exact(Tr.get_set_other _ _ a).trans (Tr.get_set_same _ _ _)
theorem a52{a:List Value}(h:a.length=1){x:Value}(c:a[0]? =some x):a=[x]:=by
 match a,h with
 | [b],_=>simpa using c
theorem Kf{a:List Value}(h:a.length=2){x y:Value}(d:a[0]? =some x)(A:a[1]? =some y):a=[x,y]:=by
 match a,h with
 | [b,c],_=>simp at d A;rw[d,A]
section
variable{P:Program}(u:h2)
theorem G9(g:∃fn,P.funcs[u.a3t]? =some fn)(z:u.yn<P.globals.size)
  (h:∀(s sub:ByteArray)(m:Int)(w:World),s.size<4294967281->w.cell? ⟨u.yn,0,none⟩=some (.int .i64 m)->
    Calls P u.a3t #[.string s,.string sub] w λe M=>e=.returned (.bool (Lib.contains s.data.toList sub.data.toList))/\M=w):ju P (km u):=by
 refine qX g rfl (λo ho=>?_) λbase E i w p q A=>?_
 .grind[km]
 .obtain⟨_,j,⟨s,rfl⟩,B⟩:=qp q (d:=0) (k:=.str) (e:=.var u.nG) rfl;obtain⟨_,r,⟨t,rfl⟩,C⟩:=qp q (d:=1) (k:=.str) (e:=.var (u.nG+1)) rfl;obtain rfl:=Kf A B C;obtain⟨_,_,⟨m,rfl⟩,D⟩:=vG p (t:=u.IJ) (k:=.int .i64) (e:=.var u.yn) (st:=true) z (Qo (c:=km u) (x:=V0 u.IJ u.yn) (l:=[]) rfl);obtain⟨-,ds,v,U,rfl,F⟩:=p.pc _ aV;simp only[gZ,j,aW,bX,ar,nb,Dt.val.injEq,tX,gP]at v;subst v;refine kZ (h s t m w F D) ?_;rintro e M ⟨rfl,rfl⟩;refine⟨⟨aX _,rfl,rfl,rfl,λ_ _ h=>h⟩,?_⟩;cases y:Lib.contains s.data.toList t.data.toList with
  |true=>refine⟨_,aV,[],.bool true,rfl,λ_ h=>(by cases h),λn a _=>⟨λf b=>?_,rfl⟩,rfl⟩;simp only[bQ,eE,er]at b;subst b;exact⟨rfl,_,by simp only[gZ,a7 a _ _ j,a7 a _ _ r,aW,bX],s,t,rfl,y⟩
  |false=>refine⟨_,bk _ aV,[],.bool false,rfl,λ_ h=>(by cases h),λn a _=>⟨λf b=>?_,rfl⟩,rfl⟩;simp only[bQ,eE,er]at b;subst b;exact⟨rfl,_,by simp only[gZ,a7 a _ _ j,a7 a _ _ r,aW,bX],s,t,rfl,y⟩
theorem Zl(j:∃fn,P.funcs[u.a3s]? =some fn)(H:u.yn<P.globals.size)
  (h:∀(s sep:ByteArray)(m:Int)(w:World),s.size<4294967281->w.cell? ⟨u.yn,0,none⟩=some (.int .i64 m)->
    Calls P u.a3s #[.string s,.string sep] w λe M=>e=.returned (.tuple #[.string ⟨(Lib.cut s.data.toList sep.data.toList).1.toArray⟩,.string ⟨(Lib.cut s.data.toList sep.data.toList).2.1.toArray⟩,.bool (Lib.cut s.data.toList sep.data.toList).2.2])/\∃n,M=w.drewN n):ju P (C2 u):=by
 refine qX j rfl (λo ho=>?_) λbase E p w q r I=>?_
 .grind[C2]
 .obtain⟨_,i,⟨s,rfl⟩,J⟩:=qp r (d:=0) (k:=.str) (e:=.var u.nG) rfl;obtain⟨_,y,⟨t,rfl⟩,K⟩:=qp r (d:=1) (k:=.str) (e:=.var (u.nG+1)) rfl;obtain rfl:=Kf I J K;obtain⟨_,_,⟨m,rfl⟩,L⟩:=vG q (t:=u.IJ) (k:=.int .i64) (e:=.var u.yn) (st:=true) H (Qo (c:=C2 u) (x:=V0 u.IJ u.yn) (l:=[]) rfl);obtain⟨-,ds,z,U,rfl,N⟩:=q.pc _ aV;simp only[gZ,i,aW,bX,ar,nb,Dt.val.injEq,tX,gP]at z;subst z;refine kZ (h s t m w N L) ?_;rintro e M ⟨rfl,n,rfl⟩;refine⟨ML w n,?_⟩;by_cases C:0<=Lib.index s.data.toList t.data.toList
  .have e:Lib.cut s.data.toList t.data.toList=(s.data.toList.take (Lib.index s.data.toList t.data.toList).toNat,s.data.toList.drop ((Lib.index s.data.toList t.data.toList).toNat+t.data.toList.length),true):=by
     unfold Lib.cut;rw[az C]
   generalize s.data.toList.take (Lib.index s.data.toList t.data.toList).toNat=A at e;generalize s.data.toList.drop ((Lib.index s.data.toList t.data.toList).toNat+t.data.toList.length)=B at e;rw[e];refine⟨_,aV,[.string ⟨A.toArray⟩,.string ⟨B.toArray⟩],_,rfl,?_,λb a D=>?_,rfl⟩
   .intro v F;simp only[bQ,eE,er]at F;rcases F with rfl|rfl<;>rfl
   .have G:aj b (.var (u.nG+2))=some (.val (.string ⟨A.toArray⟩)):=D 0 _ rfl;have z2:aj b (.var (u.nG+3))=some (.val (.string ⟨B.toArray⟩)):=D 1 _ rfl;refine⟨λf g=>?_,dX (Option.map λl=>Value.tuple ⟨l⟩) (av.2 ⟨_,_,gw (k:=.str) G ⟨_,rfl⟩,av.2 ⟨_,_,gw (k:=.str) z2 ⟨_,rfl⟩,av.2 ⟨_,_,rfl,rfl,rfl⟩,rfl⟩,rfl⟩)⟩;simp only[bQ,eE,er]at g;subst g;exact⟨rfl,_,by simp only[gZ,a7 a _ _ i,a7 a _ _ y,G,z2,aW,bX],s,t,⟨A.toArray⟩,⟨B.toArray⟩,rfl,e⟩
  .have e:Lib.cut s.data.toList t.data.toList=(s.data.toList,[],false):=by
     unfold Lib.cut;rw[ai C]
   rw[e];refine⟨_,bk _ aV,[],.tuple #[.string s,.string ⟨[].toArray⟩,.bool false],rfl,λ_ h=>(by cases h),λb a _=>⟨λf g=>?_,?_⟩,rfl⟩
   .simp only[bQ,eE,er]at g;subst g;exact⟨rfl,_,by simp only[gZ,a7 a _ _ i,a7 a _ _ y,aW,bX],s,t,rfl,e⟩
   .exact dX (Option.map λl=>Value.tuple ⟨l⟩) (av.2 ⟨_,_,gw (k:=.str) (a7 a _ _ i) ⟨_,rfl⟩,av.2 ⟨_,_,rfl,av.2 ⟨_,_,rfl,rfl,rfl⟩,rfl⟩,rfl⟩)
theorem Zk(b:∃fn,P.funcs[u.a3r]? =some fn)
  (h:∀(s:ByteArray)(c:Int)(w:World),Calls P u.a3r #[.string s,.int .u8 c] w λe M=>e=.returned (.int .i64 (Lib.indexByte s.data.toList c.toNat.toUInt8))/\M=w):ju P (AO u):=by
 refine qX b rfl (λo ho=>?_) λbase E g w z j p=>?_
 .grind[AO]
 .obtain⟨_,q,⟨s,rfl⟩,r⟩:=qp j (d:=0) (k:=.str) (e:=.var u.nG) rfl;obtain⟨_,t,⟨c,rfl⟩,x⟩:=qp j (d:=1) (k:=.int .u8) (e:=.var (u.nG+1)) rfl;obtain rfl:=Kf p r x;refine kZ (h s c w) ?_;rintro e M ⟨rfl,rfl⟩;refine⟨⟨aX _,rfl,rfl,rfl,λ_ _ h=>h⟩,_,aV,[.int .i64 (Lib.indexByte s.data.toList c.toNat.toUInt8)],_,rfl,?_,λi a y=>?_,rfl⟩
  .intro v l;simp only[bQ,eE,er]at l;subst l;rfl
  .have m:aj i (.var (u.nG+2))=some (.val (.int .i64 (Lib.indexByte s.data.toList c.toNat.toUInt8))):=y 0 _ rfl;refine⟨λf n=>?_,gw m ⟨_,rfl⟩⟩;simp only[bQ,eE,er]at n;subst n;exact⟨rfl,_,by simp only[gZ,a7 a _ _ q,a7 a _ _ t,m,aW,bX],s,c,_,rfl,rfl⟩
theorem VC(g:∃fn,P.funcs[u.Wc]? =some fn)(B:u.HB<P.globals.size)
  (h:∀(n:Int)(w:World), -9223372036854775808<=n->n<=9223372036854775807->w.heap[u.HB]? =some (.cells ⟨Lib.pow10Tab.map (.int .u64)⟩ u.Q8 (0,0))->
    Calls P u.Wc #[.int .i64 n] w λe M=>e=.returned (.string ⟨(Lib.itoa n).toArray⟩)/\Kept w M):ju P (xr u):=by
 refine qX g rfl (λo ho=>?_) λbase E i w j C D=>?_
 .grind[xr]
 .obtain⟨_,s,⟨n,rfl⟩,F⟩:=qp C (d:=0) (k:=.int .i64) (e:=.var u.nG) rfl;obtain rfl:=a52 D F;obtain⟨l,o,m,ho,a⟩:=j.ay u.HB (.Dp u.Q8 .u64 Lib.pow10Tab) (Qo (c:=xr u) (x:=VZ u.Q8 u.HB) (l:=[]) rfl);obtain⟨J,b,p, -⟩:=j.eM u.HB B;rw[m]at b;obtain rfl:=ae b;rw[p]at ho;obtain rfl:=a;obtain⟨-,ds,t,K,rfl,G,H⟩:=j.pc _ aV;simp only[gZ,s,aW,bX,ar,nb,Dt.val.injEq,iS,fw,gP]at t;subst t;refine kZ (h n w G H ho) ?_;rintro e M ⟨rfl,Z⟩;refine⟨Z,_,aV,[.string ⟨(Lib.itoa n).toArray⟩],_,rfl,?_,λq r I=>?_,rfl⟩
  .intro v y;simp only[bQ,eE,er]at y;subst y;rfl
  .have z:aj q (.var (u.nG+1))=some (.val (.string ⟨(Lib.itoa n).toArray⟩)):=I 0 _ rfl;refine⟨λf A=>?_,gw z ⟨_,rfl⟩⟩;simp only[bQ,eE,er]at A;subst A;exact⟨rfl,_,by simp only[gZ,a7 r _ _ s,z,aW,bX],n,⟨(Lib.itoa n).toArray⟩,rfl,rfl⟩
def VN(v:Value):Prop:=v=.nilIface\/∃t u,v=.iface t u
theorem VD(r:∃fn,P.funcs[u.P6]? =some fn)(J:u.DN<P.globals.size)(z:u.DO<P.globals.size)(A:u.DN≠u.DO)
  (h:∀(s:ByteArray)(v:Int)(w:World),s.size<=281474976710656->Lib.atoiAll s.data.toList=.ok v->
    Calls P u.P6 #[.string s] w λe M=>e=.returned (.tuple #[.int .i64 v,.nilIface])/\Kept w M)
  (K:∀(s:ByteArray)(ev i:Value)(w:World),s.size<=281474976710656->(∀v,Lib.atoiAll s.data.toList≠.ok v)->w.cell? ⟨u.DN,0,none⟩=some ev->VN ev->w.cell? ⟨u.DO,0,none⟩=some i->VN i->
    Calls P u.P6 #[.string s] w λe M=>(∃n N,e=.returned (.tuple #[.int .i64 n,.iface u.T6 (.pointer (some ⟨N,0,none⟩))]))/\Kept w M):ju P (sI u):=by
 refine qX r rfl (λo ho=>?_) λbase E B w C L O=>?_
 .grind[sI]
 .obtain⟨_,D,⟨s,rfl⟩,Q⟩:=qp L (d:=0) (k:=.str) (e:=.var u.nG) rfl;obtain rfl:=a52 O Q;obtain⟨_,_,⟨v1,rfl,F⟩,R⟩:=vG C (t:=u.zo) (k:=.Sf) (e:=.var u.DN) (st:=true) J (a6z (c:=sI u) (x:=Kv u.zo u.DN) (y:=Kv u.zo u.DO) rfl (cm A));obtain⟨_,_,⟨v2,rfl,G⟩,H⟩:=vG C (t:=u.zo) (k:=.Sf) (e:=.var u.DO) (st:=true) z (Qo (c:=sI u) (x:=Kv u.zo u.DO) (l:=[Kv u.zo u.DN]) rfl);obtain⟨-,ds,I,U,rfl,S⟩:=C.pc _ aV;simp only[gZ,D,aW,bX,ar,nb,Dt.val.injEq,tX,gP]at I;subst I;by_cases b:∃v,Lib.atoiAll s.data.toList=.ok v
  .obtain⟨v,b⟩:=b;refine kZ (h s v w (by omega) b) ?_;rintro e M ⟨rfl,Z⟩;refine⟨Z,_,aV,[.int .i64 v],_,rfl,?_,λa g p=>?_,rfl⟩
   .intro v j;simp only[bQ,eE,er]at j;subst j;rfl
   .have q:aj a (.var (u.nG+1))=some (.val (.int .i64 v)):=p 0 _ rfl;refine⟨λf m=>?_,dX (Option.map λl=>Value.tuple ⟨l⟩) (av.2 ⟨_,_,gw (k:=.int .i64) q ⟨_,rfl⟩,av.2 ⟨_,_,rfl,rfl,rfl⟩,rfl⟩)⟩;simp only[bQ,eE,er]at m;subst m;exact⟨rfl,_,by simp only[gZ,a7 g _ _ D,q,aW,bX],s,v,rfl,b⟩
  .have b:∀v,Lib.atoiAll s.data.toList≠.ok v:=λv e=>b ⟨v,e⟩
   refine kZ (K s v1 v2 w (by omega) b R F H G) ?_;rintro e M ⟨⟨n,N,rfl⟩,Z⟩;refine⟨Z,_,bk _ aV,[.int .i64 n,.pointer (some ⟨N,0,none⟩)],_,rfl,?_,λa g p=>?_,rfl⟩
   .intro v j;simp only[bQ,eE,er]at j;rcases j with rfl|rfl<;>rfl
   .have q:aj a (.var (u.nG+1))=some (.val (.int .i64 n)):=p 0 _ rfl;have z2:aj a (.var (u.nG+2))=some (.val (.pointer (some ⟨N,0,none⟩))):=p 1 _ rfl;refine⟨λf m=>?_,dX (Option.map λl=>Value.tuple ⟨l⟩) (av.2 ⟨_,_,gw (k:=.int .i64) q ⟨_,rfl⟩,av.2 ⟨_,_,(show ag a (.iface u.T6 (.bS .any (.var (u.nG+2))))=some (.iface u.T6 (.pointer (some ⟨N,0,none⟩))) by simp only[ag];exact dX (Option.map λv=>Value.iface u.T6 v) (gw (k:=.any) z2 rfl)),rfl,rfl⟩,rfl⟩)⟩;simp only[bQ,eE,er]at m;subst m;exact⟨rfl,_,by simp only[gZ,a7 g _ _ D,aW,bX],s,rfl,b⟩
end
end Go.Proofs.YtokipodjggomfaaGreatDoor.Abs
namespace Go.Proofs.YtokipodjggomfaaGreatDoor.Abs
open Go
abbrev iv(n:Int):Dt:=.val (.int .i64 n)
abbrev uv(n:Int):Dt:=.val (.int .u8 n)
abbrev sv(l:List UInt8):Dt:=.val (.string ⟨⟨l⟩⟩)
abbrev bd(l:List UInt8):Dt:=.ls [.int .u8] (ea l)
section
variable{E:G}
theorem Z7{o:QV}{x:SE}:aj E (.a1 o x)=(aj E x).bind (e1 o):=rfl
theorem Z6{o:QV}{x y:SE}:aj E (.a2 o x y)=(aj E x).bind λu=>(aj E y).bind (e2 o u):=rfl
theorem Z5{o:QV}{x y z:SE}:aj E (.a3 o x y z)=(aj E x).bind λu=>(aj E y).bind λv=>(aj E z).bind (e3 o u v):=rfl
theorem HT{b:Bool}:aj E (.bool b)=some (.val (.bool b)):=rfl
theorem EW{s:List UInt8}:aj E (.str s)=some (sv s):=rfl
theorem Z3{e:SE}:Fact.holds E (.tr e)=(aj E e=some (.val (.bool true))):=rfl
theorem Z4{e:SE}:Fact.holds E (.fl e)=(aj E e=some (.val (.bool false))):=rfl
end
theorem a5U{a b:Int}(c:b≠0):e2 (.bin .rem) (iv a) (iv b)=some (iv (a.tmod b)):=by grind[e2,dW,bj,intOp,okV]
section
variable{k:IntKind}{a b:Int}
theorem O7:e2 (.bin .eql) (.val (.int k a)) (.val (.int k b))=some (.val (.bool (decide (a=b)))):=by simp only[e2,dW,bj,aH,intOp,okV]
theorem O0:e2 (.bin .neq) (.val (.int k a)) (.val (.int k b))=some (.val (.bool (!decide (a=b)))):=by simp only[e2,dW,bj,aH,intOp,okV]
theorem O2:e2 (.bin .lss) (.val (.int k a)) (.val (.int k b))=some (.val (.bool (decide (a<b)))):=by simp only[e2,dW,bj,aH,intOp,okV]
theorem O3:e2 (.bin .leq) (.val (.int k a)) (.val (.int k b))=some (.val (.bool (decide (a<=b)))):=by simp only[e2,dW,bj,aH,intOp,okV]
theorem O5:e2 (.bin .gtr) (.val (.int k a)) (.val (.int k b))=some (.val (.bool (decide (b<a)))):=by simp only[e2,dW,bj,aH,intOp,okV]
theorem O6:e2 (.bin .geq) (.val (.int k a)) (.val (.int k b))=some (.val (.bool (decide (b<=a)))):=by simp only[e2,dW,bj,aH,intOp,okV]
end
theorem zh(x y:List UInt8):dp x y=decide (x=y):=by grind[dp,gL]
theorem OZ{x y:List UInt8}:e2 (.bin .eql) (sv x) (sv y)=some (.val (.bool (decide (x=y)))):=by simp only[e2,dW,strOp,okV,zh]
theorem OY{x y:List UInt8}:e2 (.bin .neq) (sv x) (sv y)=some (.val (.bool (!decide (x=y)))):=by simp only[e2,dW,strOp,okV,zh]
theorem a2O{x y:List UInt8}(h:x.length+y.length<=1099511627776):e2 (.bin .add) (sv x) (sv y)=some (sv (x++y)):=by grind[e2,dW,strOp,okV,Nat.ble_eq]
theorem O4{l:List UInt8}:e1 .len (sv l)=some (iv l.length):=rfl
theorem GV{a:Option Addr}{n c:Nat}{t:TypeId}{g:Nat}{J:List Dt}:e1 .len (.sl (.slice a n c) t g J)=some (iv n):=rfl
theorem GX{k q:IntKind}{n:Int}:e1 (.conv k) (.val (.int q n))=some (.val (.int k (k.wrap n))):=rfl
theorem O1{b:Bool}:e1 (.un .not) (.val (.bool b))=some (.val (.bool (!b))):=rfl
theorem Y3{l:List UInt8}:e1 .sb (sv l)=some (bd l):=rfl
theorem kI:∀l:List UInt8,jq (ea l)=some l
 | []=>rfl
 |b::l=>by
  have a:=kI l;unfold ea at a ⊢;simp[jq,a]
theorem Y4{l:List UInt8}:e1 .bs (bd l)=some (sv l):=by simp only[e1,kI,bX]
theorem a1n{l:List UInt8}{n:Int}:e2 .sn (bd l) (uv n)=some (.ls [.int .u8] (ea l++[uv n])):=by unfold e2;simp only;rw[az ⟨.int .u8,by rw[il,rI];rfl,n,rfl⟩]
theorem QM{l:List UInt8}{n:Int}{b:UInt8}(h:n=b.toNat):(Dt.ls [.int .u8] (ea l++[uv n]))=bd (l++[b]):=by subst h;simp[ea]
theorem O8{a b:List UInt8}:e2 .cat (bd a) (bd b)=some (bd (a++b)):=by simp[e2,bd,ea]
theorem a5T{l:List UInt8}{k:IntKind}{n:Nat}:e2 (.tk 1) (bd l) (.val (.int k (n:Int)))=if n<=l.length then some (bd (l.take n))else none:=by show(if n*1<=(ea l).length then some (Dt.ls [.int .u8] ((ea l).take (n*1)))else none)=_;simp[bd,ea,List.map_take]
theorem a5V{l:List UInt8}{k:IntKind}{n:Nat}:e2 (.at 1 0) (bd l) (.val (.int k (n:Int)))=(l[n]?).map λb=>.val (.int .u8 b.toNat):=by show(ea l)[n*1+0]? =_;simp[ea]
end Go.Proofs.YtokipodjggomfaaGreatDoor.Abs
namespace Go.Proofs.YtokipodjggomfaaGreatDoor.Abs
open Go Go.ChangeShapes
def Un:List (Nat×eD)->Tr eD->Tr eD
 | []=>λh=>h
 |x::l=>λh=>Un l (h.set x.1 x.2)
theorem EN{id:Nat}{b:eD}:∀{l:List (Nat×eD)}{h:Tr eD},(Un l h).get id=some b->(id,b)∈l\/h.get id=some b
 | [],_,e=>.inr e
 |x::l,h,e=>by
  rcases EN (l:=l) (h:=h.set x.1 x.2) e with A|A
  .exact .inl (bk _ A)
  .grind[Tr.bm]
def SDw(C:Ctx)(ts:List TypeId)(N:Nat)(vars:List (Nat×eD)):S:=⟨Un vars .nil,Nat.add C.nG (Xa C ts),[QP C ts N]⟩
theorem QW{C:Ctx}{ts:List TypeId}{N:Nat}{vars:List (Nat×eD)}{id:Nat}{b:eD}(h:(SDw C ts N vars).h.get id=some b):(id,b)∈vars:=by
 rcases EN h with h|h
 .exact h
 .rw[Tr.get_nil]at h;cases h
def ZF(C:Ctx)(E:G)(w:World)(l:Loc)(x:Nat×eD):Prop:=x.1<C.nG/\dm x.2=true/\∃o,w.heap[x.1]? =some o/\cw C E l x.2 o
theorem Ro{C:Ctx}{w:World}{N:Nat}{ts:List TypeId}{V:Nat->Option Value}{vars:List (Nat×eD)}(L:List Dt)(h:∀d∈L,d.c6 C w λk=>k<w.heap.size)(a:L.length=Xa C ts)(i:JM (aq C) ts N L)
  (c:∀g v,V g=some v->zB v=true) (l:∀x∈vars,ZF C (Is C.nG V L) w ⟨x.1,0,1,(V x.1).map .val⟩ x):Rel C 0 (Is C.nG V L) (SDw C ts N vars) w:=by
 refine LW (by rw[a];exact aX _) (λf m=>?_) c h λid b n=>l _ (QW n)
 have e:f∈[QP C ts N]:=m;simp only[zT]at e;subst e;exact⟨rfl,L,by rw[<-a];exact I4 λj x Y=>SZ Y,i⟩
theorem Lu{C:Ctx}(o:Good C)(p:C.P.follows .mixedOrders=true){f:FuncId}(n:Nat){N:Nat}{L ts:List TypeId}(q:Oh C L L=true)(i:∀u∈ts,u∈L)(vars:List (Nat×eD))(V:Nat->Option Value)
  {l:List (List Fact)} (h:R.res (λ_=>true) ((pC C (zu C n) f (Ie C ts C.nG) .normal none (SDw C ts N vars)).bind Po)=some l) (s:mr l)
  (w:World) {H:Type} {qf:TypeId×Value->H} {spare:Nat->Bool} {held:Bool} {r:Reach} {base:Nat} {args:Array Value} {ds:List (DataW H)} {ps:List MemPlace} (y:DataW.TrodAll qf C.P w 0 spare held ts args.toList ds ps)
  (k:∀(j:Nat)t v,ts[j]? =some t->args[j]? =some v->Value.okWide C.P w r base t v) (z:fH ds<=N)
  (c:∀g v,V g=some v->zB v=true) (m:∀Ld:List Dt,∀x∈vars,ZF C (Is C.nG V Ld) w ⟨x.1,0,1,(V x.1).map .val⟩ x):
  Calls C.P f args w λe M=>e=.returned (.bool true)/\w.keptBut M (λ_=>False):=by
 obtain⟨d,A,I,W,D⟩:=E4 (DY q) i y λj t v a b=>k j t v a (by rw[<-xN];exact b)
 have B:=Ro (C:=C) (w:=w) (N:=N) (ts:=ts) d A I ⟨W.1,gn W.2 z⟩ c (m d);have E:=D (Is C.nG V d) C.nG λj x Y=>SZ Y
 exact kZ (KQ o p B E n h s) λ_ _⟨A,I⟩=>⟨A,DL (λid b F=>(m d _ (QW F)).2.1) I⟩
def gwC(g t:Nat)(a:AV):Nat×eD:=(g,.cells t (Tr.ofList [a]) 1 0 [] true false)
theorem MY{C:Ctx}{E:G}{w:World}{l:Loc}{g t:Nat}{a:AV}{vs:Array Value}{v:Value}(d:Nat.blt g C.nG=true)(e:(C.T.get t).map (·.size)=some 1)(f:w.heap[g]? =some (.cells vs t (0,0)))(j:vs[0]? =some v)
  (k:ag E a=some v) (m:l=⟨g,0,1,l.v⟩):ZF C E w l (gwC g t a):=by
 have n:0<vs.size:=by grind
 rw[m];refine⟨bn d,rfl,_,f,vs,0,0,rfl,by show 0+1<=_;omega,λi u V b=>?_,?_,(λh=>by cases h),aX _⟩
 .rw[Tr.dG]at b;cases i with
  |zero=>simp only[cr,ar]at b;subst b;exact⟨v,j,.inr k⟩
  |succ i=>simp at b
 .obtain⟨i,V,c⟩:=aN.1 e;exact⟨i,V,by rw[c];show 1<=1*1;omega,by rw[c];show 0+1*1<=_;omega,0,by simp⟩
theorem a3n{C:Ctx}{E:G}{w:World}{l:Loc}{g t:Nat}{k:IntKind}{zs:List Int}(a:Nat.blt g C.nG=true)(b:w.heap[g]? =some (.cells ⟨zs.map (.int k)⟩ t (0,0))):ZF C E w l (g,.Dp t k zs):=
 ⟨bn a,rfl,_,b,rfl⟩
theorem ze{n:Nat}{V:Nat->Option Value}{L:List Dt}{g t:Nat}{v:Value}(a:g<n)(b:V g=some (.iface t v)):ag (Is n V L) (.bS .Sf (.var g))=some (.iface t v):=
 dn (d:=.val (.iface t v)) (by simp only[aj,Is,az a,aW,b,bX]) ⟨_,rfl,.inr ⟨_,_,rfl⟩⟩ rfl
theorem VJ{P:Program}{w:World}{laid:List (String×DataW Unit)}(h:laidMetH P laid w){n:String}{k:IntKind}{zs:List Int}(Y:(n,(Lib.tabData k zs:DataW Unit))∈laid)(hh:(Lib.tabData k zs:DataW Unit).handleName?.isNone=true)
  (j:w.ShapedOpen P) {g t u e m:Nat} {z:Array Value} (f:P.globalNamed n=some g) (a:(P.globals[g]?).map (·.type)=some u) (l:P.underlying u=some (.array m e)) (o:P.underlying e=some (.int k)) (b:P.cellsOf e=1) (c:P.cellsOf u=m)
  (d:Nat.blt g P.globals.size=true) (q:(((begin P (λ_ _=>0) default).world.heap[g]?).bind Obj.row?)=some (z,t)):
  w.heap[g]? =some (.cells ⟨zs.map (.int k)⟩ t (0,0)):=by
 have r:laidMet P (laid.filter λx=>x.2.handleName?.isNone) w:=wV h;obtain⟨ps,s, -, -⟩:=r;obtain⟨y,B,cs,fuel,p,A,I,W,D, -⟩:=He s (vj.2 ⟨Y,hh⟩);rw[f]at A;obtain rfl:=ae A;rw[a]at I;obtain rfl:=ae I;have v:=Lib.cells_of_tab l o b c D;obtain⟨vs,i, -, -⟩:=j.1 g z t (bn d) q;have e:some cs=some vs:=by rw[<-W];unfold World.var?;rw[f,aW,i]
 obtain rfl:=ae e;rw[i,<-v]
end Go.Proofs.YtokipodjggomfaaGreatDoor.Abs
