/- Part 3 of the plain laws of the texts that the statement speaks of, and of the contracts of its functions. Conditions: those of each theorem. -/
import Derived.Test.YtokipodjggomfaaGreatDoorTxt2
import Derived.Lib.AtoiAllCases
import Derived.Lib.ItoaMem
import Derived.Lib.ItoaLen
noncomputable section
set_option linter.unusedVariables false
set_option linter.unusedSimpArgs false
namespace Go.Proofs.YtokipodjggomfaaGreatDoor.Txt
open Go Go.Proofs.YtokipodjggomfaaGreatDoor.Abs Go.Lib
def U4:Option Dt->Option Dt->Prop
 |some (.val (.int _ n)),some (.val (.int .i64 m))=>¬(0<=n/\n<m)
 |_,_=>False
def a3C:Option Dt->Option Dt->Option Dt->Prop
 |some (.val (.int _ n)),some (.val (.int _ m)),some (.val (.int .i64 q))=>¬(0<=n/\n<=m/\m<=q)
 |_,_,_=>False
def PH(g:Nat)(e:Dt)(n:Int):Prop:=∃P J,e=.ls P J/\¬(0<=n/\n.toNat*g+g<=J.length)
def VT(g:Nat):Option Dt->Option Dt->Prop
 |some e,some (.val (.int _ n))=>PH g e n
 |_,_=>False
def PL(g bytes a:Nat)(e:Dt)(n:Int):Prop:=∃P J,e=.ls P J/\¬(0<=n/\n.toNat*g<=J.length/\(n.toNat+a)*bytes<=68719476736/\n.toNat+a<=68719476736)
def VW(g bytes a:Nat):Option Dt->Option Dt->Prop
 |some e,some (.val (.int .i64 n))=>PL g bytes a e n
 |_,_=>False
section
variable{E:G}{x y z:SE}{nm:String}{k q:IntKind}{n m r:Int}{g b c:Nat}{e:Dt}{l:B}
theorem B1:U4 (some (.val (.int k n))) (some (iv m))=¬(0<=n/\n<m):=rfl
theorem HU:a3C (some (.val (.int k n))) (some (.val (.int q m))) (some (iv r))=¬(0<=n/\n<=m/\m<=r):=rfl
theorem Az:VT g (some e) (some (.val (.int k n)))=PH g e n:=rfl
theorem AA:VW g b c (some e) (some (iv n))=PL g b c e n:=rfl
theorem PW:Fact.holds E (.rel nm false jg [x,y])=U4 (aj E x) (aj E y):=by
 apply propext;constructor
 .rintro⟨l,h,k,n,m,rfl,a⟩;simp only[bR,dJ]at h;obtain⟨d0,d,g0,h,e⟩:=h;injection e with b e;subst b;subst e
  obtain⟨d1,f,g1,h,e⟩:=h;injection e with c e;subst c;subst e
  rw[g0,g1];exact a
 .intro h;unfold U4 at h;split at h
  .rename_i g0 g1;exact⟨_,bR.2 ⟨_,_,g0,bR.2 ⟨_,_,g1,dJ.2 rfl,rfl⟩,rfl⟩,_,_,_,rfl,h⟩
  .exact h.elim
theorem P3:Fact.holds E (.rel nm false Mg [x,y,z])=a3C (aj E x) (aj E y) (aj E z):=by
 apply propext;constructor
 .rintro⟨l,h,k,n,k',m,q,rfl,a⟩;simp only[bR,dJ]at h;obtain⟨d0,f,g0,h,e⟩:=h;injection e with b e;subst b;subst e
  obtain⟨d1,g,g1,h,e⟩:=h;injection e with c e;subst c;subst e
  obtain⟨d2,r2,g2,h,e⟩:=h;injection e with d e;subst d;subst e
  rw[g0,g1,g2];exact a
 .intro h;unfold a3C at h;split at h
  .rename_i g0 g1 g2;exact⟨_,bR.2 ⟨_,_,g0,bR.2 ⟨_,_,g1,bR.2 ⟨_,_,g2,dJ.2 rfl,rfl⟩,rfl⟩,rfl⟩,_,_,_,_,_,rfl,h⟩
  .exact h.elim
theorem HL:Fact.holds E (.rel nm false (BX g) [x,y])=VT g (aj E x) (aj E y):=by
 apply propext;constructor
 .rintro⟨l,h,P,J,k,n,rfl,a⟩;simp only[bR,dJ]at h;obtain⟨d0,d,g0,h,e⟩:=h;injection e with b e;subst b;subst e
  obtain⟨d1,f,g1,h,e⟩:=h;injection e with c e;subst c;subst e
  rw[g0,g1];exact⟨P,J,rfl,a⟩
 .intro h;unfold VT at h;split at h
  .rename_i g0 g1;obtain⟨P,J,rfl,a⟩:=h;exact⟨_,bR.2 ⟨_,_,g0,bR.2 ⟨_,_,g1,dJ.2 rfl,rfl⟩,rfl⟩,_,_,_,_,rfl,a⟩
  .exact h.elim
theorem HM:Fact.holds E (.rel nm false (eL g b c) [x,y])=VW g b c (aj E x) (aj E y):=by
 apply propext;constructor
 .rintro⟨l,h,P,J,n,rfl,a⟩;simp only[bR,dJ]at h;obtain⟨d0,i,g0,h,e⟩:=h;injection e with d e;subst d;subst e
  obtain⟨d1,j,g1,h,e⟩:=h;injection e with f e;subst f;subst e
  rw[g0,g1];exact⟨P,J,rfl,a⟩
 .intro h;unfold VW at h;split at h
  .rename_i g0 g1;obtain⟨P,J,rfl,a⟩:=h;exact⟨_,bR.2 ⟨_,_,g0,bR.2 ⟨_,_,g1,dJ.2 rfl,rfl⟩,rfl⟩,_,_,_,rfl,a⟩
  .exact h.elim
def FZ(g:Nat)(e:Dt)(n:Int):Prop:=∃P J,e=.ls P J/\¬(0<=n/\n.toNat*g<=J.length)
def Bm(g:Nat):Option Dt->Option Dt->Prop
 |some e,some (.val (.int .i64 n))=>FZ g e n
 |_,_=>False
theorem vT:Bm g (some e) (some (iv n))=FZ g e n:=rfl
theorem AF:Fact.holds E (.rel nm false (dq g) [x,y])=Bm g (aj E x) (aj E y):=by
 apply propext;constructor
 .rintro⟨l,h,P,J,n,rfl,a⟩;simp only[bR,dJ]at h;obtain⟨d0,d,g0,h,e⟩:=h;injection e with b e;subst b;subst e
  obtain⟨d1,f,g1,h,e⟩:=h;injection e with c e;subst c;subst e
  rw[g0,g1];exact⟨P,J,rfl,a⟩
 .intro h;unfold Bm at h;split at h
  .rename_i g0 g1;obtain⟨P,J,rfl,a⟩:=h;exact⟨_,bR.2 ⟨_,_,g0,bR.2 ⟨_,_,g1,dJ.2 rfl,rfl⟩,rfl⟩,_,_,_,rfl,a⟩
  .exact h.elim
theorem gM:∀l:B,(ea l).length=l.length:=λl=>by simp[ea]
theorem Hu:PH 1 (bd l) n=¬(0<=n/\n<l.length):=by
 apply propext;constructor
 .rintro⟨P,J,e,h⟩;injection e with _ e;subst e;rw[gM]at h;intro I;apply h;omega
 .intro h;refine⟨_,_,rfl,?_⟩;rw[gM];intro I;apply h;omega
theorem Hz:PL 1 1 c (bd l) n=¬(0<=n/\n<=l.length/\n+c<=68719476736):=by
 apply propext;constructor
 .rintro⟨P,J,e,h⟩;injection e with _ e;subst e;rw[gM]at h;intro I;apply h;omega
 .intro h;refine⟨_,_,rfl,?_⟩;rw[gM];intro I;apply h;omega
theorem Ak:FZ 1 (bd l) n=¬(0<=n/\n<=l.length):=by
 apply propext;constructor
 .rintro⟨P,J,e,h⟩;injection e with _ e;subst e;rw[gM]at h;intro I;apply h;omega
 .intro h;refine⟨_,_,rfl,?_⟩;rw[gM];intro I;apply h;omega
theorem eO{T:TypeId}{l:List Tm}(a:dU T l m e):¬FZ 4 e m:=by rintro⟨P,J,rfl,h⟩;obtain⟨j7,e1,rfl,b⟩:=a;injection e1 with _ e1;subst e1;have:=jb b;apply h;omega
theorem jF{T:TypeId}{l:List Tm}(a:dU T l m e)(c:0<=n)(A:n<m):¬PH 4 e n:=by rintro⟨P,J,rfl,h⟩;obtain⟨j7,e1,rfl,b⟩:=a;injection e1 with _ e1;subst e1;have:=jb b;apply h;omega
theorem ie{T:TypeId}{l:List Tm}(a:dU T l m e)(A:m<=100000):¬PL 4 56 1 e m:=by rintro⟨P,J,rfl,h⟩;obtain⟨j7,e1,rfl,b⟩:=a;injection e1 with _ e1;subst e1;have:=jb b;apply h;omega
end
theorem a2m{α:Type}{l:List α}:l.take ((l.length:Nat):Int).toNat=l:=by simp
theorem AJ{α:Type}{l:List α}:l.drop (0:Int).toNat=l:=rfl
theorem Pf{n:Nat}:((n:Nat):Int).toNat=n:=rfl
theorem Si{n:Int}:iO (some (uv n))=n:=rfl
theorem Sg{n:Int}:iO (some (iv n))=n:=rfl
theorem ln1{a:UInt8}:((([a]:B).length:Nat):Int)=1:=rfl
theorem ln3{a b c:UInt8}:((([a,b,c]:B).length:Nat):Int)=3:=rfl
theorem ln5{a b c d e:UInt8}:((([a,b,c,d,e]:B).length:Nat):Int)=5:=rfl
theorem ln0:((([]:B).length:Nat):Int)=0:=rfl
theorem Hs{c:Prop}[Decidable c]:(Dt.val (.bool (decide c))=.val (.bool true))=c:=by simp
theorem Hr{c:Prop}[Decidable c]:(Dt.val (.bool (decide c))=.val (.bool false))=¬c:=by simp
theorem Hq{c:Prop}[Decidable c]:(Dt.val (.bool (!decide c))=.val (.bool true))=¬c:=by simp
theorem Hp{c:Prop}[Decidable c]:(Dt.val (.bool (!decide c))=.val (.bool false))=c:=by simp
section
variable{S X:B}{p f lo V n:Int}
theorem XM(b:h2 S f.toNat p.toNat)(c:0<=p)(d:noD S p)(h:∀n,atoiAll (sb S f p)≠.ok n):dt lo V (dr S f)=none:=Tp b c d λn a _ _ _=>h n a
theorem XL(e:h2 S f.toNat p.toNat)(g:0<=p)(i:noD S p)(j:atoiAll (sb S f p)=.ok n)(h:itoa n≠sb S f p\/n<lo\/V<n):dt lo V (dr S f)=none:=Tp e g i λm a b c d=>by
 rw[j]at a;injection a with a;subst a
 rcases h with h|h|h
 .exact h b
 .omega
 .omega
end
section
variable{E:G}{n i:Int}{l S:B}{d:Dt}{c c':Prop}{p:Int}
theorem SA:aj E (.int .i64 n)=some (iv n):=rfl
theorem Sz:aj E (.int .u8 n)=some (uv n):=rfl
theorem Zc:e1 (.nl [.int .u8]) d=some (bd []):=rfl
theorem Zb{T:TypeId}:e1 (.nl [.int .i64,.int .i64,.str,.sl T]) d=some (.ls (kT T) []):=rfl
theorem Y6{T:TypeId}{g:Nat}:e1 (.ns T g) d=some (.sl (.slice none 0 0) T g []):=rfl
theorem AB{α:Type}{o:Option α}:mz c (mz c' o)=mz (c/\c') o:=by by_cases h:c<;>by_cases I:c'<;>simp[mz,h,I]
theorem XZ:e2 (.at 1 0) (bd l) (iv i)=mz (0<=i/\i<l.length) (some (uv (bt l i))):=by
 cases i with
 |ofNat n=>
  have h:e2 (.at 1 0) (bd l) (iv (Int.ofNat n))=(l[n]?).map λb=>.val (.int .u8 b.toNat):=a5V (k:=.i64)
  rw[h];by_cases a:n<l.length
  .rw[od ⟨ky n,by show(n:Int)<_;omega⟩,dw a];unfold bt;rw[show(Int.ofNat n).toNat=n from rfl,dw a]<;>rfl
  .rw[zZ (by omega)];unfold mz;rw[ai]
   .rfl
   .rintro⟨-,I⟩;have:(n:Int)<l.length:=I;omega
 |negSucc n=>
  unfold mz;rw[ai]
  .rfl
  .rintro⟨A, -⟩;exact absurd A (by omega)
theorem kv(a:0<=p-1)(A:p-1<S.length):ek S (p-1).toNat p.toNat []:=by
 have:=a4W a A
 rwa [show p-1+1=p by omega]at this
theorem An:quote []=[39,39]:=rfl
theorem a0v{X:B}(h:atoiAll X=.ok n): -9223372036854775808<=n/\n<=9223372036854775807:=atoiAll_bounds h
end
section
variable{a b c d e:UInt8}{l:B}
theorem nl1:([a]:B).length=1:=rfl
theorem nl3:([a,b,c]:B).length=3:=rfl
theorem nl4:([a,b,c,d]:B).length=4:=rfl
theorem nl5:([a,b,c,d,e]:B).length=5:=rfl
theorem FJ:e2 .sn (bd l) (uv 39)=some (bd (l++[39])):=Bb (by decide)
theorem FH:e2 .sn (bd l) (uv 92)=some (bd (l++[92])):=Bb (by decide)
theorem Oa:e2 .sn (bd l) (uv 0)=some (bd (l++[0])):=Bb (by decide)
theorem AI:mh []=[]:=rfl
end
section
variable{T:TypeId}{a8:Bool}{X R R' w:B}{n k:Int}{d:Dt}
theorem um{k n:Int}{w:B}:rep T (.mk k n w []) [iv k,iv n,sv w,.sl (.slice none 0 0) T 4 []]:=ni ⟨none,0,[],rfl,λ_=>⟨rfl,rfl⟩,by unfold eF;rfl⟩
variable(A:must [123] X=none)(I:must [91] X=none)(W:must [39] X=none)(D:must ng X=none)(h5:must oS X=none)(h6:must uh X=none)(h7:must lG X=none)
include A I W
include D
include h5
include h6 h7
end
theorem mN:aZ=1073741824:=rfl
theorem mI:cM= -576460752303423488:=rfl
theorem mA:dS=576460752303423487:=rfl
theorem MO:ng=[35,82,101,102,60]:=rfl
theorem MN:oS=[35,84,105,100,60]:=rfl
theorem MP:uh=[60,48,46]:=rfl
theorem Co:Ef=[46,48,62]:=rfl
theorem zD:lG=[35,70,117,110,60]:=rfl
theorem NW:cX=[32,97,102,116,101,114,32,97,110,100,32,97,110,100,97,108,115,111,32,98,101,103,105,110,32,99,97,115,101,32,99,97,116,99,104,32,100,105,118,32,101,110,100,32,102,117,110,32,110,111,116,32,111,102,32,111,114,32,111,114,101,108,115,101,32,114,101,99,101,105,118,101,32,114,101,109,32,116,114,121,32,119,104,101,110,32]:=by decide
theorem a2e:cX.length<4294967281:=by decide
theorem Mw{S:B}(h:¬S=[]):0<S.length:=Fo.2 h
section
variable{T:TypeId}{k v a b:Int}{w l:B}{d:Dt}{t:Tm}
def zE(T:TypeId)(k v:Int)(w:B)(d:Dt):Option Dt:=((((e2 .sn (.ls (kT T) []) (iv k)).bind λu=>e2 .sn u (iv v)).bind λu=>e2 .sn u (sv w)).bind λu=>e2 .sn u d)
theorem P1:((((e2 .sn (.ls (kT T) []) (iv k)).bind λu=>e2 .sn u (iv v)).bind λu=>e2 .sn u (sv w)).bind λu=>e2 .sn u d)=zE T k v w d:=rfl
theorem ic(h:rep T t [iv k,iv v,sv w,d]):∃a,zE T k v w d=some a/\dU T [t] 1 a:=a01 h
end
theorem c1:((1:Nat):Int)=1:=rfl
theorem c2:((2:Nat):Int)=2:=rfl
theorem c3:((3:Nat):Int)=3:=rfl
theorem c4:((4:Nat):Int)=4:=rfl
theorem c5:((5:Nat):Int)=5:=rfl
theorem bA{a8:Bool}{S:B}{p p':Int}{t:Tm}(h:PT a8 (dr S p)=some (t,dr S p'))(a:0<=p)(A:p'<S.length+1):p<p':=by have:=a4K h;rw[eT,eT]at this;omega
theorem qT{S:B}{p p' lo V n:Int}(h:dt lo V (dr S p)=some (n,dr S p'))(a:0<=p)(A:p'<S.length+1):p<p':=Y5 h a (by omega)
theorem AE{l:List Tm}:jC true l=decide (l.length<=64):=by simp[jC]
theorem dD{T:TypeId}{l:List Tm}{m:Int}{e:Dt}(h:dU T l m e):m=l.length:=by obtain⟨J, -,h, -⟩:=h;exact h
theorem a07{E:G}{nm:String}{a b c d:SE}:Fact.holds E (.rel nm false gm [a,b,c,d])=(tS (aj E a)/\tI (aj E b)/\tS (aj E c)/\tI (aj E d)/\iO (aj E d)=iO (aj E b)+(sO (aj E c)).length/\Q1 (must (sO (aj E c)) (dr (sO (aj E a)) (iO (aj E b)))=some (dr (sO (aj E a)) (iO (aj E d))))):=by unfold gm;rw[h_S]<;>rfl
section
variable{X R e:B}{ts:List Tm}{n:Int}
theorem a2c(h:must [44] X=none)(I:must e X=some R)(a:ts.length<=64):bU true ts e X=some (ts,R):=a05 h I (by rw[AE];exact zO a)
theorem XR(h:must [44] X=none)(I:must e X=some R)(a:64<ts.length):bU true ts e X=none:=a2d h I (by rw[AE];exact qi (by omega))
theorem Ff(h:must [44] X=none)(I:must [62] X=some R)(a:ts.length<=64):dH true n ts X=some (.mk 5 n [] ts,R):=a00 h I (by rw[AE];exact zO a)
theorem XQ(h:must [44] X=none)(I:must [62] X=some R)(a:64<ts.length):dH true n ts X=none:=a17 h I (by rw[AE];exact qi (by omega))
end
section
variable{T:TypeId}{t u:Tm}{k v:Int}{w:B}{d:Dt}
theorem hi(h:rep T t [iv k,iv v,sv w,d]):t.k=k:=by rw[(lH h).1]<;>rfl
theorem br(h:rep T t [iv k,iv v,sv w,d])(a:rep T u [iv k,iv v,sv w,d]):t=u:=Oy h a
theorem fM:rep T pd [iv 8,iv 0,sv [],.sl (.slice none 0 0) T 4 []]:=um
end
section
variable{T:TypeId}{l O:List Tm}{t u:Tm}{e d d0:Dt}{m m' i k v n:Int}{w:B}
theorem T5(h:dU T l m e):List.take m.toNat l=l:=by rw[dD h];simp
def at8(T:TypeId)(e:Dt)(i k v:Int)(w:B)(d:Dt):Option Dt:=((((((((e2 (.at 4 0) e (iv i)).bind (e2 .sn (.ls (kT T) []))).bind λu=>(e2 (.at 4 1) e (iv i)).bind (e2 .sn u)).bind λu=>(e2 (.at 4 2) e (iv i)).bind (e2 .sn u)).bind λu=>(e2 (.at 4 3) e (iv i)).bind (e2 .sn u)).bind λu=>e2 .sn u (iv k)).bind λu=>e2 .sn u (iv v)).bind λu=>e2 .sn u (sv w)).bind λu=>e2 .sn u d
theorem P4:((((((((e2 (.at 4 0) e (iv i)).bind (e2 .sn (.ls (kT T) []))).bind λu=>(e2 (.at 4 1) e (iv i)).bind (e2 .sn u)).bind λu=>(e2 (.at 4 2) e (iv i)).bind (e2 .sn u)).bind λu=>(e2 (.at 4 3) e (iv i)).bind (e2 .sn u)).bind λu=>e2 .sn u (iv k)).bind λu=>e2 .sn u (iv v)).bind λu=>e2 .sn u (sv w)).bind (λu=>e2 .sn u d)=at8 T e i k v w d:=rfl
def ld8(T:TypeId)(e:Dt)(i k v:Int)(w:B)(d:Dt):Option Dt:=((((((((iz e i 0).bind (e2 .sn (.ls (kT T) []))).bind λu=>(iz e i 1).bind (e2 .sn u)).bind λu=>(iz e i 2).bind (e2 .sn u)).bind λu=>(iz e i 3).bind (e2 .sn u)).bind λu=>e2 .sn u (iv k)).bind λu=>e2 .sn u (iv v)).bind λu=>e2 .sn u (sv w)).bind λu=>e2 .sn u d
theorem PZ:((((((((iz e i 0).bind (e2 .sn (.ls (kT T) []))).bind λu=>(iz e i 1).bind (e2 .sn u)).bind λu=>(iz e i 2).bind (e2 .sn u)).bind λu=>(iz e i 3).bind (e2 .sn u)).bind λu=>e2 .sn u (iv k)).bind λu=>e2 .sn u (iv v)).bind λu=>e2 .sn u (sv w)).bind (λu=>e2 .sn u d)=ld8 T e i k v w d:=rfl
theorem a2j{a b:Int}{x:B}{y:Dt}(c:rep T u [iv a,iv b,sv x,y])(e:rep T t [iv k,iv v,sv w,d]):
  ∃f,((((((((e2 .sn (.ls (kT T) []) (iv a)).bind λu=>e2 .sn u (iv b)).bind λu=>e2 .sn u (sv x)).bind λu=>e2 .sn u y).bind λu=>e2 .sn u (iv k)).bind λu=>e2 .sn u (iv v)).bind λu=>e2 .sn u (sv w)).bind λu=>e2 .sn u d)=some f/\dU T [u,t] 2 f:=by
 have A:=sn4 (J:=[]) c rfl;have I:=sn4 (J:=[iv a,iv b,sv x,y]) e (by simp);refine⟨.ls (kT T) ([iv a,iv b,sv x,y]++[iv k,iv v,sv w,d]),?_,_,rfl,rfl,qF (vY c) (vY e)⟩;rw[A];simp only[aW];exact I
theorem a5e(f:dU T l m e)(g:0<=i)(A:i<m)(h:rep T t [iv k,iv v,sv w,d]):∃u c,l[i.toNat]? =some u/\at8 T e i k v w d=some c/\dU T [u,t] 2 c:=by obtain⟨u,a,b,x,y,j,g0,g1,g2,g3,n⟩:=a7m f g (by have:=dD f;omega);obtain⟨c,I,W⟩:=a2j n h;refine⟨u,c,j,?_,W⟩;unfold at8;rw[g0,g1,g2,g3];simpa using I
theorem a48(f:gx T l e)(g:0<=i)(A:i<l.length)(h:rep T t [iv k,iv v,sv w,d]):∃u c,l[i.toNat]? =some u/\ld8 T e i k v w d=some c/\dU T [u,t] 2 c:=by obtain⟨u,a,b,x,y,j,g0,g1,g2,g3,m⟩:=XP f g A;obtain⟨c,I,W⟩:=a2j m h;refine⟨u,c,j,?_,W⟩;unfold ld8;rw[g0,g1,g2,g3];simpa using I
theorem Ph{i:Int}(b:0<=i)(a:l[i.toNat]? =some u):bJ (List.take (i+1).toNat l) t=bJ (List.take i.toNat l) (.mk 9 0 [] [u,t]):=by rw[show(i+1).toNat=i.toNat+1 by omega];exact J4 a
theorem a44(c:dU T l m e)(a:0<=i)(A:i<m)(f:rep T t [iv k,iv v,sv w,d])(b:tD (at8 T e i k v w d)/\frz T d0 (dO (at8 T e i k v w d)) 2):
  ∃u,rep T (.mk 9 0 [] [u,t]) [iv 9,iv 0,sv [],d0]/\bJ (List.take (i+1).toNat l) t=bJ (List.take i.toNat l) (.mk 9 0 [] [u,t]):=by
 obtain⟨u,g,g1,g2,g3⟩:=a5e c a A f;rw[g2]at b;exact⟨u,ni (iB b.2 g3),Ph a g1⟩
theorem a0V(c:gx T l e)(a:0<=i)(A:i<l.length)(f:rep T t [iv k,iv v,sv w,d])(b:tD (ld8 T e i k v w d)/\frz T d0 (dO (ld8 T e i k v w d)) 2):
  ∃u,rep T (.mk 9 0 [] [u,t]) [iv 9,iv 0,sv [],d0]/\bJ (List.take (i+1).toNat l) t=bJ (List.take i.toNat l) (.mk 9 0 [] [u,t]):=by
 obtain⟨u,g,g1,g2,g3⟩:=a48 c a A f;rw[g2]at b;exact⟨u,ni (iB b.2 g3),Ph a g1⟩
end
section
variable{S:B}{i k n:Int}{w:B}{d:Dt}{t:Tm}{T:TypeId}
theorem Ll(h:da S i.toNat)(b:0<=i)(A:rd (S.take i.toNat)=some t)(Z:t.k≠2):da S (i+1).toNat:=NI h b λnm l a _=>by
 rw[A]at a;injection a with a;subst a;exact Z rfl
theorem Lk(h:da S i.toNat)(b:0<=i)(A:rd (S.drop (i+1).toNat)=some t)(Z:∀l,t≠bJ l pd):da S (i+1).toNat:=NI h b λnm l _ a=>by
 rw[A]at a;injection a with a;exact Z l a
theorem Lj(h:da S i.toNat)(b:0<=i)(A:rd (S.take i.toNat)=none):da S (i+1).toNat:=NI h b λnm l a _=>by rw[A]at a;cases a
theorem Li(h:da S i.toNat)(b:0<=i)(A:rd (S.drop (i+1).toNat)=none):da S (i+1).toNat:=NI h b λnm l _ a=>by rw[A]at a;cases a
theorem Gf{u:B}(h:rd u=some t)(b:rep T t [iv 2,iv n,sv w,d]):rd u=some (.mk 2 0 w []):=by
 have a:=(Oz h).1;have e:=(lH b).1;rw[e]at a;have A:=Q3 a;unfold wf1 at A;have I:t.l=[]:=Vn a (by omega);rw[h,e,I];have:n=0:=by omega
 rw[this]
theorem YF{u:B}(h:rd u=some t)(a:u.length<=4200):t.wf/\t.words<=10000:=by have:=Oz h;exact⟨this.1,by omega⟩
theorem Ah{S:B}{n:Nat}(h:(S.length:Int)<=4200):(S.take n).length<=4200/\(S.drop n).length<=4200:=by rw[cG,eT];omega
end
section
variable{S X R:B}{p i n k v:Int}{t u:Tm}{l:List Tm}{T:TypeId}{w:B}{d:Dt}{r:B}{m:Nat}
theorem a0Z(a:0<=p)(h:List.drop p.toNat (List.take (p+X.length).toNat S)=X):must X (dr S p)=some (dr S (p+X.length)):=by refine a5a a ?_;rw[show(p+(X.length:Int)).toNat=p.toNat+X.length by omega,vi]at h;rw[show p.toNat+X.length-p.toNat=X.length by omega]at h;exact h
theorem Tw(a:0<=p)(h:¬List.drop p.toNat (List.take (p+X.length).toNat S)=X):must X (dr S p)=none:=by
 refine Tx λe=>h ?_
 rw[show(p+(X.length:Int)).toNat=p.toNat+X.length by omega,vi,show p.toNat+X.length-p.toNat=X.length by omega];exact e
theorem NU(a:0<=p)(A:p<=S.length)(h:(S.length:Int)-p<X.length):must X (dr S p)=none:=by refine Ty ?_;rw[eT];omega
theorem a0W(h:i<0)(A: -1<=i):bJ (List.take (i+1).toNat l) t=t:=by rw[show(i+1).toNat=0 by omega]<;>rfl
theorem BZ(h:dt 0 aZ X=some (n,r)):gT true (PR true) X=dH true n [] r:=nZ h
theorem JI(h:dt 0 aZ X=none):gT true (PR true) X=none:=OU h
theorem M9(h:S.length<=p):dr S p=[]:=ql (by omega)
theorem a1A(a:0<=p)(h:p<S.length):dr S p≠[]:=by intro e;have:=dX List.length e;rw[eT]at this;simp only[dv]at this;omega
theorem a2x(h:PT true S=some (t,dr S p))(a:p=S.length):rd S=some t:=a5G (by rw[h,M9 (by omega)])
theorem a2y(h:PT true S=some (t,dr S p))(a:0<=p)(A:p<S.length+1)(b:¬p=S.length):rd S=none:=a2z h (a1A a (by omega))
theorem a0E(h:PT true S=some (t,r)):t.fits=true:=by
 rw[AZ]at h;cases Y:PT false S with
 |none=>rw[Y]at h;cases h
 |some x=>
  rw[Y]at h;simp only[eN]at h;split at h
  .next a=>
   have:=ae h;have e:x.1=t:=dX Prod.fst this;rw[<-e];exact a
  .cases h
theorem a5E(h:rd (S.take m)=some t)(a:(S.length:Int)<=4200):t.wf/\t.words<=10000:=YF h (Ah a).1
theorem a5F(h:rd (S.drop m)=some t)(a:(S.length:Int)<=4200):t.wf/\t.words<=10000:=YF h (Ah a).2
theorem a6D{K:TypeId->List Kd}{N:Nat}(a:K T=kT T)(c:N=40000)(h:PT true S=some (t,r))(e:(S.length:Int)<=4200)(b:rep T t [iv k,iv v,sv w,d]):T3 K T N (iv k) (iv v) (sv w) d:=by have:=Xp h;exact WT a b (by omega)
theorem a6E(h:PT true S=some (t,r))(a:rep T t [iv k,iv v,sv w,d]):xF (iv k) (iv v) (sv w) d:=Ow a (Xp h).1 (a0E h)
end
def n8(d:Dt):Prop:=e1 .len d≠none
def ln(d:Dt):Int:=iO (e1 .len d)
section
variable{E:G}{n j:Nat}{d:Dt}{o:Option Dt}{T:TypeId}{l:List Tm}{t:Tm}{k v i:Int}{w:B}
theorem Ps:e1 .len d=mz (n8 d) (some (iv (ln d))):=by
 by_cases h:n8 d
 .rw[od h];unfold n8 at h;unfold ln;cases d with
  |val x=>cases x<;>first|rfl|exact absurd rfl h
  |sl x t g J=>cases x<;>first|rfl|exact absurd rfl h
  |_=>exact absurd rfl h
 .have:e1 .len d=none:=by
    unfold n8 at h;exact vt.1 h
  rw[this];unfold mz;rw[ai h]
theorem Hb:e1 .len (gd E n)=mz (n8 (gd E n)) (some (iv (ln (gd E n)))):=Ps
theorem Hc:e1 .len (dO o)=mz (n8 (dO o)) (some (iv (ln (dO o)))):=Ps
theorem G7(h:gx T l d):n8 d/\ln d=l.length:=by have:=UE h;exact⟨by unfold n8;rw[this];simp,by unfold ln;rw[this]<;>rfl⟩
theorem wS(h:rep T t [iv k,iv v,sv w,d]):n8 d/\ln d=t.l.length:=G7 (nR h)
theorem GI{c:Prop}{m:Int}{a:IntKind}:U4 (some (.val (.int a i))) (mz c (some (iv m)))=(c/\¬(0<=i/\i<m)):=by
 by_cases h:c
 .rw[od h,B1];simp[h]
 .unfold mz;rw[ai h];simp[h,U4]
theorem PB{c:Prop}{m:Int}{a:IntKind}:inO (some (.val (.int a i))) (mz c (some (iv m)))=(c/\0<=i/\i<m):=by
 by_cases h:c
 .rw[od h,Ko];simp[h]
 .unfold mz;rw[ai h];simp[h,inO]
theorem a0Y(h:gx T l d)(c:0<=i)(A:i<l.length):∃u,l[i.toNat]? =some u/\tI (iz d i 0)/\tI (iz d i 1)/\tS (iz d i 2)/\tD (iz d i 3)/\rep T u [iv (iO (iz d i 0)),iv (iO (iz d i 1)),sv (sO (iz d i 2)),dO (iz d i 3)]:=by obtain⟨u,a,b,x,y,e,g0,g1,g2,g3,f⟩:=XP h c A;refine⟨u,e,?_⟩;rw[g0,g1,g2,g3];exact⟨rfl,rfl,rfl,rfl,f⟩
def ldF(T:TypeId)(e:Dt)(i:Int):Option Dt:=((((iz e i 0).bind (e2 .sn (.ls (kT T) []))).bind λu=>(iz e i 1).bind (e2 .sn u)).bind λu=>(iz e i 2).bind (e2 .sn u)).bind λu=>(iz e i 3).bind (e2 .sn u)
theorem PX{e:Dt}:((((iz e i 0).bind (e2 .sn (.ls (kT T) []))).bind λu=>(iz e i 1).bind (e2 .sn u)).bind λu=>(iz e i 2).bind (e2 .sn u)).bind (λu=>(iz e i 3).bind (e2 .sn u))=ldF T e i:=rfl
def ldA(c:Dt)(m:Int)(e:Dt)(i:Int):Option Dt:=((((e2 (.tk 4) c (iv m)).bind λu=>(iz e i 0).bind (e2 .sn u)).bind λu=>(iz e i 1).bind (e2 .sn u)).bind λu=>(iz e i 2).bind (e2 .sn u)).bind λu=>(iz e i 3).bind (e2 .sn u)
theorem PY{c e:Dt}{m:Int}:((((e2 (.tk 4) c (iv m)).bind λu=>(iz e i 0).bind (e2 .sn u)).bind λu=>(iz e i 1).bind (e2 .sn u)).bind λu=>(iz e i 2).bind (e2 .sn u)).bind (λu=>(iz e i 3).bind (e2 .sn u))=ldA c m e i:=rfl
theorem a45{e:Dt}(h:gx T l e)(d:0<=i)(A:i<l.length):∃u c,l[i.toNat]? =some u/\ldF T e i=some c/\dU T [u] 1 c:=by obtain⟨u,a,b,x,y,f,g0,g1,g2,g3,g⟩:=XP h d A;obtain⟨c,I,W⟩:=a01 g;refine⟨u,c,f,?_,W⟩;unfold ldF;rw[g0,g1,g2,g3];simpa using I
theorem a47{c e:Dt}{m:Int}{q:List Tm}(f:dU T q m c)(h:gx T l e)(g:0<=i)(A:i<l.length):∃u d,l[i.toNat]? =some u/\ldA c m e i=some d/\dU T (q++[u]) (m+1) d:=by obtain⟨u,a,b,x,y,j,g0,g1,g2,g3,k⟩:=XP h g A;obtain⟨d,I,W⟩:=lD f k;refine⟨u,d,j,?_,W⟩;unfold ldA;rw[g0,g1,g2,g3];unfold K1 at I;simpa using I
theorem Ix{e:Dt}{n:Int}(a:dU T l n e)(h:rep T t [iv k,iv v,sv w,d]):¬Bm 4 (K1 e n k v w d) (some (iv (n+1))):=by obtain⟨b,A,I⟩:=lD a h;rw[A];exact eO I
theorem S9(h:rep T t [iv k,iv v,sv w,d]):¬Bm 4 (zE T k v w d) (some (iv 1)):=by obtain⟨a,A,I⟩:=ic h;rw[A];exact eO I
end
section
variable{S R:B}{p i n f lo V:Int}{c:UInt8}{less:Bool}
theorem b123(a:0<=p)(A:p<S.length)(h:bt S p=123):must [123] (dr S p)=some (dr S (p+1)):=KY a A h
theorem b91(a:0<=p)(A:p<S.length)(h:bt S p=91):must [91] (dr S p)=some (dr S (p+1)):=KY a A h
theorem Mk(h:must [c] (dr S p)=some R)(a:0<=p):p<S.length:=by
 rcases Int.lt_or_le p S.length with A|A
 .exact A
 .rw[pQ A]at h;cases h
theorem a2U(h:must [c] (dr S p)=some R)(a:0<=p):bt S p=c.toNat:=At a (Mk h a) h
theorem sb1(a:0<=i)(A:i<S.length):∃c:UInt8,bt S i=c.toNat/\List.drop i.toNat (List.take (i+1).toNat S)=[c]:=by obtain⟨c,b,e⟩:=cF a A;refine⟨c,e,?_⟩;rw[show(i+1).toNat=i.toNat+1 by omega,oi (aX _) b,ql (by rw[cG];omega)];rfl
theorem a4X(a:0<=i)(A:i<S.length)(h:plain ([97]++List.drop i.toNat (List.take (i+1).toNat S))=true):Pm (bt S i):=by obtain⟨c,e,e2⟩:=sb1 a A;rw[e2]at h;have h:plain [97,c]=true:=h;rw[OS]at h;rw[e];exact jQ.1 h
theorem a4Y(a:0<=i)(A:i<S.length)(h:plain ([97]++List.drop i.toNat (List.take (i+1).toNat S))=false):¬Pm (bt S i):=by obtain⟨c,e,e2⟩:=sb1 a A;rw[e2]at h;have h:plain [97,c]=false:=h;rw[OS]at h;rw[e];intro I;rw[jQ.2 I]at h;cases h
theorem Ac:IntKind.i64.wrap n=wr n:=rfl
theorem Ab:IntKind.u8.wrap n=wu n:=rfl
theorem Iz(h:0<=n/\n<256):wu n=n:=by rw[TQ];omega
theorem Ob{a b:Int}:e2 (.bin .quo) (iv a) (iv b)=mz (b≠0) (some (iv (wr (a.tdiv b)))):=by
 by_cases h:b=0
 .subst h;unfold mz;rw[ai (by simp)];simp only[e2,dW,bj,aH,intOp];rfl
 .rw[od h];simp only[e2,dW,bj,aH,intOp,qi h,okV];rfl
theorem a5k{a b:Int}(h:b≠0):e2 (.bin .rem) (iv a) (iv b)=some (iv (a.tmod b)):=a5U h
theorem T4{x:Int}(h:x<=0):x.tdiv 10= -((-x)/10):=by obtain⟨y,rfl⟩:∃y:Nat,x= -(y:Int):=⟨(-x).toNat,by omega⟩;rw[Int.neg_tdiv,Int.neg_neg]<;>rfl
theorem a2w(h:48<=bt S i/\bt S i<=57):wr (wu (bt S i-48))=bt S i-48:=by rw[Iz (by omega),eg (by omega)]
theorem Tf(h:ks S f.toNat p.toNat i.toNat n)(a:0<=i)(K:i<p)(A:i<S.length)(I:bt S i≠45)(b:cM<=lo)(c:V<=dS)(d:n<wr ((wr (-576460752303423488+wr (wu (bt S i-48)))).tdiv 10)):dt lo V (dr S f)=none:=by have e:=F6 h a K A I;rw[a2w e,eg (n:= -576460752303423488+_) (by omega),T4 (by omega),eg (by omega)]at d;refine a4R h a K A I b c ?_;unfold cM;omega
theorem Te(h:ks S f.toNat p.toNat i.toNat n)(a:0<=i)(K:i<p)(A:i<S.length)(I:bt S i≠45)(c:¬n<wr ((wr (-576460752303423488+wr (wu (bt S i-48)))).tdiv 10)):ks S f.toNat p.toNat (i+1).toNat (wr (wr (10*n)-wr (wu (bt S i-48)))):=by have b:=F6 h a K A I;have h6:=h.2.2.2.2.2;have h5:=h.2.2.2.2.1;unfold cM at h6;rw[a2w b,eg (n:= -576460752303423488+_) (by omega),T4 (by omega),eg (by omega)]at c;rw[a2w b,eg (n:=10*n) (by omega),eg (by omega)];exact a4Q h a K A I (by unfold cM;omega)
theorem Us(h:ks S f.toNat p.toNat i.toNat n):n<=0/\ -576460752303423488<=n:=by have h6:=h.2.2.2.2.2;have h5:=h.2.2.2.2.1;unfold cM at h6;exact⟨by omega,h6⟩
end
section
variable{S:B}{i n:Int}{d:Dt}{T:TypeId}{t u:Tm}{l O:List Tm}{k v:Int}{w:B}
theorem As:(∀c:UInt8,c∈([]:B)->digit c=true)=True:=by simp
theorem Ad:val []=0:=rfl
theorem c0:((0:Nat):Int)=0:=rfl
theorem a8t(h:¬bt S 0=48):S[0]? ≠some 48:=λe=>h (by
 have:=zk (S:=S) (p:=0) e;simpa using this)
theorem TZ:∀(l:B)(a:Nat),(∀c∈l,digit c=true)->l.foldl (λa c=>a*10+(c.toNat-48)) a+1<=(a+1)*10^l.length
 | [],a,_=>by simp
 |c::l,a,h=>by
  have A:=TZ l (a*10+(c.toNat-48)) λx Y=>h x (bk _ Y)
  have I:=ey.1 (h c aV);have W:(a*10+(c.toNat-48)+1)*10^l.length<=((a+1)*10)*10^l.length:=iU _ (by omega);rw[List.foldl_cons,bZ,Nat.pow_succ,rL (10^l.length) 10,<-Nat.mul_assoc];omega
theorem a2h{l:B}(h:∀c∈l,digit c=true)(a:l.length<=10):(val l:Int)<=9999999999:=by have A:=TZ l 0 h;have I:10^l.length<=10^10:=Fp (by decide) a;unfold val;omega
theorem wf9(h:t.wf)(c:rep T t [iv 9,iv v,sv w,d]):∃a b,t=.mk 9 0 [] [a,b]/\t.l=[a,b]/\a.wf/\b.wf:=by
 have e:=(lH c).1;have A:=a5h h;rw[e]at h;have I:=Q3 h;unfold wf1 at I;have W:v=0/\w=[]/\t.l.length=2:=by rcases I with h|h|h|h|h|h|h<;>first|exact⟨h.2.1,h.2.2.1,h.2.2.2⟩|(have:=h.1;omega)
 obtain⟨rfl,rfl,D⟩:=W
 match f:t.l,D with
 | [a,b],_=>rw[f]at A e;unfold jx jx jx at A;exact⟨a,b,e,rfl,A.1,A.2.1⟩
theorem Oo{a b:Tm}:(Tm.mk 9 0 [] [a,b]).size=1+(a.size+b.size):=by simp[Tm.size,sizes]
theorem size_pos:1<=t.size:=by cases t;simp[Tm.size]
end
end Go.Proofs.YtokipodjggomfaaGreatDoor.Txt
namespace Go.Proofs.YtokipodjggomfaaGreatDoor.Txt
open Go Go.Proofs.YtokipodjggomfaaGreatDoor.Abs Go.Lib
variable{S:B}{f p i n lo K:Int}{N:Nat}
theorem Oc{a:Int}:e1 (.un .neg) (iv a)=some (iv (wr (-a))):=by simp only[e1,iv,ZO,intOp,okV,Int.zero_sub];rfl
theorem Vq(h:n<=0/\ -576460752303423488<=n):wr (-n)= -n:=eg (by omega)
theorem a7u(a:0<=f)(A:f<S.length)(I:f<p)(h:bt S f=45):K7 true S f p:=by obtain⟨c,b,e⟩:=cF a A;have:c=45:=fX.1 (by rw[show(45:UInt8).toNat=45 from rfl];omega);subst this;exact⟨I,b⟩
theorem a7v(h:¬bt S f=45):K7 false S f p:=.inr λe=>h (zk e)
theorem a5s(h:f=p):K7 false S f p:=.inl h
theorem a7C(a:0<=p)(b:0<=f)(h:S.length<=p):zH S f.toNat p.toNat:=NJ a (.inl (.inl h)) b
theorem a7B(a:0<=p)(b:0<=f)(h:bt S p<48):zH S f.toNat p.toNat:=NJ a (.inl (.inr (.inl h))) b
theorem a7A(a:0<=p)(b:0<=f)(h:57<bt S p):zH S f.toNat p.toNat:=NJ a (.inl (.inr (.inr h))) b
theorem a7z(a:0<=p)(b:0<=f)(h:¬p-f<20)(I:p<=f+20):zH S f.toNat p.toNat:=NJ a (.inr (by omega)) b
theorem a5B(h:ks S f.toNat p.toNat i.toNat n)(V:¬i<p)(d:i<=p)(e:zH S f.toNat p.toNat)(g:0<=f)(j:K7 true S f p)(k:cM<=lo)(l:K<=dS)(c:n<lo\/K<n\/¬itoa n=sb S f p):dt lo K (dr S f)=none:=
 a0O h (by omega) e g j (m:=n) rfl k l (λw a b=>by rcases c with c|c|c<;>first|omega|exact c w)
theorem a5C(h:ks S f.toNat p.toNat i.toNat n)(V:¬i<p)(a:i<=p)(b:zH S f.toNat p.toNat)(c:0<=f)(d:K7 false S f p)(e:cM<=lo)(g:K<=dS)(j:wr (-n)<lo\/K<wr (-n)\/¬itoa (wr (-n))=sb S f p):dt lo K (dr S f)=none:=by grind[Vq,Us,a0O]
theorem Wv(A:cM<=lo)(I:K<=dS)(a:¬n<lo)(b:¬K<n): -9223372036854775807<=n/\n<=9223372036854775807/\(if n<0 then 22 else(itoa n).length)<30:=by grind[mI,mA,Cr]
theorem a7K(f:S.length<=10)(h:∀c∈S.take i.toNat,digit c=true)(d:0<=i)(A:i<S.length)(I:¬bt S i<48)(W:¬57<bt S i)(e:n=val (S.take i.toNat))(_:0<=n):
  (∀c∈S.take (i+1).toNat,digit c=true)/\10*n+(bt S i-48)=val (S.take (i+1).toNat)/\0<=10*n+(bt S i-48)/\10*n+(bt S i-48)<=9999999999:=by
 obtain⟨a,b⟩:=a41 h d A (by omega) (by omega);have D:=a2h a (by rw[cG];omega);refine⟨a,by rw[b,e],by omega,by rw[b]at D;omega⟩
theorem HK{T:TypeId}{e d:Dt}{k v:Int}{w:B}:((((ldF T e i).bind λu=>e2 .sn u (iv k)).bind λu=>e2 .sn u (iv v)).bind λu=>e2 .sn u (sv w)).bind (λu=>e2 .sn u d)=ld8 T e i k v w d:=rfl
section
variable{S:B}{i:Int}
theorem H8:0<=bt S i/\bt S i<256:=by unfold bt;have:=((S[i.toNat]?).getD 0).toNat_lt;omega
theorem a7R{x:Int}(a:0<=x)(A:x<256):e2 (.bin .quo) (uv x) (uv 16)=some (uv (x/16)):=by
 obtain⟨n,rfl⟩:=et a;have e:IntKind.u8.wrap ((n:Int).tdiv 16)=(n:Int)/16:=by show wu _=_;rw[show((n:Int).tdiv 16)=(n:Int)/16 from rfl,Iz (by omega)]
 simp only[e2,dW,bj,aH,intOp,okV];exact dX (λz=>some (Dt.val (Value.int .u8 z))) e
theorem a7Q{x:Int}(a:0<=x)(A:x<256):e2 (.bin .rem) (uv x) (uv 16)=some (uv (x%16)):=by grind[e2,dW,bj,intOp,okV]
theorem Zw{y:Int}(a:0<=y)(A:y<16):(e2 (.bin .add) (uv y) (uv 1)).bind (e3 .sub (sv [48,49,50,51,52,53,54,55,56,57,97,98,99,100,101,102]) (uv y))=some (sv [ll y.toNat]):=by rw[Bc,Iz (by omega),aW,Ba,show(y+1).toNat=y.toNat+1 by omega];exact dX (λz=>some (sv z)) (LO (n:=y.toNat) (by omega))
theorem XY:((e2 (.bin .quo) (uv (bt S i)) (uv 16)).bind λv=>((e2 (.bin .quo) (uv (bt S i)) (uv 16)).bind λu=>e2 (.bin .add) u (uv 1)).bind (e3 .sub (sv [48,49,50,51,52,53,54,55,56,57,97,98,99,100,101,102]) v))=some (sv [ll ((bt S i).toNat/16)]):=by have h:=H8 (S:=S) (i:=i);rw[a7R h.1 h.2,aW,aW,Zw (by omega) (by omega),show(bt S i/16).toNat=(bt S i).toNat/16 by omega]
theorem XX:((e2 (.bin .rem) (uv (bt S i)) (uv 16)).bind λv=>((e2 (.bin .rem) (uv (bt S i)) (uv 16)).bind λu=>e2 (.bin .add) u (uv 1)).bind (e3 .sub (sv [48,49,50,51,52,53,54,55,56,57,97,98,99,100,101,102]) v))=some (sv [ll ((bt S i).toNat%16)]):=by have h:=H8 (S:=S) (i:=i);rw[a7Q h.1 h.2,aW,aW,Zw (by omega) (by omega),show(bt S i%16).toNat=(bt S i).toNat%16 by omega]
end
section
variable{S s7:B}{i:Int}
theorem Kf{a b:UInt8}:[a,b].length=2:=rfl
theorem a1j(b:0<=i)(A:i<S.length):(S.take (i+1).toNat).drop i.toNat=[(S[i.toNat]?).getD 0]:=by obtain⟨c,a,e⟩:=cF b A;rw[show(i+1).toNat=i.toNat+1 by omega,nL a,a,fu];rw[Fy (by rw[cG];omega),ql (by rw[cG];omega),ij]
theorem R6(a:0<=i)(A:i<S.length):min (i+1).toNat S.length-i.toNat=1:=by omega
theorem esA(a:s7=39::mh (S.take i.toNat))(b:0<=i)(A:i<S.length)(h:bt S i=39\/bt S i=92):s7++[92]++(S.take (i+1).toNat).drop i.toNat=39::mh (S.take (i+1).toNat):=by grind[a1j,TE]
theorem esC(a:s7=39::mh (S.take i.toNat))(b:0<=i)(A:i<S.length)(h:¬bt S i=39)(I:¬bt S i=92)(W:¬bt S i<32)(D:¬126<bt S i):s7++(S.take (i+1).toNat).drop i.toNat=39::mh (S.take (i+1).toNat):=by grind[a1j,TC]
theorem esB(a:s7=39::mh (S.take i.toNat))(b:0<=i)(A:i<S.length)(h:bt S i<32\/126<bt S i):s7++[92,120]++[ll ((bt S i).toNat/16)]++[ll ((bt S i).toNat%16)]=39::mh (S.take (i+1).toNat):=by grind[TD]
theorem esE(a:s7=39::mh (S.take i.toNat))(h:¬i<S.length):s7++[39]=quote S:=by grind[Ti]
end
section
variable{n:Int}{N:Nat}{s7 s8:B}
theorem Ae{a:Int}:e2 (.bin .rem) (iv a) (iv 10)=some (iv (a.tmod 10)):=a5k (by decide)
theorem a8l{n:Nat}(h:¬n<10):itoa ((n/10:Nat):Int)++itoa ((n%10:Nat):Int)=itoa (n:Int):=by
 rw[itoa_nonneg,itoa_nonneg,itoa_nonneg,decDigits_one (Nat.mod_lt _ (by decide))]
 conv=>rhs;rw[decDigits,dif_neg h]
theorem a8o(h:n<0)(A: -9223372036854775807<=n)(W:(if n<0 then 22 else(itoa n).length)<N+1): -9223372036854775807<= -n/\ -n<=9223372036854775807/\(if -n<0 then 22 else(itoa (-n)).length)<N:=by rw[az h]at W;have:=itoa_length_le (-n) (by omega) (by omega);rw[ai (by omega)];omega
theorem a8n(h:n<0)(a:s7=itoa (-n)):[45]++s7=itoa n:=by obtain⟨u,rfl⟩:∃u:Nat,n= -(u:Int):=⟨n.natAbs,by omega⟩;rw[a,Int.neg_neg,itoa_nonneg,itoa_neg u (by omega)]<;>rfl
theorem a8m(a:0<=n)(h:n<10):([48,49,50,51,52,53,54,55,56,57].take (n+1).toNat).drop n.toNat=itoa n:=by
 obtain⟨u,rfl⟩:=et a;rw[itoa_nonneg,decDigits_one (by omega)];have key:∀u:Fin 10,([48,49,50,51,52,53,54,55,56,57].take (u.val+1)).drop u.val=[UInt8.ofNat (48+u.val)]:=by decide
 exact key ⟨u,by omega⟩
theorem Z1(h:¬n<10)(I:n<=9223372036854775807):wr (n.tdiv 10)=n/10/\n.tmod 10=n%10:=by grind[eg]
theorem Ww(a: -9223372036854775808<=n)(A:n<=9223372036854775808-1):(itoa n).length<=21:=itoa_length_le n a (by omega)
theorem a3z(h:¬n<10):itoa (n/10)++itoa (n%10)=itoa n:=by obtain⟨u,rfl⟩:=et (show 0<=n by omega);exact a8l (by omega)
theorem Z2(h:¬n<10)(W:(if n<0 then 22 else(itoa n).length)<N+1):(itoa (n/10)).length<N/\(itoa (n%10)).length<N:=by grind[a3z,Cq]
end
section
variable{T:TypeId}{t:Tm}{d:Dt}{k v:Int}{w:B}
theorem it9(Z:k=9)(h:rep T t [iv k,iv v,sv w,d])(l:t.wf):∃a b c,t=.mk 9 0 [] [a,b]/\tI (iz d 1 0)/\tI (iz d 1 1)/\tS (iz d 1 2)/\tD (iz d 1 3)/\rep T b [iv (iO (iz d 1 0)),iv (iO (iz d 1 1)),sv (sO (iz d 1 2)),dO (iz d 1 3)]/\ldF T d 0=some c/\dU T [a] 1 c/\a.wf/\b.wf:=by
 subst Z;obtain⟨a,b,e,m,n,o⟩:=wf9 l h;have f:=nR h;rw[m]at f;obtain⟨u,p,g0,g1,g2,g3,q⟩:=a0Y f (i:=1) (by decide) (by simp);obtain⟨j,c,g,r,s⟩:=a45 f (i:=0) (by decide) (by simp);have:u=b:=by simpa using p.symm
 have:j=a:=by simpa using g.symm
 subst u j;exact⟨a,b,c,e,g0,g1,g2,g3,q,r,s,n,o⟩
theorem Zr{q:List Tm}{m:Int}{c:Dt}(p:dU T q m c)(Z:k=9)(n:rep T t [iv k,iv v,sv w,d])(r:t.wf):∃a b f,t=.mk 9 0 [] [a,b]/\tI (iz d 1 0)/\tI (iz d 1 1)/\tS (iz d 1 2)/\tD (iz d 1 3)/\rep T b [iv (iO (iz d 1 0)),iv (iO (iz d 1 1)),sv (sO (iz d 1 2)),dO (iz d 1 3)]/\ldA c m d 0=some f/\dU T (q++[a]) (m+1) f/\a.wf/\b.wf:=by
 obtain⟨a,b,f,e,g0,g1,g2,g3,s,y,z,u,x⟩:=it9 Z n r;have o:=nR n;rw[e]at o;obtain⟨g,e1,h,j,l⟩:=a47 p o (i:=0) (by decide) (show(0:Int)<(2:Nat) by decide);have:g=a:=by have:some a=some g:=h;injection this with this;exact this.symm
 subst this;exact⟨g,b,e1,e,g0,g1,g2,g3,s,j,l,u,x⟩
def fs8(T:TypeId)(a b:Int)(x:B)(y:Dt)(k v:Int)(w:B)(d:Dt):Option Dt:=((((zE T a b x y).bind λu=>e2 .sn u (iv k)).bind λu=>e2 .sn u (iv v)).bind λu=>e2 .sn u (sv w)).bind λu=>e2 .sn u d
theorem P2{a b:Int}{x:B}{y:Dt}:((((zE T a b x y).bind λu=>e2 .sn u (iv k)).bind λu=>e2 .sn u (iv v)).bind λu=>e2 .sn u (sv w)).bind (λu=>e2 .sn u d)=fs8 T a b x y k v w d:=rfl
theorem a5d{a b:Int}{x:B}{y:Dt}{u:Tm}(e:rep T u [iv a,iv b,sv x,y])(f:rep T t [iv k,iv v,sv w,d]):∃c,fs8 T a b x y k v w d=some c/\dU T [u,t] 2 c:=a2j e f
theorem a5c{a b:Int}{x:B}{y d0:Dt}{u:Tm}(e:rep T u [iv a,iv b,sv x,y])(f:rep T t [iv k,iv v,sv w,d])(c:tD (fs8 T a b x y k v w d)/\frz T d0 (dO (fs8 T a b x y k v w d)) 2):rep T (.mk 9 0 [] [u,t]) [iv 9,iv 0,sv [],d0]:=by obtain⟨g,A,I⟩:=a5d e f;rw[A]at c;exact ni (iB c.2 I)
theorem a5b{a b:Int}{x:B}{y d0:Dt}{u:Tm}(d:rep T u [iv a,iv b,sv x,y])(c:tD (zE T a b x y)/\frz T d0 (dO (zE T a b x y)) 1):gx T [u] d0:=by obtain⟨e,A,I⟩:=ic d;rw[A]at c;exact iB c.2 I
theorem ED:∀l:List Tm,l.length<=sizes l
 | []=>j0 _
 |t::l=>by
  have h:=ED l;have A:=size_pos (t:=t);simp only[sizes,bZ];omega
theorem tf(a:t.words<=10000):t.l.length<=10000:=by
 have h:=gv t;have A:=ED t.l;cases t with
 |mk k n s l=>simp only[Tm.size,Tm.l]at h A ⊢;omega
theorem ZJ(h:¬y6 t):t.fits=false:=by
 cases a:t.fits with
 |false=>rfl
 |true=>exact absurd (CH.1 a).1 h
theorem TU:∀{l:List Tm}{n:Nat}{u:Tm},jx l->l[n]? =some u->u.wf/\u.size<=sizes l/\u.words<=cA l
 | [],n,u,_,h=>by simp at h
 |t::l,0,u,d,h=>by grind[jx,sizes,cA]
 |t::l,n+1,u,d,h=>by
  unfold jx at d;obtain⟨a,b,c⟩:=TU d.2 (by simpa using h);refine⟨a,?_,?_⟩
  .simp only[sizes];omega
  .simp only[cA];omega
theorem itE{i:Int}(V:n8 d/\i<ln d)(h:0<=i)(f:rep T t [iv k,iv v,sv w,d])(j:t.wf)(e:t.words<=10000):∃u,t.l[i.toNat]? =some u/\tI (iz d i 0)/\tI (iz d i 1)/\tS (iz d i 2)/\tD (iz d i 3)/\rep T u [iv (iO (iz d i 0)),iv (iO (iz d i 1)),sv (sO (iz d i 2)),dO (iz d i 3)]/\u.wf/\u.words<=10000/\u.size<t.size/\ln d=t.l.length/\t.l.length<=10000:=by
 have q:=wS f;have m:=tf e;obtain⟨u,g,g0,g1,g2,g3,o⟩:=a0Y (nR f) h (by omega);obtain⟨a,b,c⟩:=TU (a5h j) g;refine⟨u,g,g0,g1,g2,g3,o,a,?_,?_,q.2,m⟩
 .cases t with
  |mk k n s l=>simp only[Tm.l]at c;unfold Tm.words at e;split at e<;>omega
 .cases t with
  |mk k n s l=>simp only[Tm.l]at b;simp only[Tm.size];omega
theorem NZ:t.words=(if t.k=7\/t.k=5 then 2 else 1)+cA t.l:=by
 cases t with
 |mk k n s l=>by_cases h:k=7\/k=5<;>simp[Tm.words,Tm.k,Tm.l,h]
theorem DU:∀(l:List Tm)(n:Nat),cA (l.take n)<=cA l
 | [],n=>by simp
 |t::l,0=>by simp[cA]
 |t::l,n+1=>by
  have:=DU l n;simp only[Fm,cA];omega
theorem a5i{i:Int}{n:Nat}(_:t.words<=10000)(a:i=(if t.k=7\/t.k=5 then 2 else 1)+(cA (t.l.take n):Int)):1<=i/\i<=t.words:=by grind[DU,NZ]
theorem a7n{i:Int}(a:i=(if t.k=7\/t.k=5 then 2 else 1)+(cA t.l:Int)):i=t.words:=by grind[NZ]
theorem a7o(c:¬k=9)(h7:¬k=7)(h5:¬k=5)(a:rep T t [iv k,iv v,sv w,d])(b:t.wf):(1:Int)=t.words:=by
 have e:=(lH a).1;have I:=b;rw[e]at I;have I:=Q3 I;unfold wf1 at I;have W:t.l.length=0:=by grind
 rw[A6 W]at e;rw[e,im ⟨h7,h5⟩]<;>rfl
theorem it8(Z:k=8)(a:rep T t [iv k,iv v,sv w,d])(b:t.wf):t=pd:=by
 subst Z;have e:=(lH a).1;have I:=b;rw[e]at I;have I:=Q3 I;unfold wf1 at I;have W:v=0/\w=[]/\t.l.length=0:=by grind
 obtain⟨rfl,rfl,D⟩:=W;rw[A6 D]at e;exact e
theorem Py(a:¬k=8)(b:¬k=9)(c:rep T t [iv k,iv v,sv w,d])(l:List Tm):t≠bJ l pd:=by
 intro e;have h:=(lH c).1;rw[e]at h;cases l with
 |nil=>exact a (by injection h with h;exact h.symm)
 |cons x l=>exact b (by injection h with h;exact h.symm)
end
end Go.Proofs.YtokipodjggomfaaGreatDoor.Txt
namespace Go.Proofs.YtokipodjggomfaaGreatDoor.Txt
open Go Go.Proofs.YtokipodjggomfaaGreatDoor.Abs Go.Lib
def hx2(a b:Int):Int:=wu (IntKind.i64.wrap (BitVec.ofInt 64 (wr (a*16)) |||BitVec.ofInt 64 b).toNat)
section
variable{E:G}{S:B}{p f:Int}{a X:B}{T:TypeId}
abbrev ZB:B:=[48,49,50,51,52,53,54,55,56,57,97,98,99,100,101,102]
theorem P0{a b:Int}:((((aj E (.int .u64 4)).bind (e2 (.bin .shl) (iv a))).bind λu=>e2 (.bin .or) u (iv b)).bind (e1 (.conv .u8)))=some (uv (hx2 a b)):=rfl
theorem a08{n:Int}:0<=wu n/\wu n<256:=by rw[TQ];omega
theorem N7{l:B}{n:Int}:e2 .sn (bd l) (uv (wu n))=some (bd (l++[UInt8.ofNat (wu n).toNat])):=Bb a08
theorem N8{l:B}{a b:Int}:e2 .sn (bd l) (uv (hx2 a b))=some (bd (l++[UInt8.ofNat (hx2 a b).toNat])):=Bb a08
theorem Zx:∀a b:Fin 16,(hx2 (a.val:Int) (b.val:Int)).toNat=16*a.val+b.val:=by decide+kernel
theorem a3d{a b:Int}(A:0<=a)(I:a<16)(W:0<=b)(D:b<16):(hx2 a b).toNat=16*a.toNat+b.toNat:=by obtain⟨n,rfl⟩:=et A;obtain⟨m,rfl⟩:=et W;exact Zx ⟨n,by omega⟩ ⟨m,by omega⟩
theorem a0R{x y:Int}(q:ek S f.toNat p.toNat a)(c:0<=p)(A:p<S.length)(I:bt S p=92)(d:must [120] (dr S (p+1))=some X)(h:¬S.length<p+1+1+2)
  (e:x=indexByte ZB (bt S (p+1+1)).toNat.toUInt8) (g:y=indexByte ZB (bt S (p+1+1+1)).toNat.toUInt8) (Y:¬x<0) (b:¬y<0):
  ek S f.toNat (p+1+1+2).toNat (a++[UInt8.ofNat (hx2 x y).toNat]):=by
 subst e;subst g;obtain⟨r,i,j⟩:=a4V q c A I d (by omega) (Int.not_lt.1 Y) (Int.not_lt.1 b);rw[a3d (Int.not_lt.1 Y) i (Int.not_lt.1 b) j,show p+1+1+2=p+4 by omega];exact r
theorem NL{x y:Int}(q:ek S f.toNat p.toNat a)(b:0<=p)(A:p<S.length)(I:bt S p=92)(c:must [120] (dr S (p+1))=some X)(h:¬S.length<p+1+1+2)
  (d:x=indexByte ZB (bt S (p+1+1)).toNat.toUInt8) (e:y=indexByte ZB (bt S (p+1+1+1)).toNat.toUInt8) (g:x<0\/y<0):bI (dr S f)=none:=by
 subst d;subst e;exact a1X q b A I c (by omega) g
theorem a0Q(q:ek S f.toNat p.toNat a)(b:0<=p)(A:p<S.length)(I:bt S p=92)(c:must [120] (dr S (p+1))=some X)(h:S.length<p+1+1+2):bI (dr S f)=none:=a1Y q b A I c (by omega)
theorem ZD(a:0<=p)(A:p<S.length):MW ((S[p.toNat]?).getD 0)=if 48<=bt S p/\bt S p<=57 then bt S p-48 else if 97<=bt S p/\bt S p<=102 then bt S p-87 else -1:=by obtain⟨c,b,e⟩:=cF a A;rw[b,e];exact ZC
theorem a0K{x y:Int}(q:rF S f.toNat p.toNat a)(c:0<=p)(A:p+1+1+2<=S.length)(I:bt S p=92)(W:bt S (p+1)=120)
  (Y:x=if 48<=bt S (p+1+1)/\bt S (p+1+1)<=57 then bt S (p+1+1)-48 else if 97<=bt S (p+1+1)/\bt S (p+1+1)<=102 then bt S (p+1+1)-87 else -1)
  (b:y=if 48<=bt S (p+1+1+1)/\bt S (p+1+1+1)<=57 then bt S (p+1+1+1)-48 else if 97<=bt S (p+1+1+1)/\bt S (p+1+1+1)<=102 then bt S (p+1+1+1)-87 else -1):
  rF S f.toNat (p+1+1+2).toNat (a++[UInt8.ofNat (wu (16*x+y)).toNat]):=by
 rw[<-ZD (by omega) (by omega)]at Y b;have r:=a4N q c (by omega) I W;rw[show p+2=p+1+1 by omega,show p+3=p+1+1+1 by omega,show p+4=p+1+1+2 by omega]at r;rw[Y,b,TQ];exact r
theorem Tc(q:rF S f.toNat p.toNat a)(b:0<=p)(A:p<S.length)(I:bt S p=92)(W:S.length<=p+1):rF S f.toNat (p+1+1).toNat (a++[0]):=by rw[show p+1+1=p+2 by omega];exact a4O q b A I W
theorem Td(q:rF S f.toNat p.toNat a)(b:0<=p)(A:p+1<S.length)(I:bt S p=92)(W:¬bt S (p+1)=120\/¬p+1+1+2<=S.length):rF S f.toNat (p+1+1).toNat (a++[(S[(p+1).toNat]?).getD 0]):=by rw[show p+1+1=p+2 by omega];exact a4P q b A I (by rcases W with h|h;exact .inl h;exact .inr (by omega))
theorem U7(a:0<=p)(A:p<S.length)(I:bt S p=39):(S.take (p+1).toNat).drop p.toNat=[39]:=by obtain⟨c,e,h⟩:=sb1 a A;rw[h,show c=39 from fX.1 (by rw[show(39:UInt8).toNat=39 from rfl];omega)]
theorem a0L(q:rF S f.toNat p.toNat a)(b:0<=p)(A:p<S.length)(I:bt S p=39)(h:plain a=true\/64<a.length\/¬quote a=sb S f (p+1)):bI (dr S f)=none:=
 a4M q b A I λg1 g2 g3=>by
  rcases h with h|h|h
  .rw[h]at g2;cases g2
  .omega
  .exact h g3
theorem NK(q:ek S f.toNat p.toNat a)(b:0<=p)(A:p<S.length)(I:bt S p=39)(h:plain a=true\/64<a.length\/¬quote a=sb S f (p+1)):bI (dr S f)=none:=
 a1Z q b A I λg1 g2 g3=>by
  rcases h with h|h|h
  .rw[h]at g2;cases g2
  .omega
  .exact h g3
theorem lF{α:Type}{l:List α}{i:Int}(h:i=(l.length:Int)):l.take i.toNat=l:=by subst h;simp
theorem a7F{i:Int}(h:a=39::mh (S.take i.toNat)):a.length<=1+4*S.length:=by subst h;have:=EV (S:=S) (i:=i);simp only[bZ];omega
theorem qA{i:Int}(b:a=39::mh (S.take i.toNat))(c:0<=i)(A:i<S.length)(h:bt S i=39\/bt S i=92):a++[92]++[(S[i.toNat]?).getD 0]=39::mh (S.take (i+1).toNat):=by rw[b,TE c A h]<;>rfl
theorem qB{i:Int}(b:a=39::mh (S.take i.toNat))(c:0<=i)(A:i<S.length)(h:bt S i<32\/126<bt S i):a++([92,120]++[ll ((bt S i).toNat/16)]++[ll ((bt S i).toNat%16)])=39::mh (S.take (i+1).toNat):=by rw[b,TD c A h]<;>rfl
theorem qC{i:Int}(b:a=39::mh (S.take i.toNat))(c:0<=i)(A:i<S.length)(h:¬bt S i=39)(I:¬bt S i=92)(W:¬bt S i<32)(D:¬126<bt S i):a++[(S[i.toNat]?).getD 0]=39::mh (S.take (i+1).toNat):=by rw[b,TC c A h I (by omega) (by omega)]<;>rfl
theorem qE{i:Int}(b:a=39::mh (S.take i.toNat))(A:¬i<S.length):a++[39]=quote S:=by rw[b];exact Ti (by omega)
theorem tk1{l:B}{c:UInt8}{i:Int}(h:i=(l.length:Int)):(l++[c]).take (i+1).toNat=l++[c]:=fv (by rw[bL,il];omega)
theorem no2{α:Type}{x:Option α}{y:α}(h:x=none)(a:x=some y):False:=by rw[h]at a;cases a
theorem V3{k v:Int}{w:B}{d:Dt}{u:Tm}(h:rep T u [iv k,iv v,sv w,d]):tD (zE T k v w d)/\dU T [u] 1 (dO (zE T k v w d)):=by obtain⟨e,g,c⟩:=ic h;rw[g];exact⟨qc.mpr trivial,c⟩
theorem fz1{k v:Int}{w:B}{d d0:Dt}{u:Tm}(a:frz T d0 (dO (zE T k v w d)) 1)(b:tD (zE T k v w d))(c:rep T u [iv k,iv v,sv w,d]):gx T [u] d0/\n8 d0/\0<ln d0:=by have q:=a5b c ⟨b,a⟩;have e:=G7 q;exact⟨q,e.1,by rw[e.2];simp⟩
theorem fz2{a b k v:Int}{w x:B}{d y d0:Dt}{u t:Tm}(c:frz T d0 (dO (fs8 T a b x y k v w d)) 2)(e:tD (fs8 T a b x y k v w d))(f:rep T u [iv a,iv b,sv x,y])(g:rep T t [iv k,iv v,sv w,d]):rep T (.mk 9 0 [] [u,t]) [iv 9,iv 0,sv [],d0]:=a5c f g ⟨e,c⟩
theorem Bw{R c:B}{u:Tm}(a:must [91] X=some R)(b:must [93] R=none)(d:PT false R=some (u,c)):uj X=bo false [u] c:=by rw[a1W a b,Iy d]<;>rfl
theorem a1c{R e R2:B}{u:Tm}{l:List Tm}{k v:Int}{w:B}{d:Dt}(a:must [91] X=some R)(b:must [93] R=none)(f:PT false R=some (u,e))(c:must [44] e=some R2)(g:rep T u [iv k,iv v,sv w,d])(h:dU T l 1 (dO (zE T k v w d))):uj X=iL l R2:=by rw[a1W a b,Ta f c,cZ h (V3 g).2]<;>rfl
theorem tk8{k v:Int}{w:B}{d:Dt}{t:Tm}(h:rep T t [iv k,iv v,sv w,d])(Z:k=8):t.k=9\/t.k=8:=.inr (by rw[hi h];exact Z)
theorem tk9{k v:Int}{w:B}{d:Dt}{t:Tm}(h:rep T t [iv k,iv v,sv w,d])(Z:k=9):t.k=9\/t.k=8:=.inl (by rw[hi h];exact Z)
theorem tkN{k v:Int}{w:B}{d:Dt}{t:Tm}(h:rep T t [iv k,iv v,sv w,d])(a:¬k=9)(b:¬k=8):t.k≠9/\t.k≠8:=by rw[hi h];exact⟨a,b⟩
theorem Xf{e:Dt}{m k v:Int}{w:B}{d:Dt}{l:List Tm}{u:Tm}(a:dU T l m e)(h:rep T u [iv k,iv v,sv w,d]):tD (K1 e m k v w d)/\dU T (l++[u]) (m+1) (dO (K1 e m k v w d)):=by obtain⟨e,g,c⟩:=lD a h;rw[g];exact⟨qc.mpr trivial,c⟩
theorem fzA{e:Dt}{m k v:Int}{w:B}{d d0:Dt}{l:List Tm}{u:Tm}(g:frz T d0 (dO (K1 e m k v w d)) (m+1))(f:dU T l m e)(h:rep T u [iv k,iv v,sv w,d]):gx T (l++[u]) d0/\n8 d0/\m<ln d0/\m<(l++[u]).length:=by
 have q:=iB g (Xf f h).2;have a:=G7 q;have b:=dD f;have c:(l++[u]).length=l.length+1:=by simp
 exact⟨q,a.1,by omega,by omega⟩
theorem ex2{p q:Tm->Prop}(t:Tm)(a:q t)(b:p t):∃t,p t/\q t:=⟨t,b,a⟩
theorem mkR{d0:Dt}{l q:List Tm}{t Q:Tm}{i k v:Int}{w:B}{d:Dt}{c:List Dt}(e:gx T q d0)(a:rep T Q [iv k,iv v,sv w,d])(f:gx T l d0)(b:rep T (bJ (l.take (i+1).toNat) t) c)(g:rep T t [iv k,iv v,sv w,d])(h:q.length<=(i+1).toNat):rep T (bJ q Q) c:=by rw[eA f e,fv h,br g a]at b;exact b
theorem mk1{l:List Tm}{t Q:Tm}{k v:Int}{w:B}{d:Dt}{c:List Dt}(a:rep T Q [iv k,iv v,sv w,d])(b:rep T (bJ (l.take (-1+1:Int).toNat) t) c)(e:rep T t [iv k,iv v,sv w,d]):rep T Q c:=by rw[br e a]at b;exact b
theorem a58{x:Int}(a:0<=x)(A:x<256):(aj E (.int .u64 4)).bind (e2 (.bin .shr) (uv x))=some (uv (x/16)):=by obtain⟨n,rfl⟩:=et a;exact dX (λz=>some (Dt.val (Value.int .u8 z))) (show((n:Int).fdiv (2^4))=(n:Int)/16 by rw[Int.fdiv_eq_ediv_of_nonneg _ (by decide)]<;>rfl)
theorem a1L:∀n:Fin 256,wu (BitVec.ofInt 8 (n.val:Int) &&& BitVec.ofInt 8 15).toNat=(n.val:Int)%16:=by decide+kernel
theorem a57{x:Int}(a:0<=x)(A:x<256):e2 (.bin .and) (uv x) (uv 15)=some (uv (x%16)):=by obtain⟨n,rfl⟩:=et a;exact dX (λz=>some (Dt.val (Value.int .u8 z))) (a1L ⟨n,by omega⟩)
theorem XW{i:Int}:(((aj E (.int .u64 4)).bind (e2 (.bin .shr) (uv (bt S i)))).bind λv=>(((aj E (.int .u64 4)).bind (e2 (.bin .shr) (uv (bt S i)))).bind λu=>e2 (.bin .add) u (uv 1)).bind (e3 .sub (sv [48,49,50,51,52,53,54,55,56,57,97,98,99,100,101,102]) v))=some (sv [ll ((bt S i).toNat/16)]):=by have h:=H8 (S:=S) (i:=i);rw[a58 h.1 h.2,aW,aW,Zw (by omega) (by omega),show(bt S i/16).toNat=(bt S i).toNat/16 by omega]
theorem XV{i:Int}:((e2 (.bin .and) (uv (bt S i)) (uv 15)).bind λv=>((e2 (.bin .and) (uv (bt S i)) (uv 15)).bind λu=>e2 (.bin .add) u (uv 1)).bind (e3 .sub (sv [48,49,50,51,52,53,54,55,56,57,97,98,99,100,101,102]) v))=some (sv [ll ((bt S i).toNat%16)]):=by have h:=H8 (S:=S) (i:=i);rw[a57 h.1 h.2,aW,aW,Zw (by omega) (by omega),show(bt S i%16).toNat=(bt S i).toNat%16 by omega]
theorem ow{k v:Int}{w:B}{d:Dt}(h:∃t,(rep T t [iv k,iv v,sv w,d]/\t.wf)/\t.words<=10000):∃t,rep T t [iv k,iv v,sv w,d]/\n8 d/\wf1 k v w t.l.length/\ln d=t.l.length/\(y6 t↔k=9\/ln d<=64):=by
 obtain⟨t,⟨a,b⟩,f⟩:=h;have q:=wS a;have e:=(lH a).1;have I:=b;rw[e]at I;have c:=hi a;refine⟨t,a,q.1,Q3 I,q.2,?_⟩;unfold y6;rw[c];constructor
 .rintro(h|h);exact .inl h;exact .inr (by omega)
 .rintro(h|h);exact .inl h;exact .inr (by omega)
end
def G5(a:B):Nat:=match n7.idxOf? a with|some i=>i+1|none=>0
section
variable{S a b u v:B}{m:Bool}{n:Int}{T:TypeId}
theorem J6(h:cut S [32]=(a,b,m)):lw S=G5 a:=by unfold lw;rw[h]<;>rfl
theorem Pn(h:cut S [32]=(a,b,m)):lr S=b:=by unfold lr;rw[h]
theorem Pp(h:cut S [32]=(a,b,m)):lm S=m:=by unfold lm;rw[h]
theorem aO{X:B}(h:cut S X=(a,b,m)):a.length<=S.length/\b.length<=S.length:=by
 unfold cut at h;split at h
 .injection h with A h;injection h with I h;subst A;subst I;simp only[cG,eT];omega
 .injection h with A h;injection h with I h;subst A;subst I;exact⟨aX _,j0 _⟩
theorem nt1(h:cut u [32]=(a,b,false)):uz u:=.inl (by rw[h])
theorem nt2(h:cut u [32]=(a,b,m))(I:qe a=none):uz u:=.inr (.inl (by rw[h];exact I))
theorem nt3(h:cut u [32]=(a,b,m))(I:rd b=none):uz u:=.inr (.inr (by rw[h];exact I))
theorem pb(e:¬4000<(S.length:Int))(c:cut S [32]=(a,b,m))(d:G5 a≠0)(h:m=false\/(G5 a=1/\da b b.length)\/((G5 a=3\/G5 a=4)/\uz b)\/(G5 a≠1/\G5 a≠3/\G5 a≠4/\qe b=none)):
  S.length<=4000/\lw S≠0/\(lm S=false\/(lw S=1/\da (lr S) (lr S).length)\/((lw S=3\/lw S=4)/\uz (lr S))\/(lw S≠1/\lw S≠3/\lw S≠4/\qe (lr S)=none)):=by
 rw[J6 c,Pn c,Pp c];exact⟨by omega,d,h⟩
theorem pn(f:¬4000<(S.length:Int))(d:cut S [32]=(a,b,true)){k:Int}(c:G5 a=k.toNat/\k=G5 a/\G5 a≠0/\G5 a≠1/\G5 a≠3/\G5 a≠4)(e:qe b=some n):
  S.length<=4000/\lw S=k.toNat/\k=lw S/\lw S≠0/\lw S≠1/\lw S≠3/\lw S≠4/\lm S=true/\qe (lr S)=some n:=by
 rw[J6 d,Pn d,Pp d];exact⟨by omega,c.1,c.2.1,c.2.2.1,c.2.2.2.1,c.2.2.2.2.1,c.2.2.2.2.2,rfl,e⟩
theorem ps{d:Dt}{s:B}(f:¬4000<(S.length:Int))(c:cut S [32]=(a,b,true))(e:G5 a=1)(h:∃l,gx T l d/\jZ b s l):S.length<=4000/\lw S=1/\lm S=true/\∃l,gx T l d/\jZ (lr S) s l:=by rw[J6 c,Pn c,Pp c];exact⟨by omega,e,rfl,h⟩
theorem pt{c:List Dt}(i:¬4000<(S.length:Int))(d:cut S [32]=(a,b,true)){k:Int}(f:k=G5 a/\(G5 a=3\/G5 a=4))(e:cut b [32]=(u,v,true))(g:qe u=some n)(h:∃t,rep T t c/\rd v=some t):
  S.length<=4000/\k=lw S/\(lw S=3\/lw S=4)/\lm S=true/\(cut (lr S) [32]).2.2=true/\qe (cut (lr S) [32]).1=some n/\∃t,rep T t c/\rd (cut (lr S) [32]).2.1=some t:=by
 rw[J6 d,Pn d,Pp d,e];exact⟨by omega,f.1,f.2,rfl,rfl,g,h⟩
theorem lw0(h:a ∉ n7)(d:¬4000<(S.length:Int))(c:cut S [32]=(a,b,m)):S.length<=4000/\lw S=0:=by refine⟨by omega,?_⟩;rw[J6 c];unfold G5;rw[List.idxOf?_eq_none_iff.2 h]
theorem py(h:u=S)(I:u=itoa n)(W:n<=1073741824)(D:0<=n):qe S=some n:=wF.2 ⟨D,W,by rw[<-I,h]⟩
theorem pN{n:Int}(h:atoiAll S=.ok n)(I:0<=n->n<=1073741824->itoa n=S->False):qe S=none:=by
 cases e:qe S with
 |none=>rfl
 |some k=>
  obtain⟨a,b,c⟩:=wF.1 e;rw[mN]at b;have:=sJ (n:=k) (by omega) (by omega);rw[c,h]at this;injection this with this;subst this
  exact(I a b c).elim
theorem pN1(h:atoiAll S=.ok n)(I:u=itoa n)(W:¬u=S):qe S=none:=pN h λ_ _ e=>W (I.trans e)
theorem pN2(h:atoiAll S=.ok n)(I:¬n<=1073741824):qe S=none:=pN h λ_ b _=>I b
theorem pN3(h:atoiAll S=.ok n)(I:¬0<=n):qe S=none:=pN h λb _ _=>I b
theorem pN4(h:∀n:Int,atoiAll S≠.ok n):qe S=none:=by
 cases e:qe S with
 |none=>rfl
 |some k=>obtain⟨a,b,c⟩:=wF.1 e;rw[mN]at b;exact(h k (by rw[<-c];exact sJ (by omega) (by omega))).elim
end
def CA(b:Nat):Option Dt->Option Dt->Option Dt->Prop
 |some (.ls _ J),some (.val (.int .i64 n)),some (.val (.string s))=>¬(0<=n/\n.toNat<=J.length/\(n.toNat+s.size)*b<=68719476736/\n.toNat+s.size<=68719476736)
 |_,_,_=>False
def Uk:Option Dt->Prop
 |some (.val (.int _ n))=>¬0<n
 |_=>False
def IM:Option Dt->Option Dt->Prop
 |some (.ls _ J),some (.val (.int .i64 n))=>¬(0<n/\n.toNat<=J.length/\n<=1099511627776)
 |_,_=>False
section
variable{E:G}{nm:String}{x y z:SE}{b:Nat}
theorem HJ:Fact.holds E (.rel nm false Mf [x])=Uk (aj E x):=by
 apply propext;constructor
 .rintro⟨l,h,k,n,rfl,a⟩;simp only[bR,dJ]at h;obtain⟨d0,c,g0,h,e⟩:=h;injection e with b e;subst b;subst e
  rw[g0];exact a
 .intro h;unfold Uk at h;split at h
  .rename_i g0;exact⟨_,bR.2 ⟨_,_,g0,dJ.2 rfl,rfl⟩,_,_,rfl,h⟩
  .exact h.elim
theorem HI:Fact.holds E (.rel nm false UZ [x,y])=IM (aj E x) (aj E y):=by
 apply propext;constructor
 .rintro⟨l,h,P,J,n,rfl,a⟩;simp only[bR,dJ]at h;obtain⟨d0,d,g0,h,e⟩:=h;injection e with b e;subst b;subst e
  obtain⟨d1,f,g1,h,e⟩:=h;injection e with c e;subst c;subst e
  rw[g0,g1];exact a
 .intro h;unfold IM at h;split at h
  .rename_i g0 g1;exact⟨_,bR.2 ⟨_,_,g0,bR.2 ⟨_,_,g1,dJ.2 rfl,rfl⟩,rfl⟩,_,_,_,rfl,h⟩
  .exact h.elim
theorem AG:Fact.holds E (.rel nm false (GF b) [x,y,z])=CA b (aj E x) (aj E y) (aj E z):=by
 apply propext;constructor
 .rintro⟨l,h,P,J,n,s,rfl,a⟩;simp only[bR,dJ]at h;obtain⟨d0,g,g0,h,e⟩:=h;injection e with c e;subst c;subst e
  obtain⟨d1,i,g1,h,e⟩:=h;injection e with d e;subst d;subst e
  obtain⟨d2,r2,g2,h,e⟩:=h;injection e with f e;subst f;subst e
  rw[g0,g1,g2];exact a
 .intro h;unfold CA at h;split at h
  .rename_i g0 g1 g2;exact⟨_,bR.2 ⟨_,_,g0,bR.2 ⟨_,_,g1,bR.2 ⟨_,_,g2,dJ.2 rfl,rfl⟩,rfl⟩,rfl⟩,_,_,_,_,rfl,h⟩
  .exact h.elim
theorem Aj{k:IntKind}{n:Int}:Uk (some (.val (.int k n)))=¬0<n:=rfl
theorem rX{l:B}{n:Int}:IM (some (bd l)) (some (iv n))=¬(0<n/\n<=l.length/\n<=1099511627776):=by apply propext;show¬_↔¬_;rw[gM];omega
theorem rj{l s:B}{n:Int}:CA 1 (some (bd l)) (some (iv n)) (some (sv s))=¬(0<=n/\n<=l.length/\n+s.length<=68719476736):=by apply propext;show¬_↔¬_;rw[gM,show ByteArray.size (ByteArray.mk s.toArray)=s.length from rfl];omega
theorem xa{l s:B}{n:Int}{c:Prop}:CA 1 (some (bd l)) (some (iv n)) (mz c (some (sv s)))=(c/\¬(0<=n/\n<=l.length/\n+s.length<=68719476736)):=by
 by_cases h:c
 .rw[od h,rj];simp[h]
 .simp[mz,h,CA]
theorem Ai{l:B}{n:Int}{c:Prop}:IM (mz c (some (bd l))) (some (iv n))=(c/\¬(0<n/\n<=l.length/\n<=1099511627776)):=by
 by_cases h:c
 .rw[od h,rX];simp[h]
 .simp[mz,h,IM]
end
end Go.Proofs.YtokipodjggomfaaGreatDoor.Txt
namespace Go.Proofs.YtokipodjggomfaaGreatDoor.Txt
open Go Go.Proofs.YtokipodjggomfaaGreatDoor.Abs Go.Lib
section
variable{K:TypeId->List Kd}{T U:TypeId}{S a b:B}{l m:List Tm}{d d':Dt}{N:Nat}{t u:Tm}
def alA(K:TypeId->List Kd)(T:TypeId)(N:Nat)(a b:Dt):Prop:=pZ K T N [a,b]
theorem QS:pZ K T N=pS [.d,.d] (alA K T N):=by
 funext l;apply propext;constructor
 .intro h;have c:=h;obtain⟨a1,a2,k,c1,c2,e,z2,s1,s2,rfl, -⟩:=c;exact⟨_,_,rfl,_,_,rfl,rfl,h⟩
 .rintro⟨a,_,rfl,b,_,rfl,rfl,h⟩;exact h
def a8v(K:TypeId->List Kd)(U:TypeId)(N:Nat)(s:B):Prop:=JM K [U] N [sv s]
theorem AW(b:K U=[.str]):JM K [U] N=pS [.s] (a8v K U N):=by
 funext l;apply propext;constructor
 .intro h;have c:=h;obtain⟨⟨x,y,rfl,Y,a,rfl⟩, -⟩:=c;rw[b]at Y a
  match x,Y with
  | [e],_=>obtain⟨k,Z,d⟩:=a.1;obtain rfl:=ae Z;obtain⟨s,rfl⟩:=d;exact⟨s.data.toList,_,rfl,rfl,h⟩
 .rintro⟨s,_,rfl,rfl,h⟩;exact h
theorem IY(a:K T=kT T){x:Option Addr}{c:Nat}{J:List Dt}(d:x=none->l.length=0/\c=0)(h:eF T l J):oA K T x l.length 4 J:=by
 refine⟨by rw[a];exact jb h,by rw[a];exact F9 a 0 h,λe=>⟨by rw[a]<;>rfl,?_⟩⟩;cases x with
 |none=>exact absurd (d rfl).1 e
 |some b=>exact⟨b,rfl⟩
theorem a7h(e:K T=kT T)(h:gx T l d)(f:gx T l d')(g:4*sizes l<N):alA K T N d d':=by obtain⟨x,c,J,rfl,A,I⟩:=h;obtain⟨i,c',j7,rfl,b,a⟩:=f;exact⟨x,i,l.length,c,c',4,4,J,j7,rfl,IY e A I,IY e b a,uk I a,by rw[BC I];exact g⟩
theorem a7r(h:jZ S a l):4*sizes l<=8*S.length:=by
 obtain⟨p, -, -, -,h⟩:=h;have A:=(Oz h).2;rw[oI]at A;have:=qv l;have I:(S.drop (p+1)).length<=S.length:=by rw[eT];omega
 omega
theorem a7D(h:rd S=some t):4*sizes t.l<=8*S.length:=by have A:=(Oz h).2;have:=gv t;have:=a2t (t:=t);omega
theorem Vx:(lr S).length<=S.length:=(aO (S:=S) (X:=[32]) (a:=(cut S [32]).1) (b:=(cut S [32]).2.1) (m:=(cut S [32]).2.2) rfl).2
theorem a3D:(cut S [32]).2.1.length<=S.length:=(aO (S:=S) (X:=[32]) (a:=(cut S [32]).1) (b:=(cut S [32]).2.1) (m:=(cut S [32]).2.2) rfl).2
theorem a7g(g:K T=kT T)(j:S.length<=4000)(h:gx T l d)(f:jZ (lr S) a l)(i:gx T m d')(c:jZ (lr S) b m):alA K T 1073741824 d d':=by have e:=(Bl f c).2;subst e;have:=a7r f;have:=Vx (S:=S);exact a7h g h i (by omega)
theorem a7f(c:K T=kT T)(g:S.length<=4000){k n k' e:Int}{w M:B}(h:rep T t [iv k,iv n,sv w,d])(b:rd (cut (lr S) [32]).2.1=some t)(f:rep T u [iv k',iv e,sv M,d'])(a:rd (cut (lr S) [32]).2.1=some u):alA K T 1073741824 d d':=by rw[b]at a;obtain rfl:=ae a;have:=a7D b;have:=Vx (S:=S);have:=a3D (S:=lr S);exact a7h c (nR h) (nR f) (by omega)
theorem X1{k n k' g:Int}{w M:B}(h:rep T t [iv k,iv n,sv w,d])(j:rd (cut (lr S) [32]).2.1=some t)(l:rep T u [iv k',iv g,sv M,d'])(f:rd (cut (lr S) [32]).2.1=some u):k=k'/\n=g/\w=M:=by
 rw[j]at f;obtain rfl:=ae f;have e:=(lH h).1;have i:=(lH l).1;rw[e]at i;injection i with a b c _
 exact⟨a,b,c⟩
theorem Yd(d:jZ S a l)(c:jZ S b m):a=b:=(Bl d c).1
theorem a7J(h:uz S)(A:(cut S [32]).2.2=true){n:Int}(I:qe (cut S [32]).1=some n)(W:rd (cut S [32]).2.1=some t):False:=by
 rcases h with h|h|h
 .rw[A]at h;cases h
 .rw[I]at h;cases h
 .rw[W]at h;cases h
end
end Go.Proofs.YtokipodjggomfaaGreatDoor.Txt
