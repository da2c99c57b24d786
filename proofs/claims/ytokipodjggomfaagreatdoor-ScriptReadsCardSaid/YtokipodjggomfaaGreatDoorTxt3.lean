/- Part 3 of the plain laws of the texts of the statement. Conditions: those of each theorem. -/
import Derived.Test.YtokipodjggomfaaGreatDoorTxt2
import Derived.Lib.AtoiAllCases
import Derived.Lib.ItoaMem
import Derived.Lib.ItoaLen
noncomputable section
set_option linter.unusedVariables false
set_option linter.unusedSimpArgs false
namespace Go.Proofs.YtokipodjggomfaaGreatDoor.Txt
open Go.Proofs.YtokipodjggomfaaGreatDoor.Abs Go.Lib
def ZA:Option Dt->Option Dt->Prop
 |some (.val (.int _ n)),some (.val (.int .i64 m))=>¬(0<=n/\n<m)
 |_,_=>False
def a7Z:Option Dt->Option Dt->Option Dt->Prop
 |some (.val (.int _ n)),some (.val (.int _ m)),some (.val (.int .i64 q))=>¬(0<=n/\n<=m/\m<=q)
 |_,_,_=>False
def UH(g:Nat)(e:Dt)(n:Int):Prop:=∃P J,e=.ls P J/\¬(0<=n/\n.toNat*g+g<=J.length)
def a0x(g:Nat):Option Dt->Option Dt->Prop
 |some e,some (.val (.int _ n))=>UH g e n
 |_,_=>False
def Hr(g bytes a:Nat)(e:Dt)(n:Int):Prop:=∃P J,e=.ls P J/\¬(0<=n/\n.toNat*g<=J.length/\(n.toNat+a)*bytes<=68719476736/\n.toNat+a<=68719476736)
def a0A(g bytes a:Nat):Option Dt->Option Dt->Prop
 |some e,some (.val (.int .i64 n))=>Hr g bytes a e n
 |_,_=>False
section
variable{E:G}{x y z:SE}{nm:String}{k q:IntKind}{n m r:Int}{g b c:Nat}{e:Dt}{l:B}
theorem pZ:ZA (some (.val (.int k n))) (some (iv m))=¬(0<=n/\n<m):=rfl
theorem sH:a7Z (some (.val (.int k n))) (some (.val (.int q m))) (some (iv r))=¬(0<=n/\n<=m/\m<=r):=rfl
theorem nr:a0x g (some e) (some (.val (.int k n)))=UH g e n:=rfl
theorem nu:a0A g b c (some e) (some (iv n))=Hr g b c e n:=rfl
theorem yI:Fact.holds E (.rel nm false LM [x,y])=ZA (ax E x) (ax E y):=by
 apply propext;constructor
 .rintro⟨l,h,k,n,m,rfl,a⟩;simp only[cP,eW]at h;obtain⟨d0,d,g0,h,e⟩:=h;injection e with b e;subst b;subst e
  obtain⟨d1,f,g1,h,e⟩:=h;injection e with c e;subst c;subst e
  rw[g0,g1];exact a
 .intro h;unfold ZA at h;split at h
  .rename_i g0 g1;exact⟨_,cP.2 ⟨_,_,g0,cP.2 ⟨_,_,g1,eW.2 rfl,rfl⟩,rfl⟩,_,_,_,rfl,h⟩
  .exact h.elim
theorem yP:Fact.holds E (.rel nm false v7 [x,y,z])=a7Z (ax E x) (ax E y) (ax E z):=by
 apply propext;constructor
 .rintro⟨l,h,k,n,k',m,q,rfl,a⟩;simp only[cP,eW]at h;obtain⟨d0,f,g0,h,e⟩:=h;injection e with b e;subst b;subst e
  obtain⟨d1,g,g1,h,e⟩:=h;injection e with c e;subst c;subst e
  obtain⟨d2,r2,g2,h,e⟩:=h;injection e with d e;subst d;subst e
  rw[g0,g1,g2];exact a
 .intro h;unfold a7Z at h;split at h
  .rename_i g0 g1 g2;exact⟨_,cP.2 ⟨_,_,g0,cP.2 ⟨_,_,g1,cP.2 ⟨_,_,g2,eW.2 rfl,rfl⟩,rfl⟩,rfl⟩,_,_,_,_,_,rfl,h⟩
  .exact h.elim
theorem sD:Fact.holds E (.rel nm false (GJ g) [x,y])=a0x g (ax E x) (ax E y):=by
 apply propext;constructor
 .rintro⟨l,h,P,J,k,n,rfl,a⟩;simp only[cP,eW]at h;obtain⟨d0,d,g0,h,e⟩:=h;injection e with b e;subst b;subst e
  obtain⟨d1,f,g1,h,e⟩:=h;injection e with c e;subst c;subst e
  rw[g0,g1];exact⟨P,J,rfl,a⟩
 .intro h;unfold a0x at h;split at h
  .rename_i g0 g1;obtain⟨P,J,rfl,a⟩:=h;exact⟨_,cP.2 ⟨_,_,g0,cP.2 ⟨_,_,g1,eW.2 rfl,rfl⟩,rfl⟩,_,_,_,_,rfl,a⟩
  .exact h.elim
theorem sE:Fact.holds E (.rel nm false (OG g b c) [x,y])=a0A g b c (ax E x) (ax E y):=by
 apply propext;constructor
 .rintro⟨l,h,P,J,n,rfl,a⟩;simp only[cP,eW]at h;obtain⟨d0,i,g0,h,e⟩:=h;injection e with d e;subst d;subst e
  obtain⟨d1,j,g1,h,e⟩:=h;injection e with f e;subst f;subst e
  rw[g0,g1];exact⟨P,J,rfl,a⟩
 .intro h;unfold a0A at h;split at h
  .rename_i g0 g1;obtain⟨P,J,rfl,a⟩:=h;exact⟨_,cP.2 ⟨_,_,g0,cP.2 ⟨_,_,g1,eW.2 rfl,rfl⟩,rfl⟩,_,_,_,rfl,a⟩
  .exact h.elim
def vG(g:Nat)(e:Dt)(n:Int):Prop:=∃P J,e=.ls P J/\¬(0<=n/\n.toNat*g<=J.length)
def F9(g:Nat):Option Dt->Option Dt->Prop
 |some e,some (.val (.int .i64 n))=>vG g e n
 |_,_=>False
theorem jN:F9 g (some e) (some (iv n))=vG g e n:=rfl
theorem ny:Fact.holds E (.rel nm false (LL g) [x,y])=F9 g (ax E x) (ax E y):=by
 apply propext;constructor
 .rintro⟨l,h,P,J,n,rfl,a⟩;simp only[cP,eW]at h;obtain⟨d0,d,g0,h,e⟩:=h;injection e with b e;subst b;subst e
  obtain⟨d1,f,g1,h,e⟩:=h;injection e with c e;subst c;subst e
  rw[g0,g1];exact⟨P,J,rfl,a⟩
 .intro h;unfold F9 at h;split at h
  .rename_i g0 g1;obtain⟨P,J,rfl,a⟩:=h;exact⟨_,cP.2 ⟨_,_,g0,cP.2 ⟨_,_,g1,eW.2 rfl,rfl⟩,rfl⟩,_,_,_,rfl,a⟩
  .exact h.elim
theorem jf:∀l:B,(fw l).length=l.length:=λl=>by simp[fw]
theorem sq:UH 1 (bd l) n=¬(0<=n/\n<l.length):=by
 apply propext;constructor
 .rintro⟨P,J,e,h⟩;injection e with _ e;subst e;rw[jf]at h;intro Y;apply h;omega
 .intro h;refine⟨_,_,rfl,?_⟩;rw[jf];intro Y;apply h;omega
theorem su:Hr 1 1 c (bd l) n=¬(0<=n/\n<=l.length/\n+c<=68719476736):=by
 apply propext;constructor
 .rintro⟨P,J,e,h⟩;injection e with _ e;subst e;rw[jf]at h;intro Y;apply h;omega
 .intro h;refine⟨_,_,rfl,?_⟩;rw[jf];intro Y;apply h;omega
theorem nj:vG 1 (bd l) n=¬(0<=n/\n<=l.length):=by
 apply propext;constructor
 .rintro⟨P,J,e,h⟩;injection e with _ e;subst e;rw[jf]at h;intro Y;apply h;omega
 .intro h;refine⟨_,_,rfl,?_⟩;rw[jf];intro Y;apply h;omega
theorem gA{T:TypeId}{l:List Tm}(a:ff T l m e):¬vG 4 e m:=by rintro⟨P,J,rfl,h⟩;obtain⟨lS,e1,rfl,b⟩:=a;injection e1 with _ e1;subst e1;have:=lj b;apply h;omega
theorem mq{T:TypeId}{l:List Tm}(a:ff T l m e)(c:0<=n)(I:n<m):¬UH 4 e n:=by rintro⟨P,J,rfl,h⟩;obtain⟨lS,e1,rfl,b⟩:=a;injection e1 with _ e1;subst e1;have:=lj b;apply h;omega
theorem ke{T:TypeId}{l:List Tm}(a:ff T l m e)(I:m<=100000):¬Hr 4 56 1 e m:=by rintro⟨P,J,rfl,h⟩;obtain⟨lS,e1,rfl,b⟩:=a;injection e1 with _ e1;subst e1;have:=lj b;apply h;omega
end
theorem a6N{α:Type}{l:List α}:l.take ((l.length:Nat):Int).toNat=l:=by simp
theorem nB{α:Type}{l:List α}:l.drop (0:Int).toNat=l:=rfl
theorem yy{n:Nat}:((n:Nat):Int).toNat=n:=rfl
theorem zM{n:Int}:iO (some (uv n))=n:=rfl
theorem zL{n:Int}:iO (some (iv n))=n:=rfl
theorem ln1{a:UInt8}:((([a]:B).length:Nat):Int)=1:=rfl
theorem ln3{a b c:UInt8}:((([a,b,c]:B).length:Nat):Int)=3:=rfl
theorem ln5{a b c d e:UInt8}:((([a,b,c,d,e]:B).length:Nat):Int)=5:=rfl
theorem ln0:((([]:B).length:Nat):Int)=0:=rfl
theorem sj{c:Prop}[Decidable c]:(Dt.val (.bool (decide c))=.val (.bool true))=c:=by simp
theorem si{c:Prop}[Decidable c]:(Dt.val (.bool (decide c))=.val (.bool false))=¬c:=by simp
theorem sh{c:Prop}[Decidable c]:(Dt.val (.bool (!decide c))=.val (.bool true))=¬c:=by simp
theorem sf{c:Prop}[Decidable c]:(Dt.val (.bool (!decide c))=.val (.bool false))=c:=by simp
section
variable{S X:B}{p f lo V n:Int}
theorem a2b(b:jy S f.toNat p.toNat)(c:0<=p)(d:noD S p)(h:∀n,atoiAll (sb S f p)≠.ok n):eE lo V (dr S f)=none:=XK b c d λn a _ _ _=>h n a
theorem a2a(e:jy S f.toNat p.toNat)(g:0<=p)(i:noD S p)(j:atoiAll (sb S f p)=.ok n)(h:itoa n≠sb S f p\/n<lo\/V<n):eE lo V (dr S f)=none:=XK e g i λm a b c d=>by
 rw[j]at a;injection a with a;subst a
 rcases h with h|h|h
 .exact h b
 .omega
 .omega
end
section
variable{E:G}{n i:Int}{l S:B}{d:Dt}{c c':Prop}{p:Int}
theorem Aa:ax E (.int .i64 n)=some (iv n):=rfl
theorem zZ:ax E (.int .u8 n)=some (uv n):=rfl
theorem IV:e1 (.nl [.int .u8]) d=some (bd []):=rfl
theorem IU{T:TypeId}:e1 (.nl [.int .i64,.int .i64,.str,.sl T]) d=some (.ls (kT T) []):=rfl
theorem IQ{T:TypeId}{g:Nat}:e1 (.ns T g) d=some (.sl (.slice none 0 0) T g []):=rfl
theorem nx{α:Type}{o:Option α}:qJ c (qJ c' o)=qJ (c/\c') o:=by by_cases h:c<;>by_cases Y:c'<;>simp[qJ,h,Y]
theorem Ip:e2 (.at 1 0) (bd l) (iv i)=qJ (0<=i/\i<l.length) (some (uv (bt l i))):=by
 cases i with
 |ofNat n=>
  have h:e2 (.at 1 0) (bd l) (iv (Int.ofNat n))=(l[n]?).map λb=>.val (.int .u8 b.toNat):=aaG (k:=.i64)
  rw[h];by_cases a:n<l.length
  .rw[oK ⟨od n,by show(n:Int)<_;omega⟩,dV a];unfold bt;rw[show(Int.ofNat n).toNat=n from rfl,dV a]<;>rfl
  .rw[List.getElem?_eq_none (by omega)];unfold qJ;rw[av]
   .rfl
   .rintro⟨-,Y⟩;have:(n:Int)<l.length:=Y;omega
 |negSucc n=>
  unfold qJ;rw[av]
  .rfl
  .rintro⟨I, -⟩;exact absurd I (by omega)
theorem n9(a:0<=p-1)(I:p-1<S.length):fS S (p-1).toNat p.toNat []:=by
 have:=a9r a I
 rwa [show p-1+1=p by omega]at this
theorem E3:quote []=[39,39]:=rfl
theorem a4O{X:B}(h:atoiAll X=.ok n): -9223372036854775808<=n/\n<=9223372036854775807:=atoiAll_bounds h
end
section
variable{a b c d e:UInt8}{l:B}
theorem nl1:([a]:B).length=1:=rfl
theorem nl3:([a,b,c]:B).length=3:=rfl
theorem nl4:([a,b,c,d]:B).length=4:=rfl
theorem nl5:([a,b,c,d,e]:B).length=5:=rfl
theorem rG:e2 .sn (bd l) (uv 39)=some (bd (l++[39])):=x8 (by decide)
theorem rF:e2 .sn (bd l) (uv 92)=some (bd (l++[92])):=x8 (by decide)
theorem ya:e2 .sn (bd l) (uv 0)=some (bd (l++[0])):=x8 (by decide)
theorem nA:qs []=[]:=rfl
end
section
variable{T:TypeId}{bH:Bool}{X R R' w:B}{n k:Int}{d:Dt}
theorem zp{k n:Int}{w:B}:en T (.mk k n w []) [iv k,iv n,sv w,.sl (.slice none 0 0) T 4 []]:=rK ⟨none,0,[],rfl,λ_=>⟨rfl,rfl⟩,by unfold gr;rfl⟩
variable(I:must [123] X=none)(Y:must [91] X=none)(W:must [39] X=none)(U:must rI X=none)(h5:must uq X=none)(h6:must zk X=none)(h7:must pH X=none)
include I Y W
include U
include h5
include h6 h7
end
theorem mN:bF=1073741824:=rfl
theorem mI:dX= -576460752303423488:=rfl
theorem mA:fc=576460752303423487:=rfl
theorem R8:rI=[35,82,101,102,60]:=rfl
theorem R7:uq=[35,84,105,100,60]:=rfl
theorem R9:zk=[60,48,46]:=rfl
theorem He:JC=[46,48,62]:=rfl
theorem EB:pH=[35,70,117,110,60]:=rfl
theorem x1:eg=[32,97,102,116,101,114,32,97,110,100,32,97,110,100,97,108,115,111,32,98,101,103,105,110,32,99,97,115,101,32,99,97,116,99,104,32,100,105,118,32,101,110,100,32,102,117,110,32,110,111,116,32,111,102,32,111,114,32,111,114,101,108,115,101,32,114,101,99,101,105,118,101,32,114,101,109,32,116,114,121,32,119,104,101,110,32]:=by decide
theorem a6E:eg.length<4294967281:=by decide
theorem RO{S:B}(h:¬S=[]):0<S.length:=List.length_pos_iff.2 h
section
variable{T:TypeId}{k v a b:Int}{w l:B}{d:Dt}{t:Tm}
def EC(T:TypeId)(k v:Int)(w:B)(d:Dt):Option Dt:=((((e2 .sn (.ls (kT T) []) (iv k)).bind λu=>e2 .sn u (iv v)).bind λu=>e2 .sn u (sv w)).bind λu=>e2 .sn u d)
theorem yN:((((e2 .sn (.ls (kT T) []) (iv k)).bind λu=>e2 .sn u (iv v)).bind λu=>e2 .sn u (sv w)).bind λu=>e2 .sn u d)=EC T k v w d:=rfl
theorem kc(h:en T t [iv k,iv v,sv w,d]):∃a,EC T k v w d=some a/\ff T [t] 1 a:=a5n h
end
theorem c1:((1:Nat):Int)=1:=rfl
theorem c2:((2:Nat):Int)=2:=rfl
theorem c3:((3:Nat):Int)=3:=rfl
theorem c4:((4:Nat):Int)=4:=rfl
theorem c5:((5:Nat):Int)=5:=rfl
theorem cm{bH:Bool}{S:B}{p p':Int}{t:Tm}(h:PT bH (dr S p)=some (t,dr S p'))(a:0<=p)(I:p'<S.length+1):p<p':=by have:=a9f h;rw[eV,eV]at this;omega
theorem wc{S:B}{p p' lo V n:Int}(h:eE lo V (dr S p)=some (n,dr S p'))(a:0<=p)(I:p'<S.length+1):p<p':=a3p h a (by omega)
theorem Fc{l:List Tm}:ml true l=decide (l.length<=64):=by simp[ml]
theorem eN{T:TypeId}{l:List Tm}{m:Int}{e:Dt}(h:ff T l m e):m=l.length:=by obtain⟨J, -,h, -⟩:=h;exact h
theorem Nr{E:G}{nm:String}{a b c d:SE}:Fact.holds E (.rel nm false iy [a,b,c,d])=(tS (ax E a)/\tI (ax E b)/\tS (ax E c)/\tI (ax E d)/\iO (ax E d)=iO (ax E b)+(sO (ax E c)).length/\Q1 (must (sO (ax E c)) (dr (sO (ax E a)) (iO (ax E b)))=some (dr (sO (ax E a)) (iO (ax E d))))):=by unfold iy;rw[h_S]<;>rfl
section
variable{X R e:B}{ts:List Tm}{n:Int}
theorem a6C(h:must [44] X=none)(Y:must e X=some R)(a:ts.length<=64):cT true ts e X=some (ts,R):=a5r h Y (by rw[Fc];exact decide_eq_true a)
theorem a2g(h:must [44] X=none)(Y:must e X=some R)(a:64<ts.length):cT true ts e X=none:=a6D h Y (by rw[Fc];exact qN (by omega))
theorem KC(h:must [44] X=none)(Y:must [62] X=some R)(a:ts.length<=64):eT true n ts X=some (.mk 5 n [] ts,R):=a5m h Y (by rw[Fc];exact decide_eq_true a)
theorem a2f(h:must [44] X=none)(Y:must [62] X=some R)(a:64<ts.length):eT true n ts X=none:=a6x h Y (by rw[Fc];exact qN (by omega))
end
section
variable{T:TypeId}{t u:Tm}{k v:Int}{w:B}{d:Dt}
theorem jA(h:en T t [iv k,iv v,sv w,d]):t.k=k:=by rw[(pI h).1]<;>rfl
theorem b8(h:en T t [iv k,iv v,sv w,d])(h':en T u [iv k,iv v,sv w,d]):t=u:=TQ h h'
theorem h3:en T uI [iv 8,iv 0,sv [],.sl (.slice none 0 0) T 4 []]:=zp
end
section
variable{T:TypeId}{l O:List Tm}{t u:Tm}{e d d0:Dt}{m m' i k v n:Int}{w:B}
theorem Yn(h:ff T l m e):List.take m.toNat l=l:=by rw[eN h];simp
def at8(T:TypeId)(e:Dt)(i k v:Int)(w:B)(d:Dt):Option Dt:=((((((((e2 (.at 4 0) e (iv i)).bind (e2 .sn (.ls (kT T) []))).bind λu=>(e2 (.at 4 1) e (iv i)).bind (e2 .sn u)).bind λu=>(e2 (.at 4 2) e (iv i)).bind (e2 .sn u)).bind λu=>(e2 (.at 4 3) e (iv i)).bind (e2 .sn u)).bind λu=>e2 .sn u (iv k)).bind λu=>e2 .sn u (iv v)).bind λu=>e2 .sn u (sv w)).bind λu=>e2 .sn u d
theorem yQ:((((((((e2 (.at 4 0) e (iv i)).bind (e2 .sn (.ls (kT T) []))).bind λu=>(e2 (.at 4 1) e (iv i)).bind (e2 .sn u)).bind λu=>(e2 (.at 4 2) e (iv i)).bind (e2 .sn u)).bind λu=>(e2 (.at 4 3) e (iv i)).bind (e2 .sn u)).bind λu=>e2 .sn u (iv k)).bind λu=>e2 .sn u (iv v)).bind λu=>e2 .sn u (sv w)).bind (λu=>e2 .sn u d)=at8 T e i k v w d:=rfl
def ld8(T:TypeId)(e:Dt)(i k v:Int)(w:B)(d:Dt):Option Dt:=((((((((gT e i 0).bind (e2 .sn (.ls (kT T) []))).bind λu=>(gT e i 1).bind (e2 .sn u)).bind λu=>(gT e i 2).bind (e2 .sn u)).bind λu=>(gT e i 3).bind (e2 .sn u)).bind λu=>e2 .sn u (iv k)).bind λu=>e2 .sn u (iv v)).bind λu=>e2 .sn u (sv w)).bind λu=>e2 .sn u d
theorem yL:((((((((gT e i 0).bind (e2 .sn (.ls (kT T) []))).bind λu=>(gT e i 1).bind (e2 .sn u)).bind λu=>(gT e i 2).bind (e2 .sn u)).bind λu=>(gT e i 3).bind (e2 .sn u)).bind λu=>e2 .sn u (iv k)).bind λu=>e2 .sn u (iv v)).bind λu=>e2 .sn u (sv w)).bind (λu=>e2 .sn u d)=ld8 T e i k v w d:=rfl
theorem a6K{a b:Int}{x:B}{y:Dt}(c:en T u [iv a,iv b,sv x,y])(e:en T t [iv k,iv v,sv w,d]):
  ∃f,((((((((e2 .sn (.ls (kT T) []) (iv a)).bind λu=>e2 .sn u (iv b)).bind λu=>e2 .sn u (sv x)).bind λu=>e2 .sn u y).bind λu=>e2 .sn u (iv k)).bind λu=>e2 .sn u (iv v)).bind λu=>e2 .sn u (sv w)).bind λu=>e2 .sn u d)=some f/\ff T [u,t] 2 f:=by
 have I:=sn4 (J:=[]) c rfl;have Y:=sn4 (J:=[iv a,iv b,sv x,y]) e (by simp);refine⟨.ls (kT T) ([iv a,iv b,sv x,y]++[iv k,iv v,sv w,d]),?_,_,rfl,rfl,vM (A9 c) (A9 e)⟩;rw[I];simp only[bn];exact Y
theorem a9G(f:ff T l m e)(g:0<=i)(I:i<m)(h:en T t [iv k,iv v,sv w,d]):∃u c,l[i.toNat]? =some u/\at8 T e i k v w d=some c/\ff T [u,t] 2 c:=by obtain⟨u,a,b,x,y,j,g0,g1,g2,g3,n⟩:=acm f g (by have:=eN f;omega);obtain⟨c,Y,W⟩:=a6K n h;refine⟨u,c,j,?_,W⟩;unfold at8;rw[g0,g1,g2,g3];simpa using Y
theorem a9B(f:iu T l e)(g:0<=i)(I:i<l.length)(h:en T t [iv k,iv v,sv w,d]):∃u c,l[i.toNat]? =some u/\ld8 T e i k v w d=some c/\ff T [u,t] 2 c:=by obtain⟨u,a,b,x,y,j,g0,g1,g2,g3,m⟩:=a2e f g I;obtain⟨c,Y,W⟩:=a6K m h;refine⟨u,c,j,?_,W⟩;unfold ld8;rw[g0,g1,g2,g3];simpa using Y
theorem Um{i:Int}(b:0<=i)(a:l[i.toNat]? =some u):cz (List.take (i+1).toNat l) t=cz (List.take i.toNat l) (.mk 9 0 [] [u,t]):=by rw[show(i+1).toNat=i.toNat+1 by omega];exact O6 a
theorem a9y(c:ff T l m e)(a:0<=i)(I:i<m)(f:en T t [iv k,iv v,sv w,d])(b:tD (at8 T e i k v w d)/\Xh T d0 (dO (at8 T e i k v w d)) 2):
  ∃u,en T (.mk 9 0 [] [u,t]) [iv 9,iv 0,sv [],d0]/\cz (List.take (i+1).toNat l) t=cz (List.take i.toNat l) (.mk 9 0 [] [u,t]):=by
 obtain⟨u,g,g1,g2,g3⟩:=a9G c a I f;rw[g2]at b;exact⟨u,rK (kr b.2 g3),Um a g1⟩
theorem a5h(c:iu T l e)(a:0<=i)(I:i<l.length)(f:en T t [iv k,iv v,sv w,d])(b:tD (ld8 T e i k v w d)/\Xh T d0 (dO (ld8 T e i k v w d)) 2):
  ∃u,en T (.mk 9 0 [] [u,t]) [iv 9,iv 0,sv [],d0]/\cz (List.take (i+1).toNat l) t=cz (List.take i.toNat l) (.mk 9 0 [] [u,t]):=by
 obtain⟨u,g,g1,g2,g3⟩:=a9B c a I f;rw[g2]at b;exact⟨u,rK (kr b.2 g3),Um a g1⟩
end
section
variable{S:B}{i k n:Int}{w:B}{d:Dt}{t:Tm}{T:TypeId}
theorem QA(h:ef S i.toNat)(b:0<=i)(I:rd (S.take i.toNat)=some t)(hk:t.k≠2):ef S (i+1).toNat:=S6 h b λnm l a _=>by
 rw[I]at a;injection a with a;subst a;exact hk rfl
theorem Qz(h:ef S i.toNat)(b:0<=i)(I:rd (S.drop (i+1).toNat)=some t)(hk:∀l,t≠cz l uI):ef S (i+1).toNat:=S6 h b λnm l _ a=>by
 rw[I]at a;injection a with a;exact hk l a
theorem Qy(h:ef S i.toNat)(b:0<=i)(I:rd (S.take i.toNat)=none):ef S (i+1).toNat:=S6 h b λnm l a _=>by rw[I]at a;cases a
theorem Qx(h:ef S i.toNat)(b:0<=i)(I:rd (S.drop (i+1).toNat)=none):ef S (i+1).toNat:=S6 h b λnm l _ a=>by rw[I]at a;cases a
theorem Lq{u:B}(h:rd u=some t)(b:en T t [iv 2,iv n,sv w,d]):rd u=some (.mk 2 0 w []):=by
 have a:=(TR h).1;have e:=(pI b).1;rw[e]at a;have I:=Vu a;unfold wf1 at I;have Y:t.l=[]:=ZW a (by omega);rw[h,e,Y];have:n=0:=by omega
 rw[this]
theorem a2W{u:B}(h:rd u=some t)(a:u.length<=4200):t.wf/\t.words<=10000:=by have:=TR h;exact⟨this.1,by omega⟩
theorem E1{S:B}{n:Nat}(h:(S.length:Int)<=4200):(S.take n).length<=4200/\(S.drop n).length<=4200:=by rw[c8,eV];omega
end
section
variable{S X R:B}{p i n k v:Int}{t u:Tm}{l:List Tm}{T:TypeId}{w:B}{d:Dt}{r:B}{m:Nat}
theorem a5l(a:0<=p)(h:List.drop p.toNat (List.take (p+X.length).toNat S)=X):must X (dr S p)=some (dr S (p+X.length)):=by refine a9C a ?_;rw[show(p+(X.length:Int)).toNat=p.toNat+X.length by omega,List.drop_take]at h;rw[show p.toNat+X.length-p.toNat=X.length by omega]at h;exact h
theorem XQ(a:0<=p)(h:¬List.drop p.toNat (List.take (p+X.length).toNat S)=X):must X (dr S p)=none:=by
 refine XR λe=>h ?_
 rw[show(p+(X.length:Int)).toNat=p.toNat+X.length by omega,List.drop_take,show p.toNat+X.length-p.toNat=X.length by omega];exact e
theorem Th(a:0<=p)(I:p<=S.length)(h:(S.length:Int)-p<X.length):must X (dr S p)=none:=by refine XS ?_;rw[eV];omega
theorem a5i(h:i<0)(I: -1<=i):cz (List.take (i+1).toNat l) t=t:=by rw[show(i+1).toNat=0 by omega]<;>rfl
theorem GK(h:eE 0 bF X=some (n,r)):jr true (PR true) X=eT true n [] r:=ta h
theorem OH(h:eE 0 bF X=none):jr true (PR true) X=none:=Ua h
theorem Sw(h:S.length<=p):dr S p=[]:=vw (by omega)
theorem a5W(a:0<=p)(h:p<S.length):dr S p≠[]:=by intro e;have:=fo List.length e;rw[eV]at this;simp only[c7]at this;omega
theorem a6Y(h:PT true S=some (t,dr S p))(a:p=S.length):rd S=some t:=aal (by rw[h,Sw (by omega)])
theorem a6Z(h:PT true S=some (t,dr S p))(a:0<=p)(I:p<S.length+1)(b:¬p=S.length):rd S=none:=a60 h (a5W a (by omega))
theorem a4X(h:PT true S=some (t,r)):t.fits=true:=by
 rw[FG]at h;cases Z:PT false S with
 |none=>rw[Z]at h;cases h
 |some x=>
  rw[Z]at h;simp only[gz]at h;split at h
  .next a=>
   have:=ae h;have e:x.1=t:=fo Prod.fst this;rw[<-e];exact a
  .cases h
theorem aaj(h:rd (S.take m)=some t)(a:(S.length:Int)<=4200):t.wf/\t.words<=10000:=a2W h (E1 a).1
theorem aak(h:rd (S.drop m)=some t)(a:(S.length:Int)<=4200):t.wf/\t.words<=10000:=a2W h (E1 a).2
theorem abD{K:TypeId->List Kd}{N:Nat}(a:K T=kT T)(c:N=40000)(h:PT true S=some (t,r))(e:(S.length:Int)<=4200)(b:en T t [iv k,iv v,sv w,d]):Yl K T N (iv k) (iv v) (sv w) d:=by have:=a1W h;exact a1m a b (by omega)
theorem abE(h:PT true S=some (t,r))(a:en T t [iv k,iv v,sv w,d]):Cu (iv k) (iv v) (sv w) d:=TN a (a1W h).1 (a4X h)
end
def iV(d:Dt):Prop:=e1 .len d≠none
def ln(d:Dt):Int:=iO (e1 .len d)
section
variable{E:G}{n j:Nat}{d:Dt}{o:Option Dt}{T:TypeId}{l:List Tm}{t:Tm}{k v i:Int}{w:B}
theorem Ux:e1 .len d=qJ (iV d) (some (iv (ln d))):=by
 by_cases h:iV d
 .rw[oK h];unfold iV at h;unfold ln;cases d with
  |val x=>cases x<;>first|rfl|exact absurd rfl h
  |sl x t g J=>cases x<;>first|rfl|exact absurd rfl h
  |_=>exact absurd rfl h
 .have:e1 .len d=none:=by
    unfold iV at h;exact po.1 h
  rw[this];unfold qJ;rw[av h]
theorem r0:e1 .len (gd E n)=qJ (iV (gd E n)) (some (iv (ln (gd E n)))):=Ux
theorem r5:e1 .len (dO o)=qJ (iV (dO o)) (some (iv (ln (dO o)))):=Ux
theorem Ma(h:iu T l d):iV d/\ln d=l.length:=by have:=Y6 h;exact⟨by unfold iV;rw[this];simp,by unfold ln;rw[this]<;>rfl⟩
theorem zC(h:en T t [iv k,iv v,sv w,d]):iV d/\ln d=t.l.length:=Ma (pJ h)
theorem rT{c:Prop}{m:Int}{a:IntKind}:ZA (some (.val (.int a i))) (qJ c (some (iv m)))=(c/\¬(0<=i/\i<m)):=by
 by_cases h:c
 .rw[oK h,pZ];simp[h]
 .unfold qJ;rw[av h];simp[h,ZA]
theorem yC{c:Prop}{m:Int}{a:IntKind}:inO (some (.val (.int a i))) (qJ c (some (iv m)))=(c/\0<=i/\i<m):=by
 by_cases h:c
 .rw[oK h,wx];simp[h]
 .unfold qJ;rw[av h];simp[h,inO]
theorem a5k(h:iu T l d)(c:0<=i)(I:i<l.length):∃u,l[i.toNat]? =some u/\tI (gT d i 0)/\tI (gT d i 1)/\tS (gT d i 2)/\tD (gT d i 3)/\en T u [iv (iO (gT d i 0)),iv (iO (gT d i 1)),sv (sO (gT d i 2)),dO (gT d i 3)]:=by obtain⟨u,a,b,x,y,e,g0,g1,g2,g3,f⟩:=a2e h c I;refine⟨u,e,?_⟩;rw[g0,g1,g2,g3];exact⟨rfl,rfl,rfl,rfl,f⟩
def ldF(T:TypeId)(e:Dt)(i:Int):Option Dt:=((((gT e i 0).bind (e2 .sn (.ls (kT T) []))).bind λu=>(gT e i 1).bind (e2 .sn u)).bind λu=>(gT e i 2).bind (e2 .sn u)).bind λu=>(gT e i 3).bind (e2 .sn u)
theorem yJ{e:Dt}:((((gT e i 0).bind (e2 .sn (.ls (kT T) []))).bind λu=>(gT e i 1).bind (e2 .sn u)).bind λu=>(gT e i 2).bind (e2 .sn u)).bind (λu=>(gT e i 3).bind (e2 .sn u))=ldF T e i:=rfl
def ldA(c:Dt)(m:Int)(e:Dt)(i:Int):Option Dt:=((((e2 (.tk 4) c (iv m)).bind λu=>(gT e i 0).bind (e2 .sn u)).bind λu=>(gT e i 1).bind (e2 .sn u)).bind λu=>(gT e i 2).bind (e2 .sn u)).bind λu=>(gT e i 3).bind (e2 .sn u)
theorem yK{c e:Dt}{m:Int}:((((e2 (.tk 4) c (iv m)).bind λu=>(gT e i 0).bind (e2 .sn u)).bind λu=>(gT e i 1).bind (e2 .sn u)).bind λu=>(gT e i 2).bind (e2 .sn u)).bind (λu=>(gT e i 3).bind (e2 .sn u))=ldA c m e i:=rfl
theorem a9z{e:Dt}(h:iu T l e)(d:0<=i)(I:i<l.length):∃u c,l[i.toNat]? =some u/\ldF T e i=some c/\ff T [u] 1 c:=by obtain⟨u,a,b,x,y,f,g0,g1,g2,g3,g⟩:=a2e h d I;obtain⟨c,Y,W⟩:=a5n g;refine⟨u,c,f,?_,W⟩;unfold ldF;rw[g0,g1,g2,g3];simpa using Y
theorem a9A{c e:Dt}{m:Int}{q:List Tm}(f:ff T q m c)(h:iu T l e)(g:0<=i)(I:i<l.length):∃u d,l[i.toNat]? =some u/\ldA c m e i=some d/\ff T (q++[u]) (m+1) d:=by obtain⟨u,a,b,x,y,j,g0,g1,g2,g3,k⟩:=a2e h g I;obtain⟨d,Y,W⟩:=ph f k;refine⟨u,d,j,?_,W⟩;unfold ldA;rw[g0,g1,g2,g3];unfold Qd at Y;simpa using Y
theorem Np{e:Dt}{n:Int}(a:ff T l n e)(h:en T t [iv k,iv v,sv w,d]):¬F9 4 (Qd e n k v w d) (some (iv (n+1))):=by obtain⟨b,I,Y⟩:=ph a h;rw[I];exact gA Y
theorem Xv(h:en T t [iv k,iv v,sv w,d]):¬F9 4 (EC T k v w d) (some (iv 1)):=by obtain⟨a,I,Y⟩:=kc h;rw[I];exact gA Y
end
section
variable{S R:B}{p i n f lo V:Int}{c:UInt8}{less:Bool}
theorem b123(a:0<=p)(I:p<S.length)(h:bt S p=123):must [123] (dr S p)=some (dr S (p+1)):=Qa a I h
theorem b91(a:0<=p)(I:p<S.length)(h:bt S p=91):must [91] (dr S p)=some (dr S (p+1)):=Qa a I h
theorem RA(h:must [c] (dr S p)=some R)(a:0<=p):p<S.length:=by
 rcases Int.lt_or_le p S.length with I|I
 .exact I
 .rw[vc I]at h;cases h
theorem a7o(h:must [c] (dr S p)=some R)(a:0<=p):bt S p=c.toNat:=Fa a (RA h a) h
theorem sb1(a:0<=i)(I:i<S.length):∃c:UInt8,bt S i=c.toNat/\List.drop i.toNat (List.take (i+1).toNat S)=[c]:=by obtain⟨c,b,e⟩:=dU a I;refine⟨c,e,?_⟩;rw[show(i+1).toNat=i.toNat+1 by omega,tv (bD _) b,vw (by rw[c8];omega)];rfl
theorem a9s(a:0<=i)(I:i<S.length)(h:plain ([97]++List.drop i.toNat (List.take (i+1).toNat S))=true):Uq (bt S i):=by obtain⟨c,e,e2⟩:=sb1 a I;rw[e2]at h;have h:plain [97,c]=true:=h;rw[T9]at h;rw[e];exact mG.1 h
theorem a9t(a:0<=i)(I:i<S.length)(h:plain ([97]++List.drop i.toNat (List.take (i+1).toNat S))=false):¬Uq (bt S i):=by obtain⟨c,e,e2⟩:=sb1 a I;rw[e2]at h;have h:plain [97,c]=false:=h;rw[T9]at h;rw[e];intro Y;rw[mG.2 Y]at h;cases h
theorem na:IntKind.i64.wrap n=wr n:=rfl
theorem mZ:IntKind.u8.wrap n=wu n:=rfl
theorem Dx(h:0<=n/\n<256):wu n=n:=by rw[X7];omega
theorem yb{a b:Int}:e2 (.bin .quo) (iv a) (iv b)=qJ (b≠0) (some (iv (wr (a.tdiv b)))):=by
 by_cases h:b=0
 .subst h;unfold qJ;rw[av (by simp)];simp only[e2,fj,bS,bc,bM];rfl
 .rw[oK h];simp only[e2,fj,bS,bc,bM,qN h,okV];rfl
theorem a9T{a b:Int}(h:b≠0):e2 (.bin .rem) (iv a) (iv b)=some (iv (a.tmod b)):=aaF h
theorem Ym{x:Int}(h:x<=0):x.tdiv 10= -((-x)/10):=by obtain⟨y,rfl⟩:∃y:Nat,x= -(y:Int):=⟨(-x).toNat,by omega⟩;rw[Int.neg_tdiv,Int.neg_neg]<;>rfl
theorem a6X(h:48<=bt S i/\bt S i<=57):wr (wu (bt S i-48))=bt S i-48:=by rw[Dx (by omega),eF (by omega)]
theorem XC(h:l5 S f.toNat p.toNat i.toNat n)(a:0<=i)(H:i<p)(I:i<S.length)(Y:bt S i≠45)(b:dX<=lo)(c:V<=fc)(d:n<wr ((wr (-576460752303423488+wr (wu (bt S i-48)))).tdiv 10)):eE lo V (dr S f)=none:=by have e:=Li h a H I Y;rw[a6X e,eF (n:= -576460752303423488+_) (by omega),Ym (by omega),eF (by omega)]at d;refine a9m h a H I Y b c ?_;unfold dX;omega
theorem XB(h:l5 S f.toNat p.toNat i.toNat n)(a:0<=i)(H:i<p)(I:i<S.length)(Y:bt S i≠45)(c:¬n<wr ((wr (-576460752303423488+wr (wu (bt S i-48)))).tdiv 10)):l5 S f.toNat p.toNat (i+1).toNat (wr (wr (10*n)-wr (wu (bt S i-48)))):=by have b:=Li h a H I Y;have h6:=h.2.2.2.2.2;have h5:=h.2.2.2.2.1;unfold dX at h6;rw[a6X b,eF (n:= -576460752303423488+_) (by omega),Ym (by omega),eF (by omega)]at c;rw[a6X b,eF (n:=10*n) (by omega),eF (by omega)];exact a9l h a H I Y (by unfold dX;omega)
theorem YS(h:l5 S f.toNat p.toNat i.toNat n):n<=0/\ -576460752303423488<=n:=by have h6:=h.2.2.2.2.2;have h5:=h.2.2.2.2.1;unfold dX at h6;exact⟨by omega,h6⟩
end
section
variable{S:B}{i n:Int}{d:Dt}{T:TypeId}{t u:Tm}{l O:List Tm}{k v:Int}{w:B}
theorem nk:(∀c:UInt8,c∈([]:B)->digit c=true)=True:=by simp
theorem nb:val []=0:=rfl
theorem c0:((0:Nat):Int)=0:=rfl
theorem adu(h:¬bt S 0=48):S[0]? ≠some 48:=λe=>h (by
 have:=Eh (S:=S) (p:=0) e;simpa using this)
theorem Yg:∀(l:B)(a:Nat),(∀c∈l,digit c=true)->l.foldl (λa c=>a*10+(c.toNat-48)) a+1<=(a+1)*10^l.length
 | [],a,_=>by simp
 |c::l,a,h=>by
  have I:=Yg l (a*10+(c.toNat-48)) λx Z=>h x (bQ _ Z)
  have Y:=gf.1 (h c bB);have W:(a*10+(c.toNat-48)+1)*10^l.length<=((a+1)*10)*10^l.length:=kZ _ (by omega);rw[List.foldl_cons,cD,Nat.pow_succ,Nat.mul_comm (10^l.length) 10,<-Nat.mul_assoc];omega
theorem a6H{l:B}(h:∀c∈l,digit c=true)(a:l.length<=10):(val l:Int)<=9999999999:=by have I:=Yg l 0 h;have Y:10^l.length<=10^10:=Nat.pow_le_pow_right (by decide) a;unfold val;omega
theorem wf9(h:t.wf)(c:en T t [iv 9,iv v,sv w,d]):∃a b,t=.mk 9 0 [] [a,b]/\t.l=[a,b]/\a.wf/\b.wf:=by
 have e:=(pI c).1;have I:=a9L h;rw[e]at h;have Y:=Vu h;unfold wf1 at Y;have W:v=0/\w=[]/\t.l.length=2:=by rcases Y with h|h|h|h|h|h|h<;>first|exact⟨h.2.1,h.2.2.1,h.2.2.2⟩|(have:=h.1;omega)
 obtain⟨rfl,rfl,U⟩:=W
 match f:t.l,U with
 | [a,b],_=>rw[f]at I e;unfold lT lT lT at I;exact⟨a,b,e,rfl,I.1,I.2.1⟩
theorem TC{a b:Tm}:(Tm.mk 9 0 [] [a,b]).size=1+(a.size+b.size):=by simp[Tm.size,sizes]
theorem size_pos:1<=t.size:=by cases t;simp[Tm.size]
end
section
variable{S:B}{f p i n lo H:Int}{N:Nat}
theorem yc{a:Int}:e1 (.un .neg) (iv a)=some (iv (wr (-a))):=by simp only[e1,iv,a4a,bM,okV,Int.zero_sub];rfl
theorem Z0(h:n<=0/\ -576460752303423488<=n):wr (-n)= -n:=eF (by omega)
theorem acv(a:0<=f)(I:f<S.length)(Y:f<p)(h:bt S f=45):sgn true S f p:=by obtain⟨c,b,e⟩:=dU a I;have:c=45:=hD.1 (by rw[show(45:UInt8).toNat=45 from rfl];omega);subst this;exact⟨Y,b⟩
theorem acw(h:¬bt S f=45):sgn false S f p:=.inr λe=>h (Eh e)
theorem a90(h:f=p):sgn false S f p:=.inl h
theorem acD(a:0<=p)(b:0<=f)(h:S.length<=p):EF S f.toNat p.toNat:=S7 a (.inl (.inl h)) b
theorem acC(a:0<=p)(b:0<=f)(h:bt S p<48):EF S f.toNat p.toNat:=S7 a (.inl (.inr (.inl h))) b
theorem acB(a:0<=p)(b:0<=f)(h:57<bt S p):EF S f.toNat p.toNat:=S7 a (.inl (.inr (.inr h))) b
theorem acA(a:0<=p)(b:0<=f)(h:¬p-f<20)(Y:p<=f+20):EF S f.toNat p.toNat:=S7 a (.inr (by omega)) b
theorem aad(h:l5 S f.toNat p.toNat i.toNat n)(V:¬i<p)(d:i<=p)(e:EF S f.toNat p.toNat)(g:0<=f)(j:sgn true S f p)(k:dX<=lo)(l:H<=fc)(c:n<lo\/H<n\/¬itoa n=sb S f p):eE lo H (dr S f)=none:=
 a5a h (by omega) e g j (m:=n) rfl k l (λw a b=>by rcases c with c|c|c<;>first|omega|exact c w)
theorem aae(h:l5 S f.toNat p.toNat i.toNat n)(V:¬i<p)(a:i<=p)(b:EF S f.toNat p.toNat)(c:0<=f)(d:sgn false S f p)(e:dX<=lo)(g:H<=fc)(j:wr (-n)<lo\/H<wr (-n)\/¬itoa (wr (-n))=sb S f p):eE lo H (dr S f)=none:=by grind[Z0,YS,a5a]
theorem a05(I:dX<=lo)(Y:H<=fc)(a:¬n<lo)(b:¬H<n): -9223372036854775807<=n/\n<=9223372036854775807/\(if n<0 then 22 else(itoa n).length)<30:=by grind[mI,mA,Hh]
theorem acN(f:S.length<=10)(h:∀c∈S.take i.toNat,digit c=true)(d:0<=i)(I:i<S.length)(Y:¬bt S i<48)(W:¬57<bt S i)(e:n=val (S.take i.toNat))(_:0<=n):
  (∀c∈S.take (i+1).toNat,digit c=true)/\10*n+(bt S i-48)=val (S.take (i+1).toNat)/\0<=10*n+(bt S i-48)/\10*n+(bt S i-48)<=9999999999:=by
 obtain⟨a,b⟩:=a9v h d I (by omega) (by omega);have U:=a6H a (by rw[c8];omega);refine⟨a,by rw[b,e],by omega,by rw[b]at U;omega⟩
theorem sC{T:TypeId}{e d:Dt}{k v:Int}{w:B}:((((ldF T e i).bind λu=>e2 .sn u (iv k)).bind λu=>e2 .sn u (iv v)).bind λu=>e2 .sn u (sv w)).bind (λu=>e2 .sn u d)=ld8 T e i k v w d:=rfl
section
variable{S:B}{i:Int}
theorem M0:0<=bt S i/\bt S i<256:=by unfold bt;have:=((S[i.toNat]?).getD 0).toNat_lt;omega
theorem acV{x:Int}(a:0<=x)(I:x<256):e2 (.bin .quo) (uv x) (uv 16)=some (uv (x/16)):=by
 obtain⟨n,rfl⟩:=fK a;have e:IntKind.u8.wrap ((n:Int).tdiv 16)=(n:Int)/16:=by show wu _=_;rw[show((n:Int).tdiv 16)=(n:Int)/16 from rfl,Dx (by omega)]
 simp only[e2,fj,bS,bc,bM,okV];exact fo (λz=>some (Dt.val (Value.int .u8 z))) e
theorem acU{x:Int}(a:0<=x)(I:x<256):e2 (.bin .rem) (uv x) (uv 16)=some (uv (x%16)):=by grind[e2,fj,bS,bM,okV]
theorem a3R{y:Int}(a:0<=y)(I:y<16):(e2 (.bin .add) (uv y) (uv 1)).bind (e3 .sub (sv [48,49,50,51,52,53,54,55,56,57,97,98,99,100,101,102]) (uv y))=some (sv [o0 y.toNat]):=by rw[pF,Dx (by omega),bn,pE,show(y+1).toNat=y.toNat+1 by omega];exact fo (λz=>some (sv z)) (Q2 (n:=y.toNat) (by omega))
theorem Io:((e2 (.bin .quo) (uv (bt S i)) (uv 16)).bind λv=>((e2 (.bin .quo) (uv (bt S i)) (uv 16)).bind λu=>e2 (.bin .add) u (uv 1)).bind (e3 .sub (sv [48,49,50,51,52,53,54,55,56,57,97,98,99,100,101,102]) v))=some (sv [o0 ((bt S i).toNat/16)]):=by have h:=M0 (S:=S) (i:=i);rw[acV h.1 h.2,bn,bn,a3R (by omega) (by omega),show(bt S i/16).toNat=(bt S i).toNat/16 by omega]
theorem Im:((e2 (.bin .rem) (uv (bt S i)) (uv 16)).bind λv=>((e2 (.bin .rem) (uv (bt S i)) (uv 16)).bind λu=>e2 (.bin .add) u (uv 1)).bind (e3 .sub (sv [48,49,50,51,52,53,54,55,56,57,97,98,99,100,101,102]) v))=some (sv [o0 ((bt S i).toNat%16)]):=by have h:=M0 (S:=S) (i:=i);rw[acU h.1 h.2,bn,bn,a3R (by omega) (by omega),show(bt S i%16).toNat=(bt S i).toNat%16 by omega]
end
section
variable{S s7:B}{i:Int}
theorem zE{a b:UInt8}:[a,b].length=2:=rfl
theorem a5E(b:0<=i)(I:i<S.length):(S.take (i+1).toNat).drop i.toNat=[(S[i.toNat]?).getD 0]:=by obtain⟨c,a,e⟩:=dU b I;rw[show(i+1).toNat=i.toNat+1 by omega,sV a,a,hE];rw[EZ (by rw[c8];omega),vw (by rw[c8];omega),fH]
theorem Wy(a:0<=i)(I:i<S.length):min (i+1).toNat S.length-i.toNat=1:=by omega
theorem esA(a:s7=39::qs (S.take i.toNat))(b:0<=i)(I:i<S.length)(h:bt S i=39\/bt S i=92):s7++[92]++(S.take (i+1).toNat).drop i.toNat=39::qs (S.take (i+1).toNat):=by grind[a5E,XX]
theorem esC(a:s7=39::qs (S.take i.toNat))(b:0<=i)(I:i<S.length)(h:¬bt S i=39)(Y:¬bt S i=92)(W:¬bt S i<32)(U:¬126<bt S i):s7++(S.take (i+1).toNat).drop i.toNat=39::qs (S.take (i+1).toNat):=by grind[a5E,XV]
theorem esB(a:s7=39::qs (S.take i.toNat))(b:0<=i)(I:i<S.length)(h:bt S i<32\/126<bt S i):s7++[92,120]++[o0 ((bt S i).toNat/16)]++[o0 ((bt S i).toNat%16)]=39::qs (S.take (i+1).toNat):=by grind[XW]
theorem esE(a:s7=39::qs (S.take i.toNat))(h:¬i<S.length):s7++[39]=quote S:=by grind[XF]
end
section
variable{n:Int}{N:Nat}{s7 s8:B}
theorem nc{a:Int}:e2 (.bin .rem) (iv a) (iv 10)=some (iv (a.tmod 10)):=a9T (by decide)
theorem adm{n:Nat}(h:¬n<10):itoa ((n/10:Nat):Int)++itoa ((n%10:Nat):Int)=itoa (n:Int):=by
 rw[itoa_nonneg,itoa_nonneg,itoa_nonneg,decDigits_one (Nat.mod_lt _ (by decide))]
 conv=>rhs;rw[decDigits,dif_neg h]
theorem adp(h:n<0)(I: -9223372036854775807<=n)(W:(if n<0 then 22 else(itoa n).length)<N+1): -9223372036854775807<= -n/\ -n<=9223372036854775807/\(if -n<0 then 22 else(itoa (-n)).length)<N:=by rw[aJ h]at W;have:=itoa_length_le (-n) (by omega) (by omega);rw[av (by omega)];omega
theorem ado(h:n<0)(a:s7=itoa (-n)):[45]++s7=itoa n:=by obtain⟨u,rfl⟩:∃u:Nat,n= -(u:Int):=⟨n.natAbs,by omega⟩;rw[a,Int.neg_neg,itoa_nonneg,itoa_neg u (by omega)]<;>rfl
theorem adn(a:0<=n)(h:n<10):([48,49,50,51,52,53,54,55,56,57].take (n+1).toNat).drop n.toNat=itoa n:=by
 obtain⟨u,rfl⟩:=fK a;rw[itoa_nonneg,decDigits_one (by omega)];have key:∀u:Fin 10,([48,49,50,51,52,53,54,55,56,57].take (u.val+1)).drop u.val=[UInt8.ofNat (48+u.val)]:=by decide
 exact key ⟨u,by omega⟩
theorem a4n(h:¬n<10)(Y:n<=9223372036854775807):wr (n.tdiv 10)=n/10/\n.tmod 10=n%10:=by grind[eF]
theorem a06(a: -9223372036854775808<=n)(I:n<=9223372036854775808-1):(itoa n).length<=21:=itoa_length_le n a (by omega)
theorem a7W(h:¬n<10):itoa (n/10)++itoa (n%10)=itoa n:=by obtain⟨u,rfl⟩:=fK (show 0<=n by omega);exact adm (by omega)
theorem a4o(h:¬n<10)(W:(if n<0 then 22 else(itoa n).length)<N+1):(itoa (n/10)).length<N/\(itoa (n%10)).length<N:=by grind[a7W,Hg]
end
section
variable{T:TypeId}{t:Tm}{d:Dt}{k v:Int}{w:B}
theorem it9(hk:k=9)(h:en T t [iv k,iv v,sv w,d])(l:t.wf):∃a b c,t=.mk 9 0 [] [a,b]/\tI (gT d 1 0)/\tI (gT d 1 1)/\tS (gT d 1 2)/\tD (gT d 1 3)/\en T b [iv (iO (gT d 1 0)),iv (iO (gT d 1 1)),sv (sO (gT d 1 2)),dO (gT d 1 3)]/\ldF T d 0=some c/\ff T [a] 1 c/\a.wf/\b.wf:=by
 subst hk;obtain⟨a,b,e,m,n,o⟩:=wf9 l h;have f:=pJ h;rw[m]at f;obtain⟨u,p,g0,g1,g2,g3,q⟩:=a5k f (i:=1) (by decide) (by simp);obtain⟨j,c,g,r,s⟩:=a9z f (i:=0) (by decide) (by simp);have:u=b:=by simpa using p.symm
 have:j=a:=by simpa using g.symm
 subst u j;exact⟨a,b,c,e,g0,g1,g2,g3,q,r,s,n,o⟩
theorem itA{q:List Tm}{m:Int}{c:Dt}(p:ff T q m c)(hk:k=9)(n:en T t [iv k,iv v,sv w,d])(r:t.wf):∃a b f,t=.mk 9 0 [] [a,b]/\tI (gT d 1 0)/\tI (gT d 1 1)/\tS (gT d 1 2)/\tD (gT d 1 3)/\en T b [iv (iO (gT d 1 0)),iv (iO (gT d 1 1)),sv (sO (gT d 1 2)),dO (gT d 1 3)]/\ldA c m d 0=some f/\ff T (q++[a]) (m+1) f/\a.wf/\b.wf:=by
 obtain⟨a,b,f,e,g0,g1,g2,g3,s,y,z,u,x⟩:=it9 hk n r;have o:=pJ n;rw[e]at o;obtain⟨g,e1,h,j,l⟩:=a9A p o (i:=0) (by decide) (show(0:Int)<(2:Nat) by decide);have:g=a:=by have:some a=some g:=h;injection this with this;exact this.symm
 subst this;exact⟨g,b,e1,e,g0,g1,g2,g3,s,j,l,u,x⟩
def fs8(T:TypeId)(a b:Int)(x:B)(y:Dt)(k v:Int)(w:B)(d:Dt):Option Dt:=((((EC T a b x y).bind λu=>e2 .sn u (iv k)).bind λu=>e2 .sn u (iv v)).bind λu=>e2 .sn u (sv w)).bind λu=>e2 .sn u d
theorem yO{a b:Int}{x:B}{y:Dt}:((((EC T a b x y).bind λu=>e2 .sn u (iv k)).bind λu=>e2 .sn u (iv v)).bind λu=>e2 .sn u (sv w)).bind (λu=>e2 .sn u d)=fs8 T a b x y k v w d:=rfl
theorem a9F{a b:Int}{x:B}{y:Dt}{u:Tm}(e:en T u [iv a,iv b,sv x,y])(f:en T t [iv k,iv v,sv w,d]):∃c,fs8 T a b x y k v w d=some c/\ff T [u,t] 2 c:=a6K e f
theorem a9E{a b:Int}{x:B}{y d0:Dt}{u:Tm}(e:en T u [iv a,iv b,sv x,y])(f:en T t [iv k,iv v,sv w,d])(c:tD (fs8 T a b x y k v w d)/\Xh T d0 (dO (fs8 T a b x y k v w d)) 2):en T (.mk 9 0 [] [u,t]) [iv 9,iv 0,sv [],d0]:=by obtain⟨g,I,Y⟩:=a9F e f;rw[I]at c;exact rK (kr c.2 Y)
theorem a9D{a b:Int}{x:B}{y d0:Dt}{u:Tm}(d:en T u [iv a,iv b,sv x,y])(c:tD (EC T a b x y)/\Xh T d0 (dO (EC T a b x y)) 1):iu T [u] d0:=by obtain⟨e,I,Y⟩:=kc d;rw[I]at c;exact kr c.2 Y
theorem J0:∀l:List Tm,l.length<=sizes l
 | []=>wY _
 |t::l=>by
  have h:=J0 l;have I:=size_pos (t:=t);simp only[sizes,cD];omega
theorem wk(a:t.words<=10000):t.l.length<=10000:=by
 have h:=iL t;have I:=J0 t.l;cases t with
 |mk k n s l=>simp only[Tm.size,Tm.l]at h I ⊢;omega
theorem a35(h:¬D3 t):t.fits=false:=by
 cases a:t.fits with
 |false=>rfl
 |true=>exact absurd (Hx.1 a).1 h
theorem Yb:∀{l:List Tm}{n:Nat}{u:Tm},lT l->l[n]? =some u->u.wf/\u.size<=sizes l/\u.words<=dF l
 | [],n,u,_,h=>by simp at h
 |t::l,0,u,d,h=>by grind[lT,sizes,dF]
 |t::l,n+1,u,d,h=>by
  unfold lT at d;obtain⟨a,b,c⟩:=Yb d.2 (by simpa using h);refine⟨a,?_,?_⟩
  .simp only[sizes];omega
  .simp only[dF];omega
theorem itE{i:Int}(V:iV d/\i<ln d)(h:0<=i)(f:en T t [iv k,iv v,sv w,d])(j:t.wf)(e:t.words<=10000):∃u,t.l[i.toNat]? =some u/\tI (gT d i 0)/\tI (gT d i 1)/\tS (gT d i 2)/\tD (gT d i 3)/\en T u [iv (iO (gT d i 0)),iv (iO (gT d i 1)),sv (sO (gT d i 2)),dO (gT d i 3)]/\u.wf/\u.words<=10000/\u.size<t.size/\ln d=t.l.length/\t.l.length<=10000:=by
 have q:=zC f;have m:=wk e;obtain⟨u,g,g0,g1,g2,g3,o⟩:=a5k (pJ f) h (by omega);obtain⟨a,b,c⟩:=Yb (a9L j) g;refine⟨u,g,g0,g1,g2,g3,o,a,?_,?_,q.2,m⟩
 .cases t with
  |mk k n s l=>simp only[Tm.l]at c;unfold Tm.words at e;split at e<;>omega
 .cases t with
  |mk k n s l=>simp only[Tm.l]at b;simp only[Tm.size];omega
theorem Tk:t.words=(if t.k=7\/t.k=5 then 2 else 1)+dF t.l:=by
 cases t with
 |mk k n s l=>by_cases h:k=7\/k=5<;>simp[Tm.words,Tm.k,Tm.l,h]
theorem Jf:∀(l:List Tm)(n:Nat),dF (l.take n)<=dF l
 | [],n=>by simp
 |t::l,0=>by simp[dF]
 |t::l,n+1=>by
  have:=Jf l n;simp only[List.take_succ_cons,dF];omega
theorem a9N{i:Int}{n:Nat}(_:t.words<=10000)(a:i=(if t.k=7\/t.k=5 then 2 else 1)+(dF (t.l.take n):Int)):1<=i/\i<=t.words:=by grind[Jf,Tk]
theorem acn{i:Int}(a:i=(if t.k=7\/t.k=5 then 2 else 1)+(dF t.l:Int)):i=t.words:=by grind[Tk]
theorem aco(c:¬k=9)(h7:¬k=7)(h5:¬k=5)(a:en T t [iv k,iv v,sv w,d])(b:t.wf):(1:Int)=t.words:=by
 have e:=(pI a).1;have Y:=b;rw[e]at Y;have Y:=Vu Y;unfold wf1 at Y;have W:t.l.length=0:=by grind
 rw[FN W]at e;rw[e,kj ⟨h7,h5⟩]<;>rfl
theorem it8(hk:k=8)(a:en T t [iv k,iv v,sv w,d])(b:t.wf):t=uI:=by
 subst hk;have e:=(pI a).1;have Y:=b;rw[e]at Y;have Y:=Vu Y;unfold wf1 at Y;have W:v=0/\w=[]/\t.l.length=0:=by grind
 obtain⟨rfl,rfl,U⟩:=W;rw[FN U]at e;exact e
theorem UD(a:¬k=8)(b:¬k=9)(c:en T t [iv k,iv v,sv w,d])(l:List Tm):t≠cz l uI:=by
 intro e;have h:=(pI c).1;rw[e]at h;cases l with
 |nil=>exact a (by injection h with h;exact h.symm)
 |cons x l=>exact b (by injection h with h;exact h.symm)
end
end
def hx2(a b:Int):Int:=wu (IntKind.i64.wrap (BitVec.ofInt 64 (wr (a*16)) |||BitVec.ofInt 64 b).toNat)
section
variable{E:G}{S:B}{p f:Int}{a X:B}{T:TypeId}
abbrev a3W:B:=[48,49,50,51,52,53,54,55,56,57,97,98,99,100,101,102]
theorem yM{a b:Int}:((((ax E (.int .u64 4)).bind (e2 (.bin .shl) (iv a))).bind λu=>e2 (.bin .or) u (iv b)).bind (e1 (.conv .u8)))=some (uv (hx2 a b)):=rfl
theorem a5t{n:Int}:0<=wu n/\wu n<256:=by rw[X7];omega
theorem x6{l:B}{n:Int}:e2 .sn (bd l) (uv (wu n))=some (bd (l++[UInt8.ofNat (wu n).toNat])):=x8 a5t
theorem x7{l:B}{a b:Int}:e2 .sn (bd l) (uv (hx2 a b))=some (bd (l++[UInt8.ofNat (hx2 a b).toNat])):=x8 a5t
theorem a3S:∀a b:Fin 16,(hx2 (a.val:Int) (b.val:Int)).toNat=16*a.val+b.val:=by decide+kernel
theorem a7B{a b:Int}(I:0<=a)(Y:a<16)(W:0<=b)(U:b<16):(hx2 a b).toNat=16*a.toNat+b.toNat:=by obtain⟨n,rfl⟩:=fK I;obtain⟨m,rfl⟩:=fK W;exact a3S ⟨n,by omega⟩ ⟨m,by omega⟩
theorem a5d{x y:Int}(q:fS S f.toNat p.toNat a)(c:0<=p)(I:p<S.length)(Y:bt S p=92)(d:must [120] (dr S (p+1))=some X)(h:¬S.length<p+1+1+2)
  (e:x=indexByte a3W (bt S (p+1+1)).toNat.toUInt8) (g:y=indexByte a3W (bt S (p+1+1+1)).toNat.toUInt8) (Z:¬x<0) (b:¬y<0):
  fS S f.toNat (p+1+1+2).toNat (a++[UInt8.ofNat (hx2 x y).toNat]):=by
 subst e;subst g;obtain⟨r,i,j⟩:=a9q q c I Y d (by omega) (Int.not_lt.1 Z) (Int.not_lt.1 b);rw[a7B (Int.not_lt.1 Z) i (Int.not_lt.1 b) j,show p+1+1+2=p+4 by omega];exact r
theorem S9{x y:Int}(q:fS S f.toNat p.toNat a)(b:0<=p)(I:p<S.length)(Y:bt S p=92)(c:must [120] (dr S (p+1))=some X)(h:¬S.length<p+1+1+2)
  (d:x=indexByte a3W (bt S (p+1+1)).toNat.toUInt8) (e:y=indexByte a3W (bt S (p+1+1+1)).toNat.toUInt8) (g:x<0\/y<0):cy (dr S f)=none:=by
 subst d;subst e;exact a6o q b I Y c (by omega) g
theorem a5c(q:fS S f.toNat p.toNat a)(b:0<=p)(I:p<S.length)(Y:bt S p=92)(c:must [120] (dr S (p+1))=some X)(h:S.length<p+1+1+2):cy (dr S f)=none:=a6p q b I Y c (by omega)
theorem a3Y(a:0<=p)(I:p<S.length):Si ((S[p.toNat]?).getD 0)=if 48<=bt S p/\bt S p<=57 then bt S p-48 else if 97<=bt S p/\bt S p<=102 then bt S p-87 else -1:=by obtain⟨c,b,e⟩:=dU a I;rw[b,e];exact a3X
theorem a44{x y:Int}(q:wP S f.toNat p.toNat a)(c:0<=p)(I:p+1+1+2<=S.length)(Y:bt S p=92)(W:bt S (p+1)=120)
  (Z:x=if 48<=bt S (p+1+1)/\bt S (p+1+1)<=57 then bt S (p+1+1)-48 else if 97<=bt S (p+1+1)/\bt S (p+1+1)<=102 then bt S (p+1+1)-87 else -1)
  (b:y=if 48<=bt S (p+1+1+1)/\bt S (p+1+1+1)<=57 then bt S (p+1+1+1)-48 else if 97<=bt S (p+1+1+1)/\bt S (p+1+1+1)<=102 then bt S (p+1+1+1)-87 else -1):
  wP S f.toNat (p+1+1+2).toNat (a++[UInt8.ofNat (wu (16*x+y)).toNat]):=by
 rw[<-a3Y (by omega) (by omega)]at Z b;have r:=a9i q c (by omega) Y W;rw[show p+2=p+1+1 by omega,show p+3=p+1+1+1 by omega,show p+4=p+1+1+2 by omega]at r;rw[Z,b,X7];exact r
theorem Xz(q:wP S f.toNat p.toNat a)(b:0<=p)(I:p<S.length)(Y:bt S p=92)(W:S.length<=p+1):wP S f.toNat (p+1+1).toNat (a++[0]):=by rw[show p+1+1=p+2 by omega];exact a9j q b I Y W
theorem XA(q:wP S f.toNat p.toNat a)(b:0<=p)(I:p+1<S.length)(Y:bt S p=92)(W:¬bt S (p+1)=120\/¬p+1+1+2<=S.length):wP S f.toNat (p+1+1).toNat (a++[(S[(p+1).toNat]?).getD 0]):=by rw[show p+1+1=p+2 by omega];exact a9k q b I Y (by rcases W with h|h;exact .inl h;exact .inr (by omega))
theorem ZD(a:0<=p)(I:p<S.length)(Y:bt S p=39):(S.take (p+1).toNat).drop p.toNat=[39]:=by obtain⟨c,e,h⟩:=sb1 a I;rw[h,show c=39 from hD.1 (by rw[show(39:UInt8).toNat=39 from rfl];omega)]
theorem a45(q:wP S f.toNat p.toNat a)(b:0<=p)(I:p<S.length)(Y:bt S p=39)(h:plain a=true\/64<a.length\/¬quote a=sb S f (p+1)):cy (dr S f)=none:=
 a9h q b I Y λg1 g2 g3=>by
  rcases h with h|h|h
  .rw[h]at g2;cases g2
  .omega
  .exact h g3
theorem S8(q:fS S f.toNat p.toNat a)(b:0<=p)(I:p<S.length)(Y:bt S p=39)(h:plain a=true\/64<a.length\/¬quote a=sb S f (p+1)):cy (dr S f)=none:=
 a6q q b I Y λg1 g2 g3=>by
  rcases h with h|h|h
  .rw[h]at g2;cases g2
  .omega
  .exact h g3
theorem pG{α:Type}{l:List α}{i:Int}(h:i=(l.length:Int)):l.take i.toNat=l:=by subst h;simp
theorem acG{i:Int}(h:a=39::qs (S.take i.toNat)):a.length<=1+4*S.length:=by subst h;have:=Kk (S:=S) (i:=i);simp only[cD];omega
theorem qA{i:Int}(b:a=39::qs (S.take i.toNat))(c:0<=i)(I:i<S.length)(h:bt S i=39\/bt S i=92):a++[92]++[(S[i.toNat]?).getD 0]=39::qs (S.take (i+1).toNat):=by rw[b,XX c I h]<;>rfl
theorem qB{i:Int}(b:a=39::qs (S.take i.toNat))(c:0<=i)(I:i<S.length)(h:bt S i<32\/126<bt S i):a++([92,120]++[o0 ((bt S i).toNat/16)]++[o0 ((bt S i).toNat%16)])=39::qs (S.take (i+1).toNat):=by rw[b,XW c I h]<;>rfl
theorem qC{i:Int}(b:a=39::qs (S.take i.toNat))(c:0<=i)(I:i<S.length)(h:¬bt S i=39)(Y:¬bt S i=92)(W:¬bt S i<32)(U:¬126<bt S i):a++[(S[i.toNat]?).getD 0]=39::qs (S.take (i+1).toNat):=by rw[b,XV c I h Y (by omega) (by omega)]<;>rfl
theorem qE{i:Int}(b:a=39::qs (S.take i.toNat))(I:¬i<S.length):a++[39]=quote S:=by rw[b];exact XF (by omega)
theorem tk1{l:B}{c:UInt8}{i:Int}(h:i=(l.length:Int)):(l++[c]).take (i+1).toNat=l++[c]:=gp (by rw[cg,ki];omega)
theorem no2{α:Type}{x:Option α}{y:α}(h:x=none)(h':x=some y):False:=by rw[h]at h';cases h'
theorem a0G{k v:Int}{w:B}{d:Dt}{u:Tm}(h:en T u [iv k,iv v,sv w,d]):tD (EC T k v w d)/\ff T [u] 1 (dO (EC T k v w d)):=by obtain⟨e,g,c⟩:=kc h;rw[g];exact⟨kI.mpr trivial,c⟩
theorem fz1{k v:Int}{w:B}{d d0:Dt}{u:Tm}(a:Xh T d0 (dO (EC T k v w d)) 1)(b:tD (EC T k v w d))(c:en T u [iv k,iv v,sv w,d]):iu T [u] d0/\iV d0/\0<ln d0:=by have q:=a9D c ⟨b,a⟩;have e:=Ma q;exact⟨q,e.1,by rw[e.2];simp⟩
theorem fz2{a b k v:Int}{w x:B}{d y d0:Dt}{u t:Tm}(c:Xh T d0 (dO (fs8 T a b x y k v w d)) 2)(e:tD (fs8 T a b x y k v w d))(f:en T u [iv a,iv b,sv x,y])(g:en T t [iv k,iv v,sv w,d]):en T (.mk 9 0 [] [u,t]) [iv 9,iv 0,sv [],d0]:=a9E f g ⟨e,c⟩
theorem Gj{R c:B}{u:Tm}(a:must [91] X=some R)(b:must [93] R=none)(d:PT false R=some (u,c)):zn X=b5 false [u] c:=by rw[a6n a b,Nq d]<;>rfl
theorem a5A{R e R2:B}{u:Tm}{l:List Tm}{k v:Int}{w:B}{d:Dt}(a:must [91] X=some R)(b:must [93] R=none)(f:PT false R=some (u,e))(c:must [44] e=some R2)(g:en T u [iv k,iv v,sv w,d])(h:ff T l 1 (dO (EC T k v w d))):zn X=kJ l R2:=by rw[a6n a b,Xw f c,ei h (a0G g).2]<;>rfl
theorem tk8{k v:Int}{w:B}{d:Dt}{t:Tm}(h:en T t [iv k,iv v,sv w,d])(hk:k=8):t.k=9\/t.k=8:=.inr (by rw[jA h];exact hk)
theorem tk9{k v:Int}{w:B}{d:Dt}{t:Tm}(h:en T t [iv k,iv v,sv w,d])(hk:k=9):t.k=9\/t.k=8:=.inl (by rw[jA h];exact hk)
theorem tkN{k v:Int}{w:B}{d:Dt}{t:Tm}(h:en T t [iv k,iv v,sv w,d])(a:¬k=9)(b:¬k=8):t.k≠9/\t.k≠8:=by rw[jA h];exact⟨a,b⟩
theorem a1N{e:Dt}{m k v:Int}{w:B}{d:Dt}{l:List Tm}{u:Tm}(a:ff T l m e)(h:en T u [iv k,iv v,sv w,d]):tD (Qd e m k v w d)/\ff T (l++[u]) (m+1) (dO (Qd e m k v w d)):=by obtain⟨e,g,c⟩:=ph a h;rw[g];exact⟨kI.mpr trivial,c⟩
theorem fzA{e:Dt}{m k v:Int}{w:B}{d d0:Dt}{l:List Tm}{u:Tm}(g:Xh T d0 (dO (Qd e m k v w d)) (m+1))(f:ff T l m e)(h:en T u [iv k,iv v,sv w,d]):iu T (l++[u]) d0/\iV d0/\m<ln d0/\m<(l++[u]).length:=by
 have q:=kr g (a1N f h).2;have a:=Ma q;have b:=eN f;have c:(l++[u]).length=l.length+1:=by simp
 exact⟨q,a.1,by omega,by omega⟩
theorem ex2{p q:Tm->Prop}(t:Tm)(a:q t)(b:p t):∃t,p t/\q t:=⟨t,b,a⟩
theorem mkR{d0:Dt}{l q:List Tm}{t Q:Tm}{i k v:Int}{w:B}{d:Dt}{c:List Dt}(e:iu T q d0)(a:en T Q [iv k,iv v,sv w,d])(f:iu T l d0)(b:en T (cz (l.take (i+1).toNat) t) c)(g:en T t [iv k,iv v,sv w,d])(h:q.length<=(i+1).toNat):en T (cz q Q) c:=by rw[gk f e,gp h,b8 g a]at b;exact b
theorem mk1{l:List Tm}{t Q:Tm}{k v:Int}{w:B}{d:Dt}{c:List Dt}(a:en T Q [iv k,iv v,sv w,d])(b:en T (cz (l.take (-1+1:Int).toNat) t) c)(e:en T t [iv k,iv v,sv w,d]):en T Q c:=by rw[b8 e a]at b;exact b
theorem aa7{x:Int}(a:0<=x)(I:x<256):(ax E (.int .u64 4)).bind (e2 (.bin .shr) (uv x))=some (uv (x/16)):=by obtain⟨n,rfl⟩:=fK a;exact fo (λz=>some (Dt.val (Value.int .u8 z))) (show((n:Int).fdiv (2^4))=(n:Int)/16 by rw[Int.fdiv_eq_ediv_of_nonneg _ (by decide)]<;>rfl)
theorem a6b:∀n:Fin 256,wu (BitVec.ofInt 8 (n.val:Int) &&& BitVec.ofInt 8 15).toNat=(n.val:Int)%16:=by decide+kernel
theorem aa6{x:Int}(a:0<=x)(I:x<256):e2 (.bin .and) (uv x) (uv 15)=some (uv (x%16)):=by obtain⟨n,rfl⟩:=fK a;exact fo (λz=>some (Dt.val (Value.int .u8 z))) (a6b ⟨n,by omega⟩)
theorem Il{i:Int}:(((ax E (.int .u64 4)).bind (e2 (.bin .shr) (uv (bt S i)))).bind λv=>(((ax E (.int .u64 4)).bind (e2 (.bin .shr) (uv (bt S i)))).bind λu=>e2 (.bin .add) u (uv 1)).bind (e3 .sub (sv [48,49,50,51,52,53,54,55,56,57,97,98,99,100,101,102]) v))=some (sv [o0 ((bt S i).toNat/16)]):=by have h:=M0 (S:=S) (i:=i);rw[aa7 h.1 h.2,bn,bn,a3R (by omega) (by omega),show(bt S i/16).toNat=(bt S i).toNat/16 by omega]
theorem Ik{i:Int}:((e2 (.bin .and) (uv (bt S i)) (uv 15)).bind λv=>((e2 (.bin .and) (uv (bt S i)) (uv 15)).bind λu=>e2 (.bin .add) u (uv 1)).bind (e3 .sub (sv [48,49,50,51,52,53,54,55,56,57,97,98,99,100,101,102]) v))=some (sv [o0 ((bt S i).toNat%16)]):=by have h:=M0 (S:=S) (i:=i);rw[aa6 h.1 h.2,bn,bn,a3R (by omega) (by omega),show(bt S i%16).toNat=(bt S i).toNat%16 by omega]
theorem ow{k v:Int}{w:B}{d:Dt}(h:∃t,(en T t [iv k,iv v,sv w,d]/\t.wf)/\t.words<=10000):∃t,en T t [iv k,iv v,sv w,d]/\iV d/\wf1 k v w t.l.length/\ln d=t.l.length/\(D3 t↔k=9\/ln d<=64):=by
 obtain⟨t,⟨a,b⟩,f⟩:=h;have q:=zC a;have e:=(pI a).1;have Y:=b;rw[e]at Y;have c:=jA a;refine⟨t,a,q.1,Vu Y,q.2,?_⟩;unfold D3;rw[c];constructor
 .rintro(h|h);exact .inl h;exact .inr (by omega)
 .rintro(h|h);exact .inl h;exact .inr (by omega)
end
def L6(a:B):Nat:=match tf.idxOf? a with|some i=>i+1|none=>0
section
variable{S a b u v:B}{m:Bool}{n:Int}{T:TypeId}
theorem O8(h:cut S [32]=(a,b,m)):lw S=L6 a:=by unfold lw;rw[h]<;>rfl
theorem Ur(h:cut S [32]=(a,b,m)):lr S=b:=by unfold lr;rw[h]
theorem Uu(h:cut S [32]=(a,b,m)):lm S=m:=by unfold lm;rw[h]
theorem bm{X:B}(h:cut S X=(a,b,m)):a.length<=S.length/\b.length<=S.length:=by
 unfold cut at h;split at h
 .injection h with I h;injection h with Y h;subst I;subst Y;simp only[c8,eV];omega
 .injection h with I h;injection h with Y h;subst I;subst Y;exact⟨bD _,wY _⟩
theorem nt1(h:cut u [32]=(a,b,false)):wh u:=.inl (by rw[h])
theorem nt2(h:cut u [32]=(a,b,m))(Y:tQ a=none):wh u:=.inr (.inl (by rw[h];exact Y))
theorem nt3(h:cut u [32]=(a,b,m))(Y:rd b=none):wh u:=.inr (.inr (by rw[h];exact Y))
theorem pb(e:¬4000<(S.length:Int))(c:cut S [32]=(a,b,m))(d:L6 a≠0)(h:m=false\/(L6 a=1/\ef b b.length)\/((L6 a=3\/L6 a=4)/\wh b)\/(L6 a≠1/\L6 a≠3/\L6 a≠4/\tQ b=none)):
  S.length<=4000/\lw S≠0/\(lm S=false\/(lw S=1/\ef (lr S) (lr S).length)\/((lw S=3\/lw S=4)/\wh (lr S))\/(lw S≠1/\lw S≠3/\lw S≠4/\tQ (lr S)=none)):=by
 rw[O8 c,Ur c,Uu c];exact⟨by omega,d,h⟩
theorem pn(f:¬4000<(S.length:Int))(d:cut S [32]=(a,b,true)){k:Int}(c:L6 a=k.toNat/\k=L6 a/\L6 a≠0/\L6 a≠1/\L6 a≠3/\L6 a≠4)(e:tQ b=some n):
  S.length<=4000/\lw S=k.toNat/\k=lw S/\lw S≠0/\lw S≠1/\lw S≠3/\lw S≠4/\lm S=true/\tQ (lr S)=some n:=by
 rw[O8 d,Ur d,Uu d];exact⟨by omega,c.1,c.2.1,c.2.2.1,c.2.2.2.1,c.2.2.2.2.1,c.2.2.2.2.2,rfl,e⟩
theorem ps{d:Dt}{s:B}(f:¬4000<(S.length:Int))(c:cut S [32]=(a,b,true))(e:L6 a=1)(h:∃l,iu T l d/\lO b s l):S.length<=4000/\lw S=1/\lm S=true/\∃l,iu T l d/\lO (lr S) s l:=by rw[O8 c,Ur c,Uu c];exact⟨by omega,e,rfl,h⟩
theorem pt{c:List Dt}(i:¬4000<(S.length:Int))(d:cut S [32]=(a,b,true)){k:Int}(f:k=L6 a/\(L6 a=3\/L6 a=4))(e:cut b [32]=(u,v,true))(g:tQ u=some n)(h:∃t,en T t c/\rd v=some t):
  S.length<=4000/\k=lw S/\(lw S=3\/lw S=4)/\lm S=true/\(cut (lr S) [32]).2.2=true/\tQ (cut (lr S) [32]).1=some n/\∃t,en T t c/\rd (cut (lr S) [32]).2.1=some t:=by
 rw[O8 d,Ur d,Uu d,e];exact⟨by omega,f.1,f.2,rfl,rfl,g,h⟩
theorem lw0(h:a ∉ tf)(d:¬4000<(S.length:Int))(c:cut S [32]=(a,b,m)):S.length<=4000/\lw S=0:=by refine⟨by omega,?_⟩;rw[O8 c];unfold L6;rw[List.idxOf?_eq_none_iff.2 h]
theorem py(h:u=S)(Y:u=itoa n)(W:n<=1073741824)(U:0<=n):tQ S=some n:=Bw.2 ⟨U,W,by rw[<-Y,h]⟩
theorem pN{n:Int}(h:atoiAll S=.ok n)(Y:0<=n->n<=1073741824->itoa n=S->False):tQ S=none:=by
 cases e:tQ S with
 |none=>rfl
 |some k=>
  obtain⟨a,b,c⟩:=Bw.1 e;rw[mN]at b;have:=xN (n:=k) (by omega) (by omega);rw[c,h]at this;injection this with this;subst this
  exact(Y a b c).elim
theorem pN1(h:atoiAll S=.ok n)(Y:u=itoa n)(W:¬u=S):tQ S=none:=pN h λ_ _ e=>W (Y.trans e)
theorem pN2(h:atoiAll S=.ok n)(Y:¬n<=1073741824):tQ S=none:=pN h λ_ b _=>Y b
theorem pN3(h:atoiAll S=.ok n)(Y:¬0<=n):tQ S=none:=pN h λb _ _=>Y b
theorem pN4(h:∀n:Int,atoiAll S≠.ok n):tQ S=none:=by
 cases e:tQ S with
 |none=>rfl
 |some k=>obtain⟨a,b,c⟩:=Bw.1 e;rw[mN]at b;exact(h k (by rw[<-c];exact xN (by omega) (by omega))).elim
end
def Hq(b:Nat):Option Dt->Option Dt->Option Dt->Prop
 |some (.ls _ J),some (.val (.int .i64 n)),some (.val (.string s))=>¬(0<=n/\n.toNat<=J.length/\(n.toNat+s.size)*b<=68719476736/\n.toNat+s.size<=68719476736)
 |_,_,_=>False
def YH:Option Dt->Prop
 |some (.val (.int _ n))=>¬0<n
 |_=>False
def NH:Option Dt->Option Dt->Prop
 |some (.ls _ J),some (.val (.int .i64 n))=>¬(0<n/\n.toNat<=J.length/\n<=1099511627776)
 |_,_=>False
section
variable{E:G}{nm:String}{x y z:SE}{b:Nat}
theorem sB:Fact.holds E (.rel nm false Rw [x])=YH (ax E x):=by
 apply propext;constructor
 .rintro⟨l,h,k,n,rfl,a⟩;simp only[cP,eW]at h;obtain⟨d0,c,g0,h,e⟩:=h;injection e with b e;subst b;subst e
  rw[g0];exact a
 .intro h;unfold YH at h;split at h
  .rename_i g0;exact⟨_,cP.2 ⟨_,_,g0,eW.2 rfl,rfl⟩,_,_,rfl,h⟩
  .exact h.elim
theorem sA:Fact.holds E (.rel nm false Zu [x,y])=NH (ax E x) (ax E y):=by
 apply propext;constructor
 .rintro⟨l,h,P,J,n,rfl,a⟩;simp only[cP,eW]at h;obtain⟨d0,d,g0,h,e⟩:=h;injection e with b e;subst b;subst e
  obtain⟨d1,f,g1,h,e⟩:=h;injection e with c e;subst c;subst e
  rw[g0,g1];exact a
 .intro h;unfold NH at h;split at h
  .rename_i g0 g1;exact⟨_,cP.2 ⟨_,_,g0,cP.2 ⟨_,_,g1,eW.2 rfl,rfl⟩,rfl⟩,_,_,_,rfl,h⟩
  .exact h.elim
theorem nz:Fact.holds E (.rel nm false (LN b) [x,y,z])=Hq b (ax E x) (ax E y) (ax E z):=by
 apply propext;constructor
 .rintro⟨l,h,P,J,n,s,rfl,a⟩;simp only[cP,eW]at h;obtain⟨d0,g,g0,h,e⟩:=h;injection e with c e;subst c;subst e
  obtain⟨d1,i,g1,h,e⟩:=h;injection e with d e;subst d;subst e
  obtain⟨d2,r2,g2,h,e⟩:=h;injection e with f e;subst f;subst e
  rw[g0,g1,g2];exact a
 .intro h;unfold Hq at h;split at h
  .rename_i g0 g1 g2;exact⟨_,cP.2 ⟨_,_,g0,cP.2 ⟨_,_,g1,cP.2 ⟨_,_,g2,eW.2 rfl,rfl⟩,rfl⟩,rfl⟩,_,_,_,_,rfl,h⟩
  .exact h.elim
theorem nh{k:IntKind}{n:Int}:YH (some (.val (.int k n)))=¬0<n:=rfl
theorem j4{l:B}{n:Int}:NH (some (bd l)) (some (iv n))=¬(0<n/\n<=l.length/\n<=1099511627776):=by apply propext;show¬_↔¬_;rw[jf];omega
theorem iY{l s:B}{n:Int}:Hq 1 (some (bd l)) (some (iv n)) (some (sv s))=¬(0<=n/\n<=l.length/\n+s.length<=68719476736):=by apply propext;show¬_↔¬_;rw[jf,show ByteArray.size (ByteArray.mk s.toArray)=s.length from rfl];omega
theorem jW{l s:B}{n:Int}{c:Prop}:Hq 1 (some (bd l)) (some (iv n)) (qJ c (some (sv s)))=(c/\¬(0<=n/\n<=l.length/\n+s.length<=68719476736)):=by
 by_cases h:c
 .rw[oK h,iY];simp[h]
 .simp[qJ,h,Hq]
theorem ng{l:B}{n:Int}{c:Prop}:NH (qJ c (some (bd l))) (some (iv n))=(c/\¬(0<n/\n<=l.length/\n<=1099511627776)):=by
 by_cases h:c
 .rw[oK h,j4];simp[h]
 .simp[qJ,h,NH]
end
section
variable{K:TypeId->List Kd}{T U:TypeId}{S a b:B}{l m:List Tm}{d d':Dt}{N:Nat}{t u:Tm}
def alA(K:TypeId->List Kd)(T:TypeId)(N:Nat)(a b:Dt):Prop:=E7 K T N [a,b]
theorem y0:E7 K T N=pS [.d,.d] (alA K T N):=by
 funext l;apply propext;constructor
 .intro h;have h':=h;obtain⟨a1,a2,k,c1,c2,c,z2,s1,s2,rfl, -⟩:=h';exact⟨_,_,rfl,_,_,rfl,rfl,h⟩
 .rintro⟨a,_,rfl,b,_,rfl,rfl,h⟩;exact h
def adw(K:TypeId->List Kd)(U:TypeId)(N:Nat)(s:B):Prop:=OL K [U] N [sv s]
theorem nH(b:K U=[.str]):OL K [U] N=pS [.s] (adw K U N):=by
 funext l;apply propext;constructor
 .intro h;have h':=h;obtain⟨⟨x,y,rfl,Z,a,rfl⟩, -⟩:=h';rw[b]at Z a
  match x,Z with
  | [e],_=>obtain⟨k,hk,c⟩:=a.1;obtain rfl:=ae hk;obtain⟨s,rfl⟩:=c;exact⟨s.data.toList,_,rfl,rfl,h⟩
 .rintro⟨s,_,rfl,rfl,h⟩;exact h
theorem NQ(a:K T=kT T){x:Option Addr}{c:Nat}{J:List Dt}(d:x=none->l.length=0/\c=0)(h:gr T l J):tN K T x l.length 4 J:=by
 refine⟨by rw[a];exact lj h,by rw[a];exact Ll a 0 h,λe=>⟨by rw[a]<;>rfl,?_⟩⟩;cases x with
 |none=>exact absurd (d rfl).1 e
 |some b=>exact⟨b,rfl⟩
theorem a9a(e:K T=kT T)(h:iu T l d)(h':iu T l d')(f:4*sizes l<N):alA K T N d d':=by obtain⟨x,c,J,rfl,I,Y⟩:=h;obtain⟨g,c',lS,rfl,b,a⟩:=h';exact⟨x,g,l.length,c,c',4,4,J,lS,rfl,NQ e I Y,NQ e b a,zo Y a,by rw[Gq Y];exact f⟩
theorem acr(h:lO S a l):4*sizes l<=8*S.length:=by
 obtain⟨p, -, -, -,h⟩:=h;have I:=(TR h).2;rw[ud]at I;have:=vF l;have Y:(S.drop (p+1)).length<=S.length:=by rw[eV];omega
 omega
theorem acE(h:rd S=some t):4*sizes t.l<=8*S.length:=by have I:=(TR h).2;have:=iL t;have:=a6U (t:=t);omega
theorem Z7:(lr S).length<=S.length:=(bm (S:=S) (X:=[32]) (a:=(cut S [32]).1) (b:=(cut S [32]).2.1) (m:=(cut S [32]).2.2) rfl).2
theorem a71:(cut S [32]).2.1.length<=S.length:=(bm (S:=S) (X:=[32]) (a:=(cut S [32]).1) (b:=(cut S [32]).2.1) (m:=(cut S [32]).2.2) rfl).2
theorem acg(g:K T=kT T)(i:S.length<=4000)(h:iu T l d)(f:lO (lr S) a l)(h':iu T m d')(c:lO (lr S) b m):alA K T 1073741824 d d':=by have e:=(F8 f c).2;subst e;have:=acr f;have:=Z7 (S:=S);exact a9a g h h' (by omega)
theorem acf(c:K T=kT T)(e:S.length<=4000){k n k' n':Int}{w M:B}(h:en T t [iv k,iv n,sv w,d])(b:rd (cut (lr S) [32]).2.1=some t)(h':en T u [iv k',iv n',sv M,d'])(a:rd (cut (lr S) [32]).2.1=some u):alA K T 1073741824 d d':=by rw[b]at a;obtain rfl:=ae a;have:=acE b;have:=Z7 (S:=S);have:=a71 (S:=lr S);exact a9a c (pJ h) (pJ h') (by omega)
theorem a2q{k n k' n':Int}{w M:B}(h:en T t [iv k,iv n,sv w,d])(i:rd (cut (lr S) [32]).2.1=some t)(h':en T u [iv k',iv n',sv M,d'])(f:rd (cut (lr S) [32]).2.1=some u):k=k'/\n=n'/\w=M:=by
 rw[i]at f;obtain rfl:=ae f;have e:=(pI h).1;have g:=(pI h').1;rw[e]at g;injection g with a b c _
 exact⟨a,b,c⟩
theorem a2y(d:lO S a l)(c:lO S b m):a=b:=(F8 d c).1
theorem acM(h:wh S)(I:(cut S [32]).2.2=true){n:Int}(Y:tQ (cut S [32]).1=some n)(W:rd (cut S [32]).2.1=some t):False:=by
 rcases h with h|h|h
 .rw[I]at h;cases h
 .rw[Y]at h;cases h
 .rw[W]at h;cases h
end
def sQ:B->List B
 | []=>[[]]
 |c::r=>if c=10 then []::sQ r else match sQ r with|h::t=>(c::h)::t| []=>[[c]]
def pre(w:B):List B->List B
 |h::t=>(w++h)::t
 | []=>[w]
theorem L8:∀S,∃h t,sQ S=h::t
 | []=>⟨_,_,rfl⟩
 |c::r=>by
  obtain⟨h,t,e⟩:=L8 r;unfold sQ;split
  .exact⟨_,_,rfl⟩
  .rw[e];exact⟨_,_,rfl⟩
theorem pre_nil(S:B):pre [] (sQ S)=sQ S:=by obtain⟨h,t,e⟩:=L8 S;rw[e]<;>rfl
theorem Zq{c:UInt8}{w r:B}(a:¬c=10):pre w (sQ (c::r))=pre (w++[c]) (sQ r):=by obtain⟨h,t,e⟩:=L8 r;rw[sQ,av a,e];simp[pre]
theorem a67{w r:B}:pre w (sQ (10::r))=w::sQ r:=by rw[sQ,aJ rfl];simp[pre]
theorem L9:∀(S:B),(index S [10]= -1/\sQ S=[S])\/∃i:Nat,index S [10]=i/\i<S.length/\sQ S=S.take i::sQ (S.drop (i+1))
 | []=>.inl ⟨rfl,rfl⟩
 |b::l=>by
  have d:([10]:B).isPrefixOf (b::l)=(10==b):=by simp[List.isPrefixOf]
  unfold index;rw[d];by_cases a:b=10
  .subst a;refine .inr ⟨0,by simp,by simp,?_⟩;rw[sQ,aJ rfl];simp
  .have c:(10==b)=false:=by simpa usingλh=>a h.symm
   rw[c];simp only[fa,br];rcases L9 l with⟨e,h⟩|⟨i,e,V,h⟩
   .refine .inl ⟨by rw[e]<;>rfl,?_⟩;rw[sQ,av a,h]
   .refine .inr ⟨i+1,?_,by simpa using V,?_⟩
    .rw[e,av (by simp)];simp
    .rw[sQ,av a,h];simp
def rest(S w:B)(i:Int):List B:=if i<=S.length then pre w (sQ (S.drop i.toNat))else []
section
variable{S w:B}{i:Int}
theorem a2T(e:0<=i)(I:i<S.length)(d:¬bt S i=10):rest S w i=rest S (w++[(S[i.toNat]?).getD 0]) (i+1):=by
 have a:i.toNat<S.length:=by omega
 have c:S[i.toNat]? =some S[i.toNat]:=dV a;have b:¬S[i.toNat]=10:=by intro h;apply d;unfold bt;simp[c,h]
 unfold rest;rw[aJ (by omega),aJ (by omega),AM a,Zq b,c];congr 3;omega
theorem a2S(e:0<=i)(I:i<S.length)(b:bt S i=10):rest S w i=w::rest S [] (i+1):=by
 have a:i.toNat<S.length:=by omega
 have c:S[i.toNat]? =some S[i.toNat]:=dV a;have d:S[i.toNat]=10:=by
  unfold bt at b;rw[c]at b;have:S[i.toNat].toNat=10:=by simp at b;omega
  exact hD.1 this
 unfold rest;rw[aJ (by omega),aJ (by omega),AM a,d,a67,pre_nil];congr 3;omega
theorem Y3(a:0<=i)(I:i<=S.length)(Y:¬i<S.length):rest S w i=w::rest S [] (i+1):=by unfold rest;rw[aJ I,av (by omega),List.drop_of_length_le (by omega)];simp[pre,sQ]
theorem Y2(h:¬i<=S.length):rest S w i=[]:=by unfold rest;rw[av h]
theorem VM:rest S [] 0=sQ S:=by unfold rest;rw[aJ (by omega)];exact pre_nil S
end
theorem TL{S w:B}{i:Int}(b:0<=i):(i<S.length/\¬bt S i=10/\rest S w i=rest S (w++(S.take (i+1).toNat).drop i.toNat) (i+1))\/(i<=S.length/\(i<S.length->bt S i=10)/\rest S w i=w::rest S [] (i+1))\/((S.length:Int)<i/\rest S w i=[]):=by
 by_cases I:i<S.length
 .by_cases a:bt S i=10
  .exact .inr (.inl ⟨by omega,λ_=>a,a2S b I a⟩)
  .refine .inl ⟨I,a,?_⟩;have c:i.toNat<S.length:=by omega
   have e:(S.take (i+1).toNat).drop i.toNat=[(S[i.toNat]?).getD 0]:=by rw[show(i+1).toNat=i.toNat+1 by omega,vt,EZ (by simp;omega),List.drop_of_length_le (by simp;omega),dV c];rfl
   rw[e];exact a2T b I a
 .by_cases Y:i<=S.length
  .exact .inr (.inl ⟨Y,λh=>absurd h I,Y3 b Y I⟩)
  .exact .inr (.inr ⟨by omega,Y2 Y⟩)
def dL(S:B):Prop:=4000<S.length
def dM(S:B):Prop:=S.length<=4000/\lw S=0
def dB(S:B):Prop:=S.length<=4000/\lw S≠0/\(lm S=false\/(lw S=1/\ef (lr S) (lr S).length)\/((lw S=3\/lw S=4)/\wh (lr S))\/(lw S≠1/\lw S≠3/\lw S≠4/\tQ (lr S)=none))
def dN(S:B)(k n:Int):Prop:=S.length<=4000/\lw S=k.toNat/\k=lw S/\lw S≠0/\lw S≠1/\lw S≠3/\lw S≠4/\lm S=true/\tQ (lr S)=some n
theorem xj:oC=pS [.s] dL:=rfl
theorem xh:me=pS [.s] dM:=rfl
theorem xk:bp=pS [.s] dB:=rfl
theorem xg:gW=pS [.s,.i,.i] dN:=rfl
def bad(S:B):Prop:=dL S\/dM S\/dB S
section
variable(T:TypeId)
def dS(S a:B)(d:Dt):Prop:=S.length<=4000/\lw S=1/\lm S=true/\∃l,iu T l d/\lO (lr S) a l
def dT(S:B)(k n k' n':Int)(w:B)(d:Dt):Prop:=S.length<=4000/\k=lw S/\(lw S=3\/lw S=4)/\lm S=true/\(cut (lr S) [32]).2.2=true/\tQ (cut (lr S) [32]).1=some n/\∃t,en T t [iv k',iv n',sv w,d]/\rd (cut (lr S) [32]).2.1=some t
theorem xf:oB T=pS [.s,.s,.d] (dS T):=rfl
theorem xe:mc T=pS [.s,.i,.i,.i,.i,.s,.d] (dT T):=rfl
def ZY:Dt:=.sl (.slice none 0 0) T 4 []
inductive Dd(S:B):List Dt->Prop
 |s {a d}:dS T S a d->Dd S [iv 1,iv 0,sv a,iv 0,iv 0,sv [],ZY T,d]
 |n {k n}:dN S k n->Dd S [iv k,iv n,sv [],iv 0,iv 0,sv [],ZY T,ZY T]
 |t {k n k' n' w d}:dT T S k n k' n' w d->Dd S [iv k,iv n,sv [],iv k',iv n',sv w,d,ZY T]
end
section
variable{T D:TypeId}{S:B}{c c':List Dt}{g g':List B}{e d:Dt}{m k:Int}{l:List B}{r r':Option Int}
theorem Dd.len (h:Dd T S c):c.length=8:=by cases h<;>rfl
theorem Dd.ZV (h:Dd T S c) (a:bad S):False:=by
 rcases a with I|I|I
 .unfold dL at I;cases h with
  |s h=>have:=h.1;omega
  |n h=>have:=h.1;omega
  |t h=>have:=h.1;omega
 .have e:=I.2;cases h with
  |s h=>have:=h.2.1;omega
  |n h=>exact h.2.2.2.1 e
  |t h=>rcases h.2.2.1 with h|h<;>omega
 .obtain⟨-,b,I⟩:=I;cases h with
  |s h=>
   obtain⟨-,Y,W,l, -,U⟩:=h;rcases I with I|⟨-,I⟩|⟨I, -⟩|⟨I, -⟩
   .rw[W]at I;cases I
   .exact VH I U
   .omega
   .exact I Y
  |n h=>
   obtain⟨-, -, -, -,Y,W,U,h5,h6⟩:=h;rcases I with I|⟨I, -⟩|⟨I, -⟩|⟨-, -, -,I⟩
   .rw[h5]at I;cases I
   .exact Y I
   .omega
   .rw[h6]at I;cases I
  |t h=>
   obtain⟨-, -,Y,W,U,h5,t, -,h6⟩:=h;rcases I with I|⟨I, -⟩|⟨-,I⟩|⟨-,I,h7, -⟩
   .rw[W]at I;cases I
   .omega
   .exact acM I U h5 h6
   .rcases Y with Y|Y
    .exact I Y
    .exact h7 Y
end
inductive fk(T:TypeId):List B->Int->List B->Option Int->Prop
 |nil {k}:fk T [] k [] none
 |UU {l k g r}:fk T l (k+1) g r->fk T ([]::l) k g r
 |bad {S l k}:¬S=[]->bad S->fk T (S::l) k [] (some k)
 |ok {S l k g r c}:¬S=[]->Dd T S c->fk T l (k+1) g r->fk T (S::l) k (S::g) r
section
variable{T D:TypeId}{S:B}{c c':List Dt}{g g':List B}{e d:Dt}{m k:Int}{l:List B}{r r':Option Int}
theorem YO(h:fk T l k g r):∀{g' r'},fk T l k g' r'->g=g'/\r=r':=by
 induction h with
 |nil=>intro g' r' h';cases h';exact⟨rfl,rfl⟩
 |UU h a=>intro g' r' h';cases h' with
  |UU h'=>exact a h'
  |bad I _=>exact absurd rfl I
  |ok I _ _=>exact absurd rfl I
 |bad I Y=>intro g' r' h';cases h' with
  |UU _=>exact absurd rfl I
  |bad _ _=>exact⟨rfl,rfl⟩
  |ok _ W _=>exact(W.ZV Y).elim
 |ok I Y h a=>intro g' r' h';cases h' with
  |UU _=>exact absurd rfl I
  |bad _ W=>exact(Y.ZV W).elim
  |ok _ _ h'=>obtain⟨rfl,rfl⟩:=a h';exact⟨rfl,rfl⟩
end
def kD(T:TypeId):List Kd:=[.int .i64,.int .i64,.str,.int .i64,.int .i64,.str,.sl T,.sl T]
theorem Wo{T:TypeId}{d:Dt}:e1 (.nl [.int .i64,.int .i64,.str,.int .i64,.int .i64,.str,.sl T,.sl T]) d=some (.ls (kD T) []):=rfl
inductive S1(T:TypeId):List B->List Dt->Prop
 |nil:S1 T [] []
 |cons {S g c r}:Dd T S c->S1 T g r->S1 T (S::g) (c++r)
def dQ(T:TypeId)(g:List B)(m:Int)(e:Dt):Prop:=∃J,e=.ls (kD T) J/\m=g.length/\S1 T g J
def jF(T D:TypeId)(g:List B)(d:Dt):Prop:=∃(a:Option Addr)(c:Nat)(J:List Dt),d=.sl (.slice a g.length c) D 8 J/\(a=none->g.length=0/\c=0)/\S1 T g J
def sn8(o:Option Dt)(b c d e f g h:Dt):Option Dt:=(((((((o.bind λu=>e2 .sn u b).bind λu=>e2 .sn u c).bind λu=>e2 .sn u d).bind λu=>e2 .sn u e).bind λu=>e2 .sn u f).bind λu=>e2 .sn u g).bind λu=>e2 .sn u h)
def a1M(x:Dt)(n:Int)(a b c d e f g h:Dt):Option Dt:=sn8 ((e2 (.tk 8) x (iv n)).bind λu=>e2 .sn u a) b c d e f g h
def a32(T:TypeId)(a b c d e f g h:Dt):Option Dt:=sn8 (e2 .sn (.ls (kD T) []) a) b c d e f g h
theorem Dj{x a b c d e f g h:Dt}{n:Int}:(((((((((e2 (.tk 8) x (iv n)).bind λu=>e2 .sn u a).bind λu=>e2 .sn u b).bind λu=>e2 .sn u c).bind λu=>e2 .sn u d).bind λu=>e2 .sn u e).bind λu=>e2 .sn u f).bind λu=>e2 .sn u g).bind λu=>e2 .sn u h)=a1M x n a b c d e f g h:=rfl
theorem Di{T:TypeId}{a b c d e f g h:Dt}:((((((((e2 .sn (.ls (kD T) []) a).bind λu=>e2 .sn u b).bind λu=>e2 .sn u c).bind λu=>e2 .sn u d).bind λu=>e2 .sn u e).bind λu=>e2 .sn u f).bind λu=>e2 .sn u g).bind λu=>e2 .sn u h)=a32 T a b c d e f g h:=rfl
section
variable{T D:TypeId}{S:B}{c c':List Dt}{g g' h h':List B}{e d:Dt}{m k:Int}{a0 a1 a2 a3 a4 a5 a6 a7:Dt}
theorem S1.len:∀{g:List B}{J:List Dt},S1 T g J->J.length=g.length*8
 |_,_,.nil=>rfl
 |_,_,.cons I Y=>by rw[cg,I.len,Y.len,cD];omega
theorem S1.snoc:∀{g:List B}{J:List Dt},S1 T g J->Dd T S c->S1 T (g++[S]) (J++c)
 |_,_,.nil,h=>by have:=S1.cons h .nil;simpa using this
 |_,_,.cons I Y,h=>by have:=S1.cons I (Y.snoc h);simpa using this
theorem S1.get:∀{g:List B}{J:List Dt},S1 T g J->∀(i:Nat)(S:B),g[i]? =some S->∃c,Dd T S c/\∀j d,c[j]? =some d->J[i*8+j]? =some d
 |_,_,.nil,i,S,V=>by cases V
 |_,_,.cons (c:=c) I Y,i,S,V=>by
  have f:=I.len;cases i with
  |zero=>
   simp only[dj,aD]at V;subst V;refine⟨c,I,λj d a=>?_⟩;have b:j<c.length:=by grind
   rw[mr,eD,AL b];exact a
  |succ i=>
   obtain⟨c',W,U⟩:=Y.get i S (by simpa using V);refine⟨c',W,λj d a=>?_⟩;rw[CD (by omega),f];have e:(i+1)*8+j-8=i*8+j:=by omega
   rw[e];exact U j d a
theorem NM{J:List Dt}{y:Dt}{i:Nat}{q:Kd}(h:J.length%8=i)(a:(kD T)[i]? =some q)(b:q.fits y):e2 .sn (.ls (kD T) J) y=some (.ls (kD T) (J++[y])):=by unfold e2;simp only;rw[aJ];refine⟨q,?_,b⟩;show(kD T)[J.length%8]? =_;rw[h];exact a
theorem JH{l:List Tm}(h:iu T l d):(Kd.sl T).fits d:=by obtain⟨a,c,J,rfl, -⟩:=h;exact⟨_,_,_,_,_,rfl⟩
theorem Dd.fits (h:Dd T S [a0,a1,a2,a3,a4,a5,a6,a7]):(Kd.int .i64).fits a0/\(Kd.int .i64).fits a1/\Kd.str.fits a2/\(Kd.int .i64).fits a3/\(Kd.int .i64).fits a4/\Kd.str.fits a5/\(Kd.sl T).fits a6/\(Kd.sl T).fits a7:=by
 have a:(Kd.sl T).fits (ZY T):=⟨_,_,_,_,_,rfl⟩;cases h with
 |s h=>obtain⟨-, -, -,l,h, -⟩:=h;exact⟨⟨_,rfl⟩,⟨_,rfl⟩,⟨_,rfl⟩,⟨_,rfl⟩,⟨_,rfl⟩,⟨_,rfl⟩,a,JH h⟩
 |n h=>exact⟨⟨_,rfl⟩,⟨_,rfl⟩,⟨_,rfl⟩,⟨_,rfl⟩,⟨_,rfl⟩,⟨_,rfl⟩,a,a⟩
 |t h=>obtain⟨-, -, -, -, -, -,t,h, -⟩:=h;exact⟨⟨_,rfl⟩,⟨_,rfl⟩,⟨_,rfl⟩,⟨_,rfl⟩,⟨_,rfl⟩,⟨_,rfl⟩,JH (pJ h),a⟩
theorem YI{J:List Dt}(h:Dd T S [a0,a1,a2,a3,a4,a5,a6,a7])(a:J.length%8=0):sn8 (e2 .sn (.ls (kD T) J) a0) a1 a2 a3 a4 a5 a6 a7=some (.ls (kD T) (J++[a0,a1,a2,a3,a4,a5,a6,a7])):=by obtain⟨f0,f1,f2,f3,f4,f5,f6,f7⟩:=h.fits;unfold sn8;rw[NM (i:=0) a rfl f0,bn];rw[NM (i:=1) (by simp;omega) rfl f1,bn];rw[NM (i:=2) (by simp;omega) rfl f2,bn];rw[NM (i:=3) (by simp;omega) rfl f3,bn];rw[NM (i:=4) (by simp;omega) rfl f4,bn];rw[NM (i:=5) (by simp;omega) rfl f5,bn];rw[NM (i:=6) (by simp;omega) rfl f6,bn];rw[NM (i:=7) (by simp;omega) rfl f7];simp
theorem ap8(c:dQ T g m e)(h:Dd T S [a0,a1,a2,a3,a4,a5,a6,a7]):tD (a1M e m a0 a1 a2 a3 a4 a5 a6 a7)/\dQ T (g++[S]) (m+1) (dO (a1M e m a0 a1 a2 a3 a4 a5 a6 a7)):=by
 obtain⟨J,rfl,rfl,a⟩:=c;have b:=a.len;have d:e2 (.tk 8) (.ls (kD T) J) (iv g.length)=some (.ls (kD T) J):=by show(if g.length*8<=J.length then some (Dt.ls (kD T) (J.take (g.length*8)))else none)=_;rw[aJ (by omega),gp (by omega)]
 have e:a1M (.ls (kD T) J) g.length a0 a1 a2 a3 a4 a5 a6 a7=some (.ls (kD T) (J++[a0,a1,a2,a3,a4,a5,a6,a7])):=by unfold a1M;rw[d,bn];exact YI h (by omega)
 rw[e];exact⟨kI.mpr trivial,_,rfl,by simp,a.snoc h⟩
theorem e7(h:Dd T S [a0,a1,a2,a3,a4,a5,a6,a7]):tD (a32 T a0 a1 a2 a3 a4 a5 a6 a7)/\dQ T [S] 1 (dO (a32 T a0 a1 a2 a3 a4 a5 a6 a7)):=by have e:a32 T a0 a1 a2 a3 a4 a5 a6 a7=some (.ls (kD T) ([]++[a0,a1,a2,a3,a4,a5,a6,a7])):=YI h rfl;rw[e];exact⟨kI.mpr trivial,_,rfl,rfl,S1.snoc .nil h⟩
theorem Oa(h:dQ T g m e):m=g.length:=by obtain⟨_, -,h, -⟩:=h;exact h
def WM(D:TypeId)(d e:Dt)(n:Int):Prop:=∃(a:Addr)(k c:Nat)(P:List Kd)(J:List Dt),d=.sl (.slice (some a) k c) D 8 (J.take (k*8))/\e=.ls P J/\n=k/\k*8<=J.length
theorem xK:Rv D 8=pS [.d,.d,.i] (WM D):=by
 funext l;apply propext;constructor
 .rintro⟨a,k,c,P,J,rfl,b⟩;exact⟨_,_,rfl,_,_,rfl,_,_,rfl,rfl,a,k,c,P,J,rfl,rfl,rfl,b⟩
 .rintro⟨_,_,rfl,_,_,rfl,_,_,rfl,rfl,a,k,c,P,J,rfl,rfl,rfl,b⟩;exact⟨a,k,c,P,J,rfl,b⟩
theorem Bc(j:WM D d e m)(l:dQ T g m e):jF T D g d:=by
 obtain⟨a,k,c,P,J,rfl,n,rfl,hk⟩:=j;obtain⟨lS,e1,e2,f⟩:=l;rw[n]at e1;injection e1 with _ e1;subst e1;have i:=f.len;have b:k=g.length:=by omega
 subst b;exact⟨some a,c,_,rfl,(λh=>by cases h),by rw[gp (by omega)];exact f⟩
theorem Bb:jF T D [] (.sl (.slice none 0 0) D 8 []):=⟨none,0,[],rfl,λ_=>⟨rfl,rfl⟩,.nil⟩
theorem jQ(h:jF T D g d):iV d/\ln d=g.length:=by obtain⟨a,c,J,rfl, -, -⟩:=h;exact⟨by simp[iV,e1],rfl⟩
theorem a5R{b:Nat}(a:dQ T g m e)(I:m<=100000)(c:b<=100000):¬Hr 8 b 1 e m:=by rintro⟨P,J,rfl,h⟩;obtain⟨lS,e1,rfl,d⟩:=a;injection e1 with _ e1;subst e1;have:=d.len;apply h;refine⟨by omega,by omega,?_,by omega⟩;have:(g.length+1)*b<=100001*100000:=Nat.mul_le_mul (by omega) c;simp only[tW];omega
theorem Q3(a:dQ T g m e):¬vG 8 e m:=by rintro⟨P,J,rfl,h⟩;obtain⟨lS,e1,rfl,b⟩:=a;injection e1 with _ e1;subst e1;have:=b.len;apply h;omega
end
def Ru(l:List Dt):Prop:=∃(s t:ByteArray)(n:Int),l=[.val (.string s),.val (.string t),.val (.int .i64 n)]/\n=index s.data.toList t.data.toList
theorem Da:Ru=pS [.s,.s,.i] λS X n=>n=index S X:=by
 funext l;apply propext;constructor
 .rintro⟨s,t,n,rfl,h⟩;exact⟨s.data.toList,_,rfl,t.data.toList,_,rfl,n,_,rfl,rfl,h⟩
 .rintro⟨S,_,rfl,X,_,rfl,n,_,rfl,rfl,h⟩;exact⟨⟨⟨S⟩⟩,⟨⟨X⟩⟩,n,rfl,h⟩
def xZq(N:Nat):PD:=pS [.s,.i] λS n=>0<=n/\n+S.length<=4200/\S.length<N
def h8:PD:=pS [.d] λ_=>False
section
variable(T D:TypeId)
def QH(N:Nat):PD:=pS [.s,.i,.i,.d] λS n m e=>0<=n/\n+S.length<=4200/\S.length<N/\m<=n/\∃g,dQ T g m e
def IG:PD:=pS [.s,.i] λS n=>fk T (sQ S) (n+1) [] none
def E4:PD:=pS [.s,.i,.i,.d,.i,.d] λS n m e m' a=>∀g,dQ T g m e->∃g',dQ T (g++g') m' a/\fk T (sQ S) (n+1) g' none
def zt:PD:=pS [.s,.i,.i] λS n k=>fk T (sQ S) (n+1) [] (some k)
def IH:PD:=pS [.s,.i,.i,.d,.i,.d,.i] λS n m e m' a k=>∀g,dQ T g m e->∃g',dQ T (g++g') m' a/\fk T (sQ S) (n+1) g' (some k)
def Qq:PD:=pS [.s,.i,.i,.d] λS n m' a=>∃g,dQ T g m' a/\fk T (sQ S) (n+1) g none
def Qp:PD:=pS [.s,.i,.i,.d,.i] λS n m' a k=>∃g,dQ T g m' a/\fk T (sQ S) (n+1) g (some k)
def Zk:PD:=pS [.s,.i,.s,.d] λS n a d=>∃L,Dd T L [iv 1,iv 0,sv a,iv 0,iv 0,sv [],ZY T,d]/\fk T (sQ S) (n+1) [L] none
def Zl:PD:=pS [.s,.i,.i,.i] λS n k v=>∃L,Dd T L [iv k,iv v,sv [],iv 0,iv 0,sv [],ZY T,ZY T]/\fk T (sQ S) (n+1) [L] none
def Zj:PD:=pS [.s,.i,.i,.i,.i,.i,.s,.d] λS n k v k' a w d=>∃L,Dd T L [iv k,iv v,sv [],iv k',iv a,sv w,d,ZY T]/\fk T (sQ S) (n+1) [L] none
def Ni(N:Nat):PD:=pS [.s,.s,.i,.i] λS w i k=>0<=i/\w.length<=i/\0<=k/\k<=i+1/\S.length+1-i<N
def FO(N:Nat):PD:=pS [.s,.s,.i,.i,.i,.d] λS w i k m e=>0<=i/\w.length<=i/\0<=k/\k<=i+1/\S.length+1-i<N/\m<=i/\∃g,dQ T g m e
def mC:PD:=pS [.s,.s,.i,.i,.d] λS w i k d=>∃g,jF T D g d/\fk T (rest S w i) k g none
def jR:PD:=pS [.s,.s,.i,.i,.d,.i] λS w i k d n=>∃g,jF T D g d/\fk T (rest S w i) k g (some n)
def jS:PD:=pS [.s,.s,.i,.i,.i,.d,.d] λS w i k m e d=>∀g,dQ T g m e->∃g',jF T D (g++g') d/\fk T (rest S w i) k g' none
def iw:PD:=pS [.s,.s,.i,.i,.i,.d,.d,.i] λS w i k m e d n=>∀g,dQ T g m e->∃g',jF T D (g++g') d/\fk T (rest S w i) k g' (some n)
def FP(N:Nat):PD:=pS [.d,.d,.i] λa b i=>ln a-i<N/\ln a<=4201/\∃g,jF T D g a/\jF T D g b
end
section
variable{T D:TypeId}{K:TypeId->List Kd}{S w:B}{g:List B}{a b:Dt}{i:Int}{x:Int}{c c':List Dt}
theorem Ut:∀S:B,(sQ S).length<=S.length+1
 | []=>by simp[sQ]
 |c::r=>by
  have a:=Ut r;obtain⟨h,t,e⟩:=L8 r;unfold sQ;split
  .simp;omega
  .rw[e]at a ⊢;simp at a ⊢;omega
theorem YP{l:List B}{k:Int}{r:Option Int}(h:fk T l k g r):g.length<=l.length:=by
 induction h with
 |nil=>simp
 |UU _ a=>simp;omega
 |bad _ _=>simp
 |ok _ _ _ a=>simp;omega
theorem a7y(Z:x=index S [10])(h:x<0):sQ S=[S]:=by
 rcases L9 S with⟨_,e⟩|⟨j,e, -⟩
 .exact e
 .omega
theorem a7z(Z:x=index S [10])(h:¬x<0):0<=x/\x<S.length/\sQ S=S.take x.toNat::sQ (S.drop (x+1).toNat):=by
 rcases L9 S with⟨e,_⟩|⟨j,e,I,Y⟩
 .omega
 .rw[e]at Z;subst Z;refine⟨by omega,by omega,?_⟩;rw[Y];simp only[tW];congr 3
theorem a3Q(Z:x=index S [10])(h:¬x<0)(b:(S.length:Int)<=4200):wr (x+0)=x/\wr (x+1)=x+1/\0<=x/\x<S.length/\sQ S=S.take x.toNat::sQ (S.drop (x+1).toNat):=by obtain⟨a,I,e⟩:=a7z Z h;exact⟨by rw[Int.add_zero];exact eF (by omega),eF (by omega),a,I,e⟩
theorem a0u(Z:x=index S [10])(a:(S.length:Int)<=4200):(x<0/\sQ S=[S])\/(wr (x+0)=x/\wr (x+1)=x+1/\0<=x/\x<S.length/\sQ S=S.take x.toNat::sQ (S.drop (x+1).toNat)):=by
 by_cases h:x<0
 .exact .inl ⟨h,a7y Z h⟩
 .exact .inr (a3Q Z h a)
def Two(K:TypeId->List Kd)(T:TypeId)(x y:List Dt):Prop:=∃(k n k' n':Int)(s F:B)(d d' e a:Dt),x=[iv k,iv n,sv s,iv k',iv n',sv F,d,e]/\y=[iv k,iv n,sv s,iv k',iv n',sv F,d',a]/\alA K T 1073741824 d d'/\alA K T 1073741824 e a
theorem Vk(a:K T=kT T):alA K T 1073741824 (ZY T) (ZY T):=a9a a jD jD (by decide)
theorem Dd.two (a:K T=kT T) (h:Dd T S c) (h':Dd T S c'):Two K T c c':=by
 cases h with
 |s h=>
  obtain⟨I,Y,W,l,U,h5⟩:=h;cases h' with
  |s h'=>obtain⟨-, -, -,m,h6,h7⟩:=h';obtain rfl:=a2y h5 h7;exact⟨_,_,_,_,_,_,_,_,_,_,rfl,rfl,Vk a,acg a I U h5 h6 h7⟩
  |n h'=>exact absurd Y h'.2.2.2.2.1
  |t h'=>rcases h'.2.2.1 with h|h<;>omega
 |n h=>
  cases h' with
  |s h'=>exact absurd h'.2.1 h.2.2.2.2.1
  |n h'=>obtain rfl:=h.2.2.1.trans h'.2.2.1.symm;have e:=h.2.2.2.2.2.2.2.2.symm.trans h'.2.2.2.2.2.2.2.2;obtain rfl:=ae e;exact⟨_,_,_,_,_,_,_,_,_,_,rfl,rfl,Vk a,Vk a⟩
  |t h'=>rcases h'.2.2.1 with I|I
         .exact absurd I h.2.2.2.2.2.1
         .exact absurd I h.2.2.2.2.2.2.1
 |t h=>
  obtain⟨I,Y,W, -, -,U,t,h5,h6⟩:=h;cases h' with
  |s h'=>have:=h'.2.1;rcases W with h|h<;>omega
  |n h'=>rcases W with I|I
         .exact absurd I h'.2.2.2.2.2.1
         .exact absurd I h'.2.2.2.2.2.2.1
  |t h'=>obtain⟨-,f, -, -, -,g,u,b,d⟩:=h';obtain rfl:=Y.trans f.symm;obtain rfl:=ae (U.symm.trans g);obtain⟨rfl,rfl,rfl⟩:=a2q h5 h6 b d;exact⟨_,_,_,_,_,_,_,_,_,_,rfl,rfl,acf a I h5 h6 b d,Vk a⟩
theorem ldD(h:jF T D g a){q:Nat}{c:List Dt}(b:q<g.length){J:List Dt}{z:Option Addr}{cp:Nat}(e:a=.sl (.slice z g.length cp) D 8 J)(f:z=none->g.length=0/\cp=0)(i:∀j d,c[j]? =some d->J[q*8+j]? =some d){j:Nat}{y:Dt}(k:c[j]? =some y):gT a (q:Int) j=some y:=by
 subst e;cases z with
 |none=>have:=(f rfl).1;omega
 |some z=>
  have:=i j y k;unfold gT;have e:e2 .el (.sl (.slice (some z) g.length cp) D 8 J) (iv (q:Int))=some (.pt (.pointer (some ⟨z.block,z.off+q*8,none⟩)) D 8 J (q*8) 0):=by show(if q<g.length then _ else none)=_;rw[aJ b]
  rw[e];show J[q*8+0+j]? =some y;rw[iF];exact this
theorem abC(u:K T=kT T)(l:jF T D g a)(t:jF T D g b)(v:0<=i)(I:i<ln a):∃(k n k' n':Int)(s F:B)(d d' e c:Dt),
  gT a i 0=some (iv k)/\gT a i 1=some (iv n)/\gT a i 2=some (sv s)/\gT a i 3=some (iv k')/\gT a i 4=some (iv n')/\gT a i 5=some (sv F)/\gT a i 6=some d/\gT a i 7=some e/\
  gT b i 0=some (iv k)/\gT b i 1=some (iv n)/\gT b i 2=some (sv s)/\gT b i 3=some (iv k')/\gT b i 4=some (iv n')/\gT b i 5=some (sv F)/\gT b i 6=some d'/\gT b i 7=some c/\alA K T 1073741824 d d'/\alA K T 1073741824 e c:=by
 obtain⟨q,rfl⟩:=fK v;rw[(jQ l).2]at I;have h:q<g.length:=by omega
 have m:=l;have o:=t;obtain⟨z,cp,J,e,w,C⟩:=l;obtain⟨N,E,lS,c,p,r⟩:=t;obtain⟨x,Z,G⟩:=C.get q _ (dV h);obtain⟨y,H,L⟩:=r.get q _ (dV h);obtain⟨k,n,k',n',s,F,d,d',f,M,rfl,rfl,Y,W⟩:=Z.two u H;have A:=λ{j y}=>ldD m h e w G (j:=j) (y:=y)
 have B:=λ{j y}=>ldD o h c p L (j:=j) (y:=y)
 exact⟨k,n,k',n',s,F,d,d',f,M,A rfl,A rfl,A rfl,A rfl,A rfl,A rfl,A rfl,A rfl,B rfl,B rfl,B rfl,B rfl,B rfl,B rfl,B rfl,B rfl,Y,W⟩
end
end Go.Proofs.YtokipodjggomfaaGreatDoor.Txt
namespace Go.Proofs.YtokipodjggomfaaGreatDoor.Abs
open Go.Proofs.YtokipodjggomfaaGreatDoor.Txt
section
def wG(u:jy)(f:Nat)(q:PD):bX:=
 { fn:=f,nt:=2,round:=none,t:=[(0,.cE .str (.var u.nG)),(1,.cE .str (.var (u.nG+1)))],todo:=[],n:=u.nG+2,pre:=[So u.F2 u.vm],
   facts:=[.rel "" false Wc [.var u.nG]],
   outs:=[{ res:=.cE (.int .i64) (.var (u.nG+2)),post:=[],facts:=[.rel "" false q [.var u.nG,.var (u.nG+1),.var (u.nG+2)]],m:=1 }] }
def TE(P:Program)(rd:jJ)(g:Nat)(st:LoopState)(pe:Option Code):Nat×CB:=(g,.loop st pe rd.f rd.nt [(2,.ptr (g+7) 0),(3,.ptr (g+8) 0),(4,.ptr (g+6) 0),(5,.ptr (g+5) 0)] [11] (j8 P rd.f 0).1 (j8 P rd.f 0).2 (g+1))
def cI(b:Nat)(v:AV):Nat×CB:=(b,.cells 3 [v] 0 false false)
def cS(b:Nat)(v:AV):Nat×CB:=(b,.cells 9 [v] 0 false false)
def Xj(b:Nat)(v:AV):Nat×CB:=(b,.cells 33 [v] 0 false false)
def vO(b n c:Nat):AV:=.iI b (.var n) (.var c)
def Jz(P:Program)(rd:jJ)(g:Nat):List (Nat×CB):=[TE P rd g .ready none,(g+1,.fV []),Xj (g+7) .dq,cI (g+8) (.int .i64 0)]
def TD(P:Program)(rd:jJ)(g n:Nat):List (Nat×CB):=[TE P rd g .done (some .ret),(g+1,.fV []),cI (g+8) (nv n)]
def a92(P:Program)(u:cA)(rd:jJ)(g s n:Nat):List (Nat×CB):=Jz P rd g++[cS (g+2) (.str [10]),cS (g+3) (o6 s),cI (g+4) (.int .i64 0),cI (g+5) (nv n)]++gm u.L
def a2A(P:Program)(a:jJ)(n:Nat)(pre:List (Nat×CB))(facts:List Fact)(outs:List ee)(g:Nat):bX:=fx P a 1 [(0,.yield g),(1,.ptr (g+2) 0),(2,.ptr (g+3) 0),(3,.ptr (g+4) 0)] n pre facts outs
def SI(P:Program)(u:cA)(a rd:jJ)(x pa b pb c:PD):bX:=
 let g:=u.L.nG
 let n:=g+15
 a2A P a n (a92 P u rd g (g+10) (g+11)++[Xj (g+6) (vO (g+9) (g+12) (g+13)),(g+9,.vec u.tD (.var (g+14)))])
  [short (g+10),rl x [g+10,g+11,g+12,g+14]]
  [{ res:=.ji [],post:=Jz P rd g++[cI (g+5) (nv n),Xj (g+6) (vO (g+9) (g+12) (g+13)),(g+9,.vec u.tD (.var (g+14)))],facts:=[rl pa [g+10,g+11]],m:=1 },
   { res:=.ji [],post:=Jz P rd g++[cI (g+5) (nv n),Xj (g+6) (vO (n+1) (n+2) (n+3)),(n+1,.vec u.tD (.var (n+4)))],facts:=[rl b [g+10,g+11,g+12,g+14,n+2,n+4]],m:=5 },
   { res:=.ji [],post:=TD P rd g n++[Xj (g+7) (vO (g+9) (g+12) (g+13)),(g+9,.vec u.tD (.var (g+14)))],facts:=[rl pb [g+10,g+11,n]],m:=1 },
   { res:=.ji [],post:=TD P rd g n++[Xj (g+7) (vO (n+1) (n+2) (n+3)),(n+1,.vec u.tD (.var (n+4)))],facts:=[rl c [g+10,g+11,g+12,g+14,n+2,n+4,n]],m:=5 }] g
def MN(P:Program)(u:cA)(a rd:jJ)(x pa b pb c pS pN pT:PD):bX:=
 let g:=u.L.nG
 let n:=g+11
 let one (cs:List AV) (nm:String) (p:PD) (m:Nat):ee:={ res:=.ji [],post:=Jz P rd g++[cI (g+5) (nv n),Xj (g+6) (.qY (n+1) 0 0 1 8),(n+1,.cells u.tD cs 0 false false)],facts:=[rl p ([g+9,g+10]++(List.range m).map (n+2+·))],m:=m+2 }
 a2A P a n (a92 P u rd g (g+9) (g+10)++[Xj (g+6) .dq]) [short (g+9),rl x [g+9,g+10]]
  [{ res:=.ji [],post:=Jz P rd g++[cI (g+5) (nv n),Xj (g+6) .dq],facts:=[rl pa [g+9,g+10]],m:=1 },
   { res:=.ji [],post:=Jz P rd g++[cI (g+5) (nv n),Xj (g+6) (vO (n+1) (n+2) (n+3)),(n+1,.vec u.tD (.var (n+4)))],facts:=[rl b [g+9,g+10,n+2,n+4]],m:=5 },
   { res:=.ji [],post:=TD P rd g n++[Xj (g+7) .dq],facts:=[rl pb [g+9,g+10,n]],m:=1 },
   { res:=.ji [],post:=TD P rd g n++[Xj (g+7) (vO (n+1) (n+2) (n+3)),(n+1,.vec u.tD (.var (n+4)))],facts:=[rl c [g+9,g+10,n+2,n+4,n]],m:=5 },
   one [.int .i64 1,.int .i64 0,o6 (n+2),.int .i64 0,.int .i64 0,.str [],.dq,.cE (.sl u.tT) (.var (n+3))] "" pS 2,
   one [nv (n+2),nv (n+3),.str [],.int .i64 0,.int .i64 0,.str [],.dq,.dq] "" pN 2,
   one [nv (n+2),nv (n+3),.str [],nv (n+4),nv (n+5),o6 (n+6),.cE (.sl u.tT) (.var (n+7)),.dq] "" pT 6] g
def SJ(P:Program)(u:cA)(a:jJ)(x b c:PD):bX:=
 let g:=u.L.nG
 fx P a 0 [(0,o6 (g+1)),(4,.iI g (.var (g+5)) (.var (g+6))),(5,o6 (g+2)),(6,nv (g+3)),(7,nv (g+4))] (g+8) [(g,.vec u.tD (.var (g+7)))]
  [short (g+1),short (g+2),vT (g+1) (g+4),rl x [g+1,g+2,g+4,g+3,g+5,g+7]]
  [{ res:=.ji [.cE (.sl u.tD) (.var (g+8)),.int .i64 0],post:=[],facts:=[rl b [g+1,g+2,g+4,g+3,g+5,g+7,g+8]],m:=1 },
   { res:=.ji [.cE (.sl u.tD) (.var (g+8)),nv (g+9)],post:=[],facts:=[rl c [g+1,g+2,g+4,g+3,g+5,g+7,g+8,g+9]],m:=2 }]
def MO(P:Program)(u:cA)(a:jJ)(x b c:PD):bX:=
 let g:=u.L.nG
 fx P a 0 [(0,o6 g),(4,.dq),(5,o6 (g+1)),(6,nv (g+2)),(7,nv (g+3))] (g+4) []
  [short g,short (g+1),vT g (g+3),rl x [g,g+1,g+3,g+2]]
  [{ res:=.ji [.cE (.sl u.tD) (.var (g+4)),.int .i64 0],post:=[],facts:=[rl b [g,g+1,g+3,g+2,g+4]],m:=1 },
   { res:=.ji [.cE (.sl u.tD) (.var (g+4)),nv (g+5)],post:=[],facts:=[rl c [g,g+1,g+3,g+2,g+4,g+5]],m:=2 }]
def SK(P:Program)(u:cA)(lw:jJ)(x z:PD):bX:=
 let g:=u.L.nG
 fx P lw 0 [(3,.cE (.sl u.tD) (.var g)),(5,.cE (.sl u.tD) (.var (g+1))),(7,nv (g+2))] (g+3) (gm u.L)
  [place g (g+2),.tr (.a2 (.bin .eql) (.a1 .len (.var g)) (.a1 .len (.var (g+1)))),rl x [g,g+1,g+2]]
  [{ res:=.bool true,post:=[],facts:=[],m:=0 },{ res:=.bool false,post:=[],facts:=[rl z [g]],m:=0 }]
variable{P:Program}{u:jy}
theorem Ww{f:Nat}(b:∃fn,P.funcs[f]? =some fn)(A:u.vm<P.globals.size)
  (h:∀(s sub:ByteArray)(m:Int)(w:World),s.size<4294967281->w.cell? ⟨u.vm,0,none⟩=some (.int .i64 m)->
    Calls P f #[.string s,.string sub] w λe M=>e=.returned (.int .i64 (Lib.index s.data.toList sub.data.toList))/\M=w):j3 P (wG u f Ru):=by
 refine tg b rfl (λo ho=>?_) λbase E g w j n B=>?_
 .grind[wG]
 .obtain⟨_,p,⟨s,rfl⟩,C⟩:=rH n (d:=0) (k:=.str) (e:=.var u.nG) rfl;obtain⟨_,D,⟨t,rfl⟩,G⟩:=rH n (d:=1) (k:=.str) (e:=.var (u.nG+1)) rfl;obtain rfl:=zE B C G;obtain⟨_,_,⟨m,rfl⟩,H⟩:=vz j (t:=u.F2) (k:=.int .i64) (e:=.var u.vm) (st:=true) A (PY (c:=wG u f Ru) (x:=So u.F2 u.vm) (l:=[]) rfl);obtain⟨-,ds,q,F,rfl,I⟩:=j.pc _ bB;simp only[jj,p,bn,cM,aD,pj,Dt.val.injEq,vv,fG]at q;subst q;refine wW (h s t m w I H) ?_;rintro e M ⟨rfl,rfl⟩;refine⟨⟨bD _,rfl,rfl,rfl,λ_ _ h=>h⟩,_,bB,[.int .i64 (Lib.index s.data.toList t.data.toList)],_,rfl,?_,λi a J=>?_,rfl⟩
  .intro v r;simp only[cC,fJ,fm]at r;subst r;rfl
  .have y:ax i (.var (u.nG+2))=some (.val (.int .i64 (Lib.index s.data.toList t.data.toList))):=J 0 _ rfl;refine⟨λf z=>?_,ir y ⟨_,rfl⟩⟩;simp only[cC,fJ,fm]at z;subst z;exact⟨rfl,_,by simp only[jj,bG a _ _ p,bG a _ _ D,y,bn,cM],s,t,_,rfl,rfl⟩
end
end Go.Proofs.YtokipodjggomfaaGreatDoor.Abs
