/- Part 3 of an abstract machine that evaluates programs of the model in the kernel, and of the proofs that its run is the model's. Conditions: those of each theorem. -/
import Derived.Test.YtokipodjggomfaaGreatDoorAbs2
import Derived.WideLaws
import Derived.Laws.Strings
import Derived.Laws.StructEq
set_option linter.unusedVariables false
set_option linter.unusedSimpArgs false
namespace Go.Proofs.YtokipodjggomfaaGreatDoor.Abs
open Go
section
variable{C:Ctx}{base:Nat}{E:G}{s:S}{w:World}{nt:Nat}{t:Tr AV}{a:Act}
theorem Se(op:BinOp)(a:bj op=false)(k:IntKind)(x y:Int)(ty:TypeId)(P:Program)(w:World):
  (intOp op k x y).path (λv=>∃c,ag E v=some c/\(binOp op ty (.int k x) (.int k y)).run P w=.ok c w):=by
 cases op<;>first|(cases a;done)|skip
 case quo=>
  show(match decide (y=0)with|true=>R.bad _|false=>R.ok (AV.int k (k.wrap (x.tdiv y)))).path _;cases h:decide (y=0)
  .exact⟨_,rfl,by simp[binOp,Op.intDiv,gp h]⟩
  .trivial
 case rem=>
  show(match decide (y=0)with|true=>R.bad _|false=>R.ok (AV.int k (x.tmod y))).path _;cases h:decide (y=0)
  .exact⟨_,rfl,by simp[binOp,Op.intDiv,gp h]⟩
  .trivial
 all_goals first
  |(refine⟨_,rfl,?_⟩;simp[binOp,Op.intArith];done)
  |(refine⟨_,rfl,?_⟩;simp only[binOp,ne_eq,tV,aQ];rfl)
  |(refine⟨_,rfl,?_⟩;simp[binOp,Op.intCmp];done)
  |trivial
theorem IZ(op:BinOp)(a:bj op=true)(k k':IntKind)(x y:Int)(ty:TypeId)(P:Program)(w:World):
  (shiftOp op k x y).path (λv=>∃c,ag E v=some c/\(binOp op ty (.int k x) (.int k' y)).run P w=.ok c w):=by
 unfold shiftOp;cases h:decide (y<0)
 .have b:=gp h;cases op<;>simp only[bj,dY]at a
  .exact⟨_,rfl,by simp[binOp,Op.shift,b]⟩
  .exact⟨_,rfl,by simp[binOp,Op.shift,b]⟩
 .trivial
theorem gL:∀(x y:List UInt8),dp x y=true↔x=y
 | [],[]=>by simp[dp]
 | [],_::_=>by simp[dp]
 |_::_,[]=>by simp[dp]
 |a::x,b::y=>by
  simp only[dp];cases h:Nat.beq a.toNat b.toNat
  .simp only[dY,nb,false_iff];rintro⟨rfl,_⟩;simp at h
  .have:a.toNat=b.toNat:=aL h;have c:a=b:=fX.1 this;simp only[c,nb,fw];exact gL x y
theorem zi(x y:List UInt8):dp x y=(x==y):=by grind[gL]
theorem C7:∀(x y:List UInt8),jr x y=Op.bytesLess x y
 |x,[]=>by cases x<;>simp[jr,Op.bytesLess]
 | [],_::_=>by simp[jr,Op.bytesLess]
 |a::x,b::y=>by
  simp only[jr,Op.bytesLess];have e1:Nat.blt a.toNat b.toNat=decide (a<b):=by rw[vm,rG];simp[UInt8.lt_iff_toNat_lt]
  have e2:Nat.beq a.toNat b.toNat=(a==b):=by
   rw[vm];constructor
   .intro h;have:=aL h;simpa using fX.1 this
   .intro h;have:a=b:=by simpa using h
    subst this;simp
  rw[e1,e2,C7 x y];cases decide (a<b)<;>cases(a==b)<;>simp
theorem SN(x y:List UInt8):(ByteArray.mk ⟨x⟩++ByteArray.mk ⟨y⟩)=ByteArray.mk ⟨x++y⟩:=by apply ByteArray.ext;simp
theorem Ra(op:BinOp)(x y:List UInt8)(ty:TypeId)(P:Program)(w:World):
  (strOp op x y).path (λv=>∃c,ag E v=some c/\(binOp op ty (.string ⟨⟨x⟩⟩) (.string ⟨⟨y⟩⟩)).run P w=.ok c w):=by
 cases op<;>simp only[strOp]
 case add=>
  cases h:Nat.ble (Nat.add x.length y.length) 1099511627776
  .trivial
  .have b:x.length+y.length<=1099511627776:=bn h;refine⟨_,rfl,?_⟩;have a:¬(((ByteArray.mk ⟨x⟩).size+(ByteArray.mk ⟨y⟩).size:Nat):Int)>IntKind.i64.max:=by
    have:IntKind.i64.max=9223372036854775807:=by decide
    rw[this];have e1:(ByteArray.mk ⟨x⟩).size=x.length:=rfl;have e2:(ByteArray.mk ⟨y⟩).size=y.length:=rfl;rw[e1,e2];omega
   simp only[binOp,Op.stringOp,ai a,SN];rfl
 all_goals first
  |(refine⟨_,rfl,?_⟩;simp[binOp,Op.stringOp,zi,C7];done)
  |trivial
end
end Go.Proofs.YtokipodjggomfaaGreatDoor.Abs
namespace Go.Proofs.YtokipodjggomfaaGreatDoor.Abs
open Go
section
variable{C:Ctx}{base:Nat}{E:G}{s:S}{w:World}{nt:Nat}{t:Tr AV}{a:Act}
theorem Dz(P:Program)(b i j:Nat)(w:World):(sameAddr ⟨b,i,none⟩ ⟨b,j,none⟩).run P w=.ok (Nat.beq i j) w:=by
 have h:(({ block:=b,off:=i,spot:=none }:Addr)==⟨b,j,none⟩)=Nat.beq i j:=by
  rw[vm];constructor
  .intro h;have:=bq h;simp at this;subst this;simp
  .intro h;have:=aL h;subst this;simp
 simp[sameAddr,h]
theorem CN(t:Good C){base:Nat}{s:S}(Q:Rel C base E s w):∀(d n:Nat),d<=n->∀(ty:TypeId)(x y:AV)(u v:Value),ag E x=some u->ag E y=some v->
  (M6 C s d ty x y).path (λb=>(Op.equalIn n ty u v).run C.P w=.ok b w)
 |0,_,_,_,_,_,_,_,_,_=>trivial
 |d+1,0,h,_,_,_,_,_,_,_=>absurd h (by omega)
 |d+1,n+1,h,ty,x,y,u,v,Y,c=>by
  unfold M6;refine R.bh _ (bw t ty) λq T=>?_
  have a:∀(f:TypeDesc->Sem Bool),((underlying ty)>>=f).run C.P w=(f q).run C.P w:=by intro f;rw[aA,eQ T];rfl
  cases q with
  |int k0=>
   cases x<;>cases y<;>first|trivial|skip
   rename_i k m k' m';simp only[ag,ar]at Y c;subst Y;subst c;show(match decide (k=k')with|true=>R.ok (decide (m=m'))|false=>R.bad _).path _;cases Z:decide (k=k')
   .trivial
   .have z:=bq Z;show Sem.run C.P _ w=_;rw[Op.equalIn,a];simp only[z,aH];rfl
  |pointer e=>
   cases x<;>cases y<;>first|trivial|skip
   .rename_i b i N j;refine R.bh _ (bY t e) λU V=>?_
    refine R.bh _ (R.aI _ _) λ_ A=>?_
    simp only[fY]at A;have B:U.size≠0:=by intro h;rw[h]at A;exact absurd A (by simp)
    simp only[ag,aN]at Y c;obtain⟨l,D,rfl⟩:=Y;obtain⟨O,r,rfl⟩:=c;show(match Nat.beq b N with|true=>R.ok (Nat.beq i j)|false=>R.bad _).path _;cases F:Nat.beq b N
    .trivial
    .have G:b=N:=aL F;subst G;rw[D]at r;obtain rfl:=ae r;show Sem.run C.P _ w=_;rw[Op.equalIn,a];simp only[aA,V.2.size w,aP,ne_eq,B,vv,aH];rw[Dz];have:Nat.beq (l.dl+i) (l.dl+j)=Nat.beq i j:=by
      rw[vm];simp
     rw[this]
   .simp only[ag,aN,ar]at Y c;obtain⟨l,D,rfl⟩:=Y;subst c;show Sem.run C.P _ w=_;rw[Op.equalIn,a];rfl
   .simp only[ag,ar]at Y c;subst Y;subst c;show Sem.run C.P _ w=_;rw[Op.equalIn,a];rfl
  |interface ms=>
   cases x<;>cases y<;>first|trivial|skip
   .rename_i g H o I;simp only[ag,aN]at Y c;obtain⟨W,J,rfl⟩:=Y;obtain⟨X,K,rfl⟩:=c;show(match Nat.beq g o with|false=>R.bad _|true=>_).path _;cases G:Nat.beq g o
    .trivial
    .have he:g=o:=aL G;subst he;show(match C.P.types[g]? with|some i=>(match i.comparable with|true=>M6 C s d g H I|false=>R.bad _)|none=>R.bad _).path _;cases ht:C.P.types[g]? with
     |none=>trivial
     |some i=>
      have L:g<C.P.types.size:=by grind
      have p:C.P.info? g=some i:=by show Tables.info? _ g=_;unfold Tables.info?;rw[az L];exact ht
      show(match i.comparable with|true=>M6 C s d g H I|false=>R.bad _).path _;cases hc:i.comparable
      .trivial
      .refine R.aE ?_ (CN t Q d n (by omega) g H I W X J K);intro b M;rw[Op.equalIn,a];simp[typeInfo,p,hc,M]
   .simp only[ag,aN,ar]at Y c;obtain⟨l,D,rfl⟩:=Y;subst c;show Sem.run C.P _ w=_;rw[Op.equalIn,a];rfl
   .simp only[ag,ar]at Y c;subst Y;subst c;show Sem.run C.P _ w=_;rw[Op.equalIn,a];rfl
  |_=>trivial
theorem y9(op:BinOp)(ty:TypeId)(a b:Operand)(x y:AV)(d e:Value)(Y:ag E x=some d)(c:ag E y=some e)(f:isRef x=true)(g:isRef y=true):
  (CO (cg a||cg b) x y).path (λ_=>(eqGuard op ty a b d e).run C.P w=.ok () w):=by
 cases x<;>first|(cases f;done)|skip
 all_goals(cases y<;>first|(cases g;done)|skip)
 all_goals simp only[ag,aN,ar]at Y c
 all_goals first
  |(obtain⟨_,_,rfl⟩:=Y;obtain⟨_,_,rfl⟩:=c;show(eqGuard op ty a b _ _).run C.P w=_;cases op<;>rfl)
  |(obtain⟨_,_,rfl⟩:=Y;subst c;show(eqGuard op ty a b _ _).run C.P w=_;cases op<;>rfl)
  |(subst Y;obtain⟨_,_,rfl⟩:=c;show(eqGuard op ty a b _ _).run C.P w=_;cases op<;>rfl)
  |(subst Y;subst c;show(eqGuard op ty a b _ _).run C.P w=_;cases op<;>rfl)
  |(subst Y;subst c;refine R.aE ?_ (R.aI _ _);intro _ h;cases op<;>first|rfl|(cases a<;>cases b<;>first|rfl|(exfalso;simp[cg]at h;done)))
theorem Jl{x:AV}{c:Value}(h:isRef x=true)(Y:ag E x=some c):(∃p,c=.pointer p)\/c=.nilIface\/∃t v,c=.iface t v:=by
 cases x<;>first|(cases h;done)|skip
 all_goals simp only[ag,aN,ar]at Y
 all_goals first|(obtain⟨_,_,rfl⟩:=Y;simp;done)|(subst Y;simp;done)
end
end Go.Proofs.YtokipodjggomfaaGreatDoor.Abs
namespace Go.Proofs.YtokipodjggomfaaGreatDoor.Abs
open Go
section
variable{C:Ctx}{base:Nat}{E:G}{s:S}{w:World}{nt:Nat}{t:Tr AV}{a:Act}
theorem dF:∀{a b:List Kd},kR a b=true->a=b
 | [],[],_=>rfl
 | [],_::_,h=>by cases h
 |_::_,[],h=>by cases h
 |a::x,b::y,h=>by
  simp only[kR,aw]at h;rw[iH h.1,dF h.2]
theorem y0:∀{a b:List Nat},G2 a b=true->a=b
 | [],[],_=>rfl
 | [],_::_,h=>by cases h
 |_::_,[],h=>by cases h
 |a::x,b::y,h=>by
  simp only[G2,aw]at h;rw[aL h.1,y0 h.2]
theorem xU{a b:QV}(h:IU a b=true):a=b:=by
 cases a<;>cases b<;>first|rfl|(cases h;done)|skip
 .rw[bq (show decide _=true from h)]
 .rw[bq (show decide _=true from h)]
 .rw[dP h]
 .rw[aL h]
 .rw[aL h]
 .rw[aL h]
 .simp only[IU,aw]at h;rw[aL h.1,aL h.2]
 .rw[dF h]
 .simp only[IU,aw]at h;rw[aL h.1,aL h.2]
 .simp only[IU,aw]at h;rw[dF h.1,y0 h.2]
 .simp only[IU,aw]at h;rw[aL h.1,aL h.2]
theorem aK:∀{a b:SE},b5 a b=true->a=b
 | .var i,b,h=>by
   cases b<;>first|(cases h;done)|skip
   rw[aL h]
 | .int k n,b,h=>by
   cases b<;>first|(cases h;done)|skip
   simp only[b5,aw]at h;rw[dP h.1,bq (show decide _=true from h.2)]
 | .bool x,b,h=>by
   cases b<;>first|(cases h;done)|skip
   rw[eq_of_beq (show(x==_)=true from h)]
 | .str x,b,h=>by
   cases b<;>first|(cases h;done)|skip
   rw[(gL _ _).1 h]
 | .a1 o x,b,h=>by
   cases b<;>first|(cases h;done)|skip
   simp only[b5,aw]at h;rw[xU h.1,aK h.2]
 | .a2 o x y,b,h=>by
   cases b<;>first|(cases h;done)|skip
   simp only[b5,aw]at h;rw[xU h.1.1,aK h.1.2,aK h.2]
 | .a3 o x y z,b,h=>by
   cases b<;>first|(cases h;done)|skip
   simp only[b5,aw]at h;rw[xU h.1.1.1,aK h.1.1.2,aK h.1.2,aK h.2]
theorem q0{E:G}{e:SE}{b:Bool}:∀{l:List Fact},(∀f∈l,f.holds E)->ma e l=some b->aj E e=some (.val (.bool b))
 | [],_,h=>by cases h
 |f::l,a,h=>by
  have rest:=λ(c:ma e l=some b)=>q0 (l:=l) (λf d=>a f (bk _ d)) c
  unfold ma at h;cases f with
  |tr x=>
   simp only at h;cases Y:b5 x e with
   |true=>rw[Y]at h;obtain rfl:=ae h;rw[<-aK Y];exact a (.tr x) aV
   |false=>rw[Y]at h;exact rest h
  |fl x=>
   simp only at h;cases Y:b5 x e with
   |true=>rw[Y]at h;obtain rfl:=ae h;rw[<-aK Y];exact a (.fl x) aV
   |false=>rw[Y]at h;exact rest h
  |inr _ _=>exact rest h
  |rel _ _ _ _=>exact rest h
def uW(op:BinOp)(a c:Int):Bool:=
 match op with
 | .eql=>decide (a=c)
 | .neq=> !decide (a=c)
 | .lss=>decide (a<c)
 | .leq=>decide (a<=c)
 | .gtr=>decide (c<a)
 | .geq=>decide (c<=a)
 |_=>false
theorem W4{q:BinOp}(f:mc q=true){a b:Value}{d:Dt}(h:dW q a b=some d){k:IntKind}{c:Int}(g:b=.int k c):∃n,a=.int k n/\d=.val (.bool (uW q n c)):=by
 subst g;cases a<;>first|(cases h;done)|skip
 rename_i k' n;have i:bj q=false:=by cases q<;>first|rfl|(cases f;done)
 simp only[dW,i]at h;split at h
 .next e=>
  subst e;refine⟨n,rfl,?_⟩;cases q<;>first|(cases f;done)|(simp only[intOp,okV,ar]at h;rw[<-h];rfl)
 .cases h
theorem SI{q:BinOp}(f:mc q=true){a b:Value}{d:Dt}(h:dW q a b=some d){k:IntKind}{c:Int}(g:a=.int k c):∃n,b=.int k n/\d=.val (.bool (uW (HD q) n c)):=by
 subst g;cases b<;>first|(cases h;done)|skip
 rename_i k' n;have i:bj q=false:=by cases q<;>first|rfl|(cases f;done)
 simp only[dW,i]at h;split at h
 .next e=>
  subst e;refine⟨n,rfl,?_⟩;cases q<;>first|(cases f;done)|(simp only[intOp,okV,ar]at h;rw[<-h];simp only[HD,uW,eq_comm])
 .cases h
theorem oq{E:G}{e x:SE}{op:BinOp}{k:IntKind}{c:Int}(h:DQ e=some (op,x,k,c)){d:Dt}(f:aj E e=some d):∃a,aj E x=some (.val (.int k a))/\d=.val (.bool (uW op a c)):=by
 cases e<;>first|(cases h;done)|skip
 rename_i o u v;cases o<;>first|(cases h;done)|skip
 rename_i q;simp only[DQ]at h;cases j:mc q with
 |false=>rw[j]at h;cases h
 |true=>
  rw[j]at h;simp only[aj,bW]at f;obtain⟨l,g,m,i,f⟩:=f;simp only[e2]at f;cases l<;>first|(cases f;done)|skip
  cases m<;>first|(cases f;done)|skip
  rename_i a b;simp only at h f;have right:∀k' c',v=.int k' c'->(q,u,k',c')=(op,x,k,c)->∃a,aj E x=some (.val (.int k a))/\d=.val (.bool (uW op a c)):=by intro k' c' e1 e2;cases e2;subst e1;have i:=ae i;injection i with i;obtain⟨n,rfl,I⟩:=W4 j f i.symm;exact⟨n,g,I⟩
  have left:∀k' c',u=.int k' c'->(HD q,v,k',c')=(op,x,k,c)->∃a,aj E x=some (.val (.int k a))/\d=.val (.bool (uW op a c)):=by intro k' c' e1 e2;cases e2;subst e1;have g:=ae g;injection g with g;obtain⟨n,rfl,I⟩:=SI j f g.symm;exact⟨n,i,I⟩
  cases v with
  |int k' c'=>exact right k' c' rfl (ae h)
  |_=>cases u with
   |int k' c'=>exact left k' c' rfl (ae h)
   |_=>cases h
def Le(a:Int)(m:La):Prop:=(∀n,m.1=some n->n<=a)/\∀n,m.2=some n->a<=n
theorem n6{o:Option Int}{a n:Int}(h:∀m,o=some m->m<=a)(c:n<=a):∀m,y1 o n=some m->m<=a:=by
 intro m b;cases o with
 |none=>obtain rfl:=ae b;exact c
 |some q=>
  simp only[y1]at b;cases d:decide (q<n)<;>rw[d]at b
  .exact h m b
  .obtain rfl:=ae b;exact c
theorem oa{o:Option Int}{a n:Int}(h:∀m,o=some m->a<=m)(c:a<=n):∀m,y5 o n=some m->a<=m:=by
 intro m b;cases o with
 |none=>obtain rfl:=ae b;exact c
 |some q=>
  simp only[y5]at b;cases d:decide (n<q)<;>rw[d]at b
  .exact h m b
  .obtain rfl:=ae b;exact c
theorem Kl{a:Option Int}{c:Int}(h:isO a c=true):a=some c:=by
 cases a with
 |none=>cases h
 |some m=>rw[bq (show decide (m=c)=true from h)]
theorem Eb{a c:Int}{m:La}(h:Le a m)(d:a≠c):Le a (FY c m):=by
 refine⟨λn b=>?_,λn b=>?_⟩
 .have b:(match isO m.1 c with|true=>some (c+1)|false=>m.1)=some n:=b;cases V:isO m.1 c with
  |true=>rw[V]at b;obtain rfl:=ae b;have:=h.1 c (Kl V);omega
  |false=>rw[V]at b;exact h.1 n b
 .have b:(match isO m.2 c with|true=>some (c-1)|false=>m.2)=some n:=b;cases V:isO m.2 c with
  |true=>rw[V]at b;obtain rfl:=ae b;have:=h.2 c (Kl V);omega
  |false=>rw[V]at b;exact h.2 n b
theorem a0u{op:BinOp}{b:Bool}{a c:Int}{m:La}(h:Le a m)(f:uW op a c=b):Le a (a67 op b c m):=by
 subst f;cases op<;>first|exact h|skip
 .show Le a (match decide (a=c)with|true=>_|false=>_);cases d:decide (a=c)
  .exact Eb h (gp d)
  .have e:=bq d;exact⟨n6 h.1 (by omega),oa h.2 (by omega)⟩
 .show Le a (match !decide (a=c)with|false=>_|true=>_);cases d:decide (a=c)
  .exact Eb h (gp d)
  .have e:=bq d;exact⟨n6 h.1 (by omega),oa h.2 (by omega)⟩
 .show Le a (match decide (a<c)with|true=>_|false=>_);cases d:decide (a<c)
  .have e:=gp d;exact⟨n6 h.1 (by omega),h.2⟩
  .have e:=bq d;exact⟨h.1,oa h.2 (by omega)⟩
 .show Le a (match decide (a<=c)with|true=>_|false=>_);cases d:decide (a<=c)
  .have e:=gp d;exact⟨n6 h.1 (by omega),h.2⟩
  .have e:=bq d;exact⟨h.1,oa h.2 (by omega)⟩
 .show Le a (match decide (c<a)with|true=>_|false=>_);cases d:decide (c<a)
  .have e:=gp d;exact⟨h.1,oa h.2 (by omega)⟩
  .have e:=bq d;exact⟨n6 h.1 (by omega),h.2⟩
 .show Le a (match decide (c<=a)with|true=>_|false=>_);cases d:decide (c<=a)
  .have e:=gp d;exact⟨h.1,oa h.2 (by omega)⟩
  .have e:=bq d;exact⟨n6 h.1 (by omega),h.2⟩
theorem E0{E:G}{x e:SE}{k:IntKind}{a:Int}(Y:aj E x=some (.val (.int k a))){b:Bool}(f:aj E e=some (.val (.bool b))){m:La}(h:Le a m):Le a (u6 x k e b m):=by
 unfold u6;cases g:DQ e with
 |none=>exact h
 |some p=>
  obtain⟨op,y,k',c⟩:=p;simp only;cases d:n9 k k'&&b5 x y with
  |false=>exact h
  |true=>simp only[aw]at d;obtain rfl:=dP d.1;obtain rfl:=aK d.2;obtain⟨a',A,I⟩:=oq g f;rw[Y]at A;have A:=ae A;injection A with A;injection A with _ A;subst A;injection I with I;injection I with I;exact a0u h I.symm
theorem ou{E:G}{x:SE}{k:IntKind}{a:Int}(Y:aj E x=some (.val (.int k a))):∀{l:List Fact}{m:La},(∀f∈l,f.holds E)->Le a m->Le a (mo x k l m)
 | [],_,_,h=>h
 |f::l,m,d,h=>by
  have c:=λf i=>d f (bk _ i)
  have g:=d f aV;have b:=ou (l:=l) Y c h;cases f with
  |tr e=>exact E0 Y g b
  |fl e=>exact E0 Y g b
  |inr _ _=>exact b
  |rel _ _ _ _=>exact b
theorem VG{o:Option Int}{n:Int}(h:EG o n=true):∃m,o=some m/\m<=n:=by
 cases o with
 |none=>cases h
 |some m=>exact⟨m,rfl,bq h⟩
theorem Ku{o:Option Int}{n:Int}(h:HA o n=true):∃m,o=some m/\n<=m:=by
 cases o with
 |none=>cases h
 |some m=>exact⟨m,rfl,bq h⟩
theorem u5{op:BinOp}{c a:Int}{m:La}{b:Bool}(V:Le a m)(h:tv op c m=some b):uW op a c=b:=by
 have lo:∀n,HA m.1 n=true->n<=a:=λn h=>by obtain⟨q,A,I⟩:=Ku h;have:=V.1 q A;omega
 have up:∀n,EG m.2 n=true->a<=n:=λn h=>by obtain⟨q,A,I⟩:=VG h;have:=V.2 q A;omega
 have or':∀x y:Bool,(x||y)=true->x=true\/y=true:=by intro x y;cases x<;>simp
 have and':∀x y:Bool,(x&&y)=true->x=true/\y=true:=by intro x y;cases x<;>simp
 have d:∀{p:Prop}[Decidable p],p->decide p=true:=λh=>zO h
 have f:∀{p:Prop}[Decidable p],¬p->decide p=false:=λh=>qi h
 cases op<;>first|(cases h;done)|skip
 .simp only[tv]at h;cases A:HA m.1 (c+1)||EG m.2 (c-1)with
  |true=>
   rw[A]at h;obtain rfl:=ae h;refine f λe=>?_
   rcases or' _ _ A with I|I
   .have:=lo _ I;omega
   .have:=up _ I;omega
  |false=>
   rw[A]at h;simp only at h;cases I:HA m.1 c&&EG m.2 c with
   |true=>rw[I]at h;obtain rfl:=ae h;obtain⟨g1,g2⟩:=and' _ _ I;have:=lo _ g1;have:=up _ g2;exact d (by omega)
   |false=>rw[I]at h;cases h
 .simp only[tv]at h;cases A:HA m.1 (c+1)||EG m.2 (c-1)with
  |true=>
   rw[A]at h;obtain rfl:=ae h;have:decide (a=c)=false:=f λe=>by
    rcases or' _ _ A with I|I
    .have:=lo _ I;omega
    .have:=up _ I;omega
   show(!decide (a=c))=true;rw[this];rfl
  |false=>
   rw[A]at h;simp only at h;cases I:HA m.1 c&&EG m.2 c with
   |true=>rw[I]at h;obtain rfl:=ae h;obtain⟨g1,g2⟩:=and' _ _ I;have:=lo _ g1;have:=up _ g2;show(!decide (a=c))=false;rw[d (show a=c by omega)];rfl
   |false=>rw[I]at h;cases h
 .simp only[tv]at h;cases A:EG m.2 (c-1)with
  |true=>rw[A]at h;obtain rfl:=ae h;have:=up _ A;exact d (by omega)
  |false=>
   rw[A]at h;simp only at h;cases I:HA m.1 c with
   |true=>rw[I]at h;obtain rfl:=ae h;have:=lo _ I;exact f (by omega)
   |false=>rw[I]at h;cases h
 .simp only[tv]at h;cases A:EG m.2 c with
  |true=>rw[A]at h;obtain rfl:=ae h;have:=up _ A;exact d (by omega)
  |false=>
   rw[A]at h;simp only at h;cases I:HA m.1 (c+1)with
   |true=>rw[I]at h;obtain rfl:=ae h;have:=lo _ I;exact f (by omega)
   |false=>rw[I]at h;cases h
 .simp only[tv]at h;cases A:HA m.1 (c+1)with
  |true=>rw[A]at h;obtain rfl:=ae h;have:=lo _ A;exact d (by omega)
  |false=>
   rw[A]at h;simp only at h;cases I:EG m.2 c with
   |true=>rw[I]at h;obtain rfl:=ae h;have:=up _ I;exact f (by omega)
   |false=>rw[I]at h;cases h
 .simp only[tv]at h;cases A:HA m.1 c with
  |true=>rw[A]at h;obtain rfl:=ae h;have:=lo _ A;exact d (by omega)
  |false=>
   rw[A]at h;simp only at h;cases I:EG m.2 (c-1)with
   |true=>rw[I]at h;obtain rfl:=ae h;have:=up _ I;exact f (by omega)
   |false=>rw[I]at h;cases h
theorem Ke{E:G}{x:SE}(Y:Hk x=true){k:IntKind}{a:Int}(h:aj E x=some (.val (.int k a))):0<=a:=by
 cases x<;>first|(cases Y;done)|skip
 rename_i o y;cases o<;>first|(cases Y;done)|skip
 simp only[aj,bW]at h;obtain⟨d, -,h⟩:=h;unfold e1 at h;simp only at h;split at h
 .have h:=ae h;injection h with h;injection h with _ h;omega
 .have h:=ae h;injection h with h;injection h with _ h;omega
 .cases h
theorem KW{E:G}{x e:SE}{k:IntKind}{b:Bool}(f:aj E e=some (.val (.bool b))){m:La}:u6 x k e b m=m\/∃a,aj E x=some (.val (.int k a)):=by
 unfold u6;cases g:DQ e with
 |none=>exact .inl rfl
 |some p=>
  obtain⟨op,y,k',c⟩:=p;simp only;cases d:n9 k k'&&b5 x y with
  |false=>exact .inl rfl
  |true=>simp only[aw]at d;obtain rfl:=dP d.1;obtain rfl:=aK d.2;obtain⟨a',A,I⟩:=oq g f;exact .inr ⟨a',A⟩
theorem pK{E:G}{x:SE}{k:IntKind}:∀{l:List Fact}{m:La},(∀f∈l,f.holds E)->mo x k l m=m\/∃a,aj E x=some (.val (.int k a))
 | [],_,_=>.inl rfl
 |f::l,m,d=>by
  have c:=λf i=>d f (bk _ i)
  have g:=d f aV;have step:∀e b,aj E e=some (.val (.bool b))->u6 x k e b (mo x k l m)=m\/∃a,aj E x=some (.val (.int k a)):=by
   intro e b j;rcases KW (x:=x) (k:=k) j (m:=mo x k l m)with h|h
   .rw[h];exact pK c
   .exact .inr h
  cases f with
  |tr e=>exact step e true g
  |fl e=>exact step e false g
  |inr _ _=>exact pK (l:=l) c
  |rel _ _ _ _=>exact pK (l:=l) c
def InR(E:G)(e:SE)(l h:Int):Prop:=∃a,aj E e=some (.val (.int .i64 a))/\l<=a/\a<=h
theorem r6{E:G}{e:SE}{pc:List Fact}(d:∀f∈pc,f.holds E){l h:Int}(b:LV e pc=some (l,h)):InR E e l h:=by
 unfold LV at b;rcases pK (E:=E) (x:=e) (k:=.i64) (m:=(none,none)) d with Z|⟨a,g⟩
 .rw[Z]at b;cases b
 .have c:=ou g (l:=pc) (m:=(none,none)) d ⟨λn(h:(none:Option Int)=some n)=>(nomatch h),λn(h:(none:Option Int)=some n)=>(nomatch h)⟩;revert b c;rcases mo e .i64 pc (none,none)with⟨p,q⟩;intro b c;cases p with
  |none=>cases b
  |some p=>
   cases q with
   |none=>cases b
   |some q=>simp only[ar,bK]at b;obtain⟨rfl,rfl⟩:=b;exact⟨a,g,c.1 p rfl,c.2 q rfl⟩
theorem wrap64{x:Int}(A: -9223372036854775808<=x)(I:x<=9223372036854775807):IntKind.i64.wrap x=x:=by simp only[IntKind.wrap,IntKind.signed,IntKind.bits];simp;omega
theorem iC{E:G}{pc:List Fact}(m:∀f∈pc,f.holds E):∀(e:SE){l h:Int},nh pc e=some (l,h)->InR E e l h
 | .var i,_,_,g=>r6 m (e:=.var i) g
 | .a1 o x,_,_,g=>r6 m (e:=.a1 o x) g
 | .a3 o x y z,_,_,g=>r6 m (e:=.a3 o x y z) g
 | .bool _,_,_,g=>by cases g
 | .str _,_,_,g=>by cases g
 | .int k n,l,h,g=>by
   cases k<;>first|(cases g;done)|skip
   unfold nh at g;simp only at g;split at g
   .simp only[ar,bK]at g;exact⟨n,rfl,by omega,by omega⟩
   .cases g
 | .a2 o x y,l,h,g=>by
   unfold nh at g;cases j:LV (.a2 o x y) pc with
   |some r=>rw[j]at g;obtain rfl:=ae g;exact r6 m j
   |none=>
    rw[j]at g;cases o<;>first|(cases g;done)|skip
    rename_i op;have two:∀{f:Option (Int×Int)->Option (Int×Int)->Option (Int×Int)},(∀q,f none q=none)->(∀r,f (some r) none=none)->f (nh pc x) (nh pc y)=some (l,h)->
      ∃a b c d,nh pc x=some (a,b)/\nh pc y=some (c,d)/\f (some (a,b)) (some (c,d))=some (l,h):=by
     intro f f1 f2 j;cases Y:nh pc x with
     |none=>rw[Y,f1]at j;cases j
     |some w=>
      cases p:nh pc y with
      |none=>rw[Y,p,f2]at j;cases j
      |some r2=>rw[Y,p]at j;exact⟨w.1,w.2,r2.1,r2.2,rfl,rfl,j⟩
    cases op<;>first|(cases g;done)|skip
    .obtain⟨a,b,c,d,Y,p,g⟩:=two (f:=a4I) (λ_=>rfl) (λ_=>rfl) g;simp only[a4I]at g;split at g
     .next s=>
      obtain⟨d1,d2⟩:=kz.1 s;have d1:=bq d1;have d2:=bq d2;simp only[ar,bK]at g;obtain⟨rfl,rfl⟩:=g;obtain⟨u,t,A,B⟩:=iC m x Y;obtain⟨v,v1,v2,v3⟩:=iC m y p;refine⟨u+v,?_,by omega,by omega⟩;have:IntKind.i64.wrap (u+v)=u+v:=wrap64 (by omega) (by omega);simp only[aj,t,v1,aW,e2,dW,bj,aH,intOp,okV,this]
     .cases g
    .obtain⟨a,b,c,d,Y,p,g⟩:=two (f:=a2o) (λ_=>rfl) (λ_=>rfl) g;simp only[a2o]at g;split at g
     .next s=>
      obtain⟨d1,d2⟩:=kz.1 s;have d1:=bq d1;have d2:=bq d2;simp only[ar,bK]at g;obtain⟨rfl,rfl⟩:=g;obtain⟨u,t,A,B⟩:=iC m x Y;obtain⟨v,v1,v2,v3⟩:=iC m y p;refine⟨u-v,?_,by omega,by omega⟩;have:IntKind.i64.wrap (u-v)=u-v:=wrap64 (by omega) (by omega);simp only[aj,t,v1,aW,e2,dW,bj,aH,intOp,okV,this]
     .cases g
theorem Kn{E:G}{pc:List Fact}(c:∀f∈pc,f.holds E){e:SE}{lo V:Int}(h:inR e lo V pc=true):InR E e lo V:=by
 unfold inR at h;cases b:nh pc e with
 |none=>rw[b]at h;cases h
 |some r=>obtain⟨l,q⟩:=r;rw[b]at h;obtain⟨A,I⟩:=kz.1 h;have A:=bq A;have I:=bq I;obtain⟨a,g1,g2,g3⟩:=iC c e b;exact⟨a,g1,by omega,by omega⟩
theorem Q9{E:G}{op:BinOp}{x:SE}{k:IntKind}{c a:Int}{b:Bool}{l:List Fact}(e:∀f∈l,f.holds E)(h:a2n op x k c l=some b)(Y:aj E x=some (.val (.int k a))):uW op a c=b:=by
 unfold a2n at h;split at h
 .cases d:nh l x with
  |none=>rw[d]at h;cases h
  |some r=>obtain⟨p,q⟩:=r;rw[d]at h;obtain⟨a',g1,g2,g3⟩:=iC e x d;rw[Y]at g1;have g1:=ae g1;injection g1 with g1;injection g1 with _ g1;subst g1;exact u5 (m:=(some p,some q)) ⟨λn h=>(by have:=ae h;omega),λn h=>(by have:=ae h;omega)⟩ h
 .cases h
theorem a0g{E:G}{op:BinOp}{x y:SE}{a b:Int}(ho:mc op=true)(Y:aj E x=some (.val (.int .i64 a)))(c:aj E y=some (.val (.int .i64 b))):aj E (.a2 (.bin op) x y)=some (.val (.bool (uW op a b))):=by
 cases op<;>first
  |(cases ho;done)
  |(simp only[aj,Y,c,aW,e2,dW,bj,aH,intOp,okV];rfl)
theorem a0h{op:BinOp}(ho:mc op=true)(a b:Int):uW op a b=uW op (a-b) 0:=by
 cases op<;>first|(cases ho;done)|skip
 all_goals simp only[uW]
 all_goals first
  |(congr 1;exact decide_eq_decide.2 (by omega))
  |exact decide_eq_decide.2 (by omega)
theorem Jq{E:G}{e:SE}{b:Bool}{l:List Fact}(g:∀f∈l,f.holds E)(h:L2 e l=some b){d:Dt}(i:aj E e=some d):d=.val (.bool b):=by
 cases e<;>first|(cases h;done)|skip
 rename_i o x y;cases o<;>first|(cases h;done)|skip
 rename_i op;unfold L2 at h;simp only at h;cases ho:mc op with
 |false=>rw[ho]at h;cases h
 |true=>
  rw[ho]at h;simp only at h;cases Y:nh l x with
  |none=>rw[Y]at h;cases h
  |some j=>
   cases c:nh l y with
   |none=>rw[Y,c]at h;cases h
   |some r2=>obtain⟨p,q⟩:=j;obtain⟨p',k⟩:=r2;rw[Y,c]at h;simp only at h;obtain⟨u,r,s,t⟩:=iC g x Y;obtain⟨v,v1,v2,v3⟩:=iC g y c;rw[a0g ho r v1]at i;obtain rfl:=ae i;rw[a0h ho,u5 (m:=(some (p-k),some (q-p'))) (a:=u-v) ⟨λn h=>(by have:=ae h;omega),λn h=>(by have:=ae h;omega)⟩ h]
theorem KU{E:G}{e:SE}{b:Bool}{l:List Fact}(g:∀f∈l,f.holds E)(h:H9 e l=some b){d:Dt}(j:aj E e=some d):d=.val (.bool b):=by
 unfold H9 at h;cases i:DQ e with
 |none=>rw[i]at h;exact Jq g h j
 |some p=>
  obtain⟨op,x,k,c⟩:=p;rw[i]at h;simp only at h;obtain⟨a,A,rfl⟩:=oq i j;have m:Le a (match Hk x with|true=>(some 0,none)|false=>(none,none)):=by
   cases Y:Hk x with
   |false=>exact⟨λn(h:(none:Option Int)=some n)=>(nomatch h),λn(h:(none:Option Int)=some n)=>(nomatch h)⟩
   |true=>exact⟨λn(h:some (0:Int)=some n)=>(by have e:=ae h;have:=Ke Y A;omega),λn(h:(none:Option Int)=some n)=>(nomatch h)⟩
  split at h
  .next o=>
   obtain rfl:=ae h;rw[u5 (ou A g m) o]
  .rw[Q9 g h A]
theorem Q2(p q:Bool):yz p (yz p q)=q:=by cases p<;>cases q<;>rfl
def Wm:Bool->BinOp
 |true=>.eql
 |false=>.neq
theorem a0t{p:Bool}{u v:Value}{d:Dt}(h:dW (Wm p) u v=some d):∃q,d=.val (.bool (yz p q))/\(q=true↔u=v):=by
 cases u<;>first|(cases p<;>cases h;done)|skip
 .rename_i k n;cases v<;>first|(cases p<;>cases h;done)|skip
  rename_i k' m;have a:bj (Wm p)=false:=by cases p<;>rfl
  simp only[dW,a]at h;split at h
  .next e=>
   subst e;refine⟨decide (n=m),?_,?_⟩
   .cases p<;>(simp only[Wm,intOp,okV,ar]at h;rw[<-h];rfl)
   .rw[nc];exact⟨λe=>by rw[e],λe=>by injection e⟩
  .cases h
 .rename_i x;cases v<;>first|(cases p<;>cases h;done)|skip
  rename_i y;simp only[dW]at h;refine⟨dp x.data.toList y.data.toList,?_,?_⟩
  .cases p<;>(simp only[Wm,strOp,okV,ar]at h;rw[<-h];rfl)
  .rw[gL];exact⟨λe=>by
    have:x=y:=by cases x;cases y;simp only at e;rw[Array.toList_inj.1 e]
    rw[this],λe=>by injection e with e;rw[e]⟩
theorem og{E:G}{e x y:SE}{p:Bool}(h:Ky e=some (p,x,y)){d:Dt}(c:aj E e=some d):∃u v q,aj E x=some (.val u)/\aj E y=some (.val v)/\d=.val (.bool (yz p q))/\(q=true↔u=v):=by
 cases e<;>first|(cases h;done)|skip
 rename_i o a b;cases o<;>first|(cases h;done)|skip
 rename_i op;have key:op=Wm p/\a=x/\b=y:=by
  cases op<;>first|(cases h;done)|skip
  all_goals
   simp only[Ky,ar,bK]at h;obtain⟨rfl,rfl,rfl⟩:=h;exact⟨rfl,rfl,rfl⟩
 obtain⟨A,rfl,rfl⟩:=key;simp only[aj,bW]at c;obtain⟨g,e1,i,f,c⟩:=c;cases g<;>first|(cases c;done)|skip
 cases i<;>first|(cases c;done)|skip
 obtain⟨q,g1,g2⟩:=a0t (p:=p) (by rw[<-A];exact c);exact⟨_,_,q,e1,f,g1,g2⟩
theorem za{E:G}{x y e:SE}{b N:Bool}{u v:Value}(Y:aj E x=some (.val u))(g:aj E y=some (.val v))(h:yq x y e b=some N)(i:aj E e=some (.val (.bool b))):N=true↔u=v:=by
 unfold yq at h;cases f:Ky e with
 |none=>rw[f]at h;cases h
 |some r=>
  obtain⟨p,a,c⟩:=r;rw[f]at h;simp only at h;obtain⟨j,k,q,g1,g2,g3,g4⟩:=og f i;have g3:b=yz p q:=by injection g3 with g3;injection g3
  cases d:((b5 a x&&b5 c y)||(b5 a y&&b5 c x))with
  |false=>rw[d]at h;cases h
  |true=>
   rw[d]at h;obtain rfl:=ae h;rw[g3,Q2,g4];rcases Bool.or_eq_true_iff.1 d with d|d
   .obtain⟨s1,s2⟩:=kz.1 d;rw[aK s1,Y]at g1;rw[aK s2,g]at g2;have g1:=ae g1;have g2:=ae g2;injection g1 with g1;injection g2 with g2;rw[g1,g2]
   .obtain⟨s1,s2⟩:=kz.1 d;rw[aK s1,g]at g1;rw[aK s2,Y]at g2;have g1:=ae g1;have g2:=ae g2;injection g1 with g1;injection g2 with g2;rw[g1,g2];exact eq_comm
theorem pk{E:G}{x y:SE}{u v:Value}(Y:aj E x=some (.val u))(c:aj E y=some (.val v)){b:Bool}:∀{l:List Fact},(∀f∈l,f.holds E)->jn x y l=some b->(b=true↔u=v)
 | [],_,h=>by cases h
 |f::l,d,h=>by
  have rest:=λ(g:jn x y l=some b)=>pk Y c (l:=l) (λf i=>d f (bk _ i)) g
  unfold jn at h;cases f with
  |tr e=>
   simp only at h;cases a:yq x y e true with
   |some N=>rw[a]at h;obtain rfl:=ae h;exact za Y c a (d (.tr e) aV)
   |none=>rw[a]at h;exact rest h
  |fl e=>
   simp only at h;cases a:yq x y e false with
   |some N=>rw[a]at h;obtain rfl:=ae h;exact za Y c a (d (.fl e) aV)
   |none=>rw[a]at h;exact rest h
  |inr _ _=>exact rest h
  |rel _ _ _ _=>exact rest h
theorem wT{x y z:SE}{s:List UInt8}(h:wU x y=some (s,z)):(x=.str s/\z=y)\/(y=.str s/\z=x):=by
 unfold wU at h;cases x with
 |str U=>have h:=ae h;injection h with A I;exact .inl ⟨by rw[A],I.symm⟩
 |_=>
  cases y<;>first|(cases h;done)|skip
  have h:=ae h;injection h with A I;exact .inr ⟨by rw[A],I.symm⟩
theorem Cj{E:G}{s:List UInt8}{z:SE}:∀{l:List Fact},(∀f∈l,f.holds E)->Ck s z l=true->∃U,U≠s/\aj E z=some (.val (.string ⟨⟨U⟩⟩))
 | [],_,h=>by cases h
 |f::l,j,h=>by
  have rest:=λ(k:Ck s z l=true)=>Cj (l:=l) (λf m=>j f (bk _ m)) k
  unfold Ck at h;cases f with
  |tr e=>
   simp only at h;cases b:VA e with
   |none=>rw[b]at h;exact rest h
   |some r=>
    obtain⟨U,n⟩:=r;rw[b]at h;simp only at h;cases g:b5 n z && !dp U s with
    |false=>rw[g]at h;exact rest h
    |true=>
     simp only[aw,fY]at g;obtain⟨A,I⟩:=g;obtain rfl:=aK A;have c:U≠s:=λo=>by rw[(gL U s).2 o]at I;cases I
     unfold VA at b;cases ho:Ky e with
     |none=>rw[ho]at b;cases b
     |some w=>
      obtain⟨p,u,v⟩:=w;rw[ho]at b;simp only at b;cases p with
      |false=>cases b
      |true=>
       obtain⟨t,x,q,g1,g2,g3,g4⟩:=og ho (j (.tr e) aV);have i:q=true:=by injection g3 with g3;injection g3 with g3;exact g3.symm
       have d:=g4.1 i;rcases wT b with⟨rfl,rfl⟩|⟨rfl,rfl⟩
       .have a:some (Dt.val (.string ⟨⟨U⟩⟩))=some (.val t):=g1;have a:=ae a;injection a with a;exact⟨U,c,by rw[g2,<-d,<-a]⟩
       .have a:some (Dt.val (.string ⟨⟨U⟩⟩))=some (.val x):=g2;have a:=ae a;injection a with a;exact⟨U,c,by rw[g1,d,<-a]⟩
  |fl _=>exact rest h
  |inr _ _=>exact rest h
  |rel _ _ _ _=>exact rest h
theorem DG{E:G}{x y:SE}{u v:Value}(Y:aj E x=some (.val u))(d:aj E y=some (.val v)){l:List Fact}(e:∀f∈l,f.holds E)(h:wH x y l=true):u≠v:=by
 unfold wH at h;cases c:wU x y with
 |none=>rw[c]at h;cases h
 |some r=>
  obtain⟨s,z⟩:=r;rw[c]at h;obtain⟨U,A,I⟩:=Cj e h;rcases wT c with⟨rfl,rfl⟩|⟨rfl,rfl⟩
  .have a:some (Dt.val (.string ⟨⟨s⟩⟩))=some (.val u):=Y;rw[d]at I;have a:=ae a;injection a with a;have I:=ae I;injection I with I;intro b;rw[<-a,I]at b;injection b with b;injection b with b;injection b with b;exact A b.symm
  .have a:some (Dt.val (.string ⟨⟨s⟩⟩))=some (.val v):=d;rw[Y]at I;have a:=ae a;injection a with a;have I:=ae I;injection I with I;intro b;rw[<-a,I]at b;injection b with b;injection b with b;injection b with b;exact A b
theorem M5{E:G}{e:SE}{b:Bool}{l:List Fact}(i:∀f∈l,f.holds E)(h:Qb e l=some b){d:Dt}(j:aj E e=some d):d=.val (.bool b):=by
 unfold Qb at h;cases a:Ky e with
 |none=>rw[a]at h;cases h
 |some r=>
  obtain⟨p,x,y⟩:=r;rw[a]at h;simp only at h;obtain⟨u,v,q,g1,g2,rfl,g4⟩:=og a j;cases c:b5 x y with
  |true=>rw[c]at h;obtain rfl:=ae h;rw[aK c,g2]at g1;have g1:=ae g1;injection g1 with g1;rw[g4.2 g1.symm];cases p<;>rfl
  |false=>
   rw[c]at h;simp only at h;cases Z:jn x y l with
   |none=>
    rw[Z]at h;simp only at h;cases ho:wH x y l with
    |false=>rw[ho]at h;cases h
    |true=>
     rw[ho]at h;obtain rfl:=ae h;have g:=DG g1 g2 i ho;have:q=false:=by
      cases q with
      |false=>rfl
      |true=>exact absurd (g4.1 rfl) g
     rw[this]
   |some N=>
    rw[Z]at h;obtain rfl:=ae h;have g5:=pk g1 g2 i Z;have:q=N:=by cases q<;>cases N<;>first|rfl|exact absurd (g5.2 (g4.1 rfl)) (by decide)|exact absurd (g4.2 (g5.1 rfl)) (by decide)
    rw[this]
theorem pI:∀x:List UInt8,jr x x=false
 | []=>rfl
 |a::x=>by
  unfold jr;simp only;rw[show Nat.blt a.toNat a.toNat=false by cases h:Nat.blt a.toNat a.toNat with|false=>rfl|true=>exact absurd (bn h) (Nat.not_succ_le_self _),show Nat.beq a.toNat a.toNat=true from rK _];exact pI x
theorem LQ{E:G}{e:SE}{b:Bool}(h:Uo e=some b){d:Dt}(a:aj E e=some d):d=.val (.bool b):=by
 cases e<;>first|(cases h;done)|skip
 rename_i o x y;cases o<;>first|(cases h;done)|skip
 rename_i op;simp only[Uo]at h;cases c:b5 x y with
 |false=>rw[c]at h;cases h
 |true=>
  rw[c]at h;obtain rfl:=aK c;simp only[aj,bW]at a;obtain⟨u,g,v,f,a⟩:=a;rw[g]at f;obtain rfl:=ae f;cases op<;>first|(cases h;done)|skip
  all_goals
   obtain rfl:=ae h;cases u<;>first|(cases a;done)|skip
   rename_i w;cases w<;>first|(cases a;done)|skip
  .rename_i k n;have a:(if k=k then okV (intOp .lss k n n)else none)=some d:=a;rw[az rfl]at a;simp only[intOp,okV,ar]at a;rw[<-a,qi (Int.lt_irrefl n)]
  .rename_i z;have a:okV (strOp .lss z.data.toList z.data.toList)=some d:=a;simp only[strOp,okV,pI,ar]at a;exact a.symm
  .rename_i k n;have a:(if k=k then okV (intOp .gtr k n n)else none)=some d:=a;rw[az rfl]at a;simp only[intOp,okV,ar]at a;rw[<-a,qi (Int.lt_irrefl n)]
  .rename_i z;have a:okV (strOp .gtr z.data.toList z.data.toList)=some d:=a;simp only[strOp,okV,pI,(gL _ _).2 rfl,ar]at a;exact a.symm
theorem po{E:G}{e:SE}{b:Bool}{l:List Fact}(c:∀f∈l,f.holds E)(h:mO e l=some b){d:Dt}(a:aj E e=some d):d=.val (.bool b):=by
 unfold mO at h;cases Z:ma e l with
 |some N=>rw[Z]at h;obtain rfl:=ae h;have:=q0 c Z;rw[this]at a;exact(ae a).symm
 |none=>
  rw[Z]at h;simp only at h;cases g:H9 e l with
  |some N=>rw[g]at h;obtain rfl:=ae h;exact KU c g a
  |none=>
   rw[g]at h;simp only at h;cases i:Qb e l with
   |some N=>rw[i]at h;obtain rfl:=ae h;exact M5 c i a
   |none=>rw[i]at h;exact LQ h a
theorem B8{E:G}{e x:SE}(h:JZ e=some x){d:Dt}(c:aj E e=some d):∃b,aj E x=some (.val (.bool b))/\d=.val (.bool (!b)):=by
 cases e<;>first|(cases h;done)|skip
 rename_i o a;cases o<;>first|(cases h;done)|skip
 rename_i u;cases u<;>first|(cases h;done)|skip
 obtain rfl:a=x:=ae h;simp only[aj,bW]at c;obtain⟨g,f,c⟩:=c;cases g<;>first|(cases c;done)|skip
 rename_i v;cases v<;>first|(cases c;done)|skip
 rename_i b;exact⟨b,f,(ae (show some (Dt.val (.bool (!b)))=some d from c)).symm⟩
theorem wX{E:G}{e:SE}{b:Bool}{l:List Fact}(g:∀f∈l,f.holds E)(h:sB e l=some b){d:Dt}(i:aj E e=some d):d=.val (.bool b):=by
 unfold sB at h;cases a:JZ e with
 |none=>rw[a]at h;exact po g h i
 |some x=>
  rw[a]at h;simp only at h;obtain⟨c,A,rfl⟩:=B8 a i;cases Z:mO x l with
  |none=>rw[Z]at h;cases h
  |some N=>rw[Z]at h;obtain rfl:=ae h;have:=po g Z A;injection this with this;injection this with this;rw[this]
theorem wW{E:G}{i n:SE}:∀{l:List Fact},(∀f∈l,f.holds E)->pj i n l=true->(Fact.inr i n).holds E
 | [],_,h=>by cases h
 |f::l,d,h=>by
  have rest:=λ(e:pj i n l=true)=>wW (l:=l) (λf g=>d f (bk _ g)) e
  cases f with
  |inr a b=>
   simp only[pj]at h;cases c:(b5 a i&&b5 b n)with
   |true=>simp only[aw]at c;rw[<-aK c.1,<-aK c.2];exact d (.inr a b) aV
   |false=>rw[c]at h;exact rest h
  |tr _=>exact rest h
  |fl _=>exact rest h
  |rel _ _ _ _=>exact rest h
theorem Cy{E:G}{i:SE}{k:IntKind}{a:Int}(V:aj E i=some (.val (.int k a))):∀{l:List Fact},(∀f∈l,f.holds E)->Cz i l=true->0<=a
 | [],_,h=>by cases h
 |f::l,d,h=>by
  have rest:=λ(g:Cz i l=true)=>Cy V (l:=l) (λf j=>d f (bk _ j)) g
  cases f with
  |inr x b=>
   simp only[Cz]at h;cases e:b5 x i with
   |true=>obtain⟨k',a',m',c,m,n,o⟩:(Fact.inr x b).holds E:=d _ aV;rw[aK e,V]at c;have c:=ae c;injection c with c;injection c with _ c;omega
   |false=>rw[e]at h;exact rest h
  |tr _=>exact rest h
  |fl _=>exact rest h
  |rel _ _ _ _=>exact rest h
theorem I5{E:G}{m n:SE}{l:List Fact}{u v:Value}(a:aj E m=some (.val u))(c:aj E n=some (.val v))(e:∀f∈l,f.holds E)(h:F3 m n l=true):u=v:=by
 unfold F3 at h;cases d:b5 m n with
 |true=>rw[aK d,c]at a;have a:=ae a;injection a with a;exact a.symm
 |false=>
  rw[d]at h;simp only at h;cases Z:jn m n l with
  |none=>rw[Z]at h;cases h
  |some b=>rw[Z]at h;obtain rfl:b=true:=h;exact(pk a c e Z).1 rfl
theorem uH{E:G}{i n:SE}{k k':IntKind}{a m:Int}{pc:List Fact}(V:aj E i=some (.val (.int k a)))(s:aj E n=some (.val (.int k' m)))(d:∀f∈pc,f.holds E):∀{l:List Fact},(∀f∈l,f.holds E)->w8 i n pc l=true->k=k'/\a<m
 | [],_,h=>by cases h
 |f::l,t,h=>by
  have rest:=λ(A:w8 i n pc l=true)=>uH V s d (l:=l) (λf B=>t f (bk _ B)) A
  cases f with
  |tr e=>
   have g:aj E e=some (.val (.bool true)):=t _ aV;simp only[w8]at h;cases c:Vw e with
   |none=>rw[c]at h;exact rest h
   |some r=>
    obtain⟨x,y⟩:=r;rw[c]at h;simp only at h;cases w:b5 x i&&F3 y n pc with
    |false=>rw[w]at h;exact rest h
    |true=>
     obtain⟨C,D⟩:=kz.1 w;have key:e=.a2 (.bin .lss) x y:=by
      cases e<;>first|(cases c;done)|skip
      rename_i o u v;cases o<;>first|(cases c;done)|skip
      rename_i op;cases op<;>first|(cases c;done)|skip
      simp only[Vw,ar,bK]at c;rw[c.1,c.2]
     subst key;rw[aK C]at g;simp only[aj,V,aW,bW]at g;obtain⟨F,j,b⟩:=g;cases F<;>first|(cases b;done)|skip
     rename_i v;cases v<;>first|(cases b;done)|skip
     rename_i z m2;have b:(if k=z then okV (intOp .lss k a m2)else none)=some (.val (.bool true)):=b;have p:=I5 j s d D;injection p with q p;subst p;by_cases Z:k=z
     .rw[az Z]at b;simp only[intOp,okV,ar,Dt.val.injEq,vp]at b;exact⟨Z.trans q,bq b⟩
     .rw[ai Z]at b;cases b
  |inr _ _=>exact rest h
  |fl _=>exact rest h
  |rel _ _ _ _=>exact rest h
theorem MX{E:G}{i n:SE}{k k':IntKind}{a m:Int}{pc l:List Fact}(V:aj E i=some (.val (.int k a)))(c:aj E n=some (.val (.int k' m)))(b:∀f∈pc,f.holds E)(d:∀f∈l,f.holds E)(h:w8 i n pc l=true):a<m:=(uH V c b d h).2
theorem Vr{E:G}{e:SE}(h:yh e=true){k:IntKind}{m:Int}(a:aj E e=some (.val (.int k m))):0<=m:=by
 cases e<;>first|(cases h;done)|skip
 rename_i q n;cases n<;>first|(cases h;done)|skip
 rename_i z;have:=ae (show some (Dt.val (.int q (.ofNat z)))=some _ from a);injection this with this;injection this with _ this;have b:(0:Int)<=Int.ofNat z:=ky z;omega
theorem MA{E:G}{i:SE}{a:Int}{l:List Fact}(b:∀f∈l,f.holds E)(h:Vy i l=true)(V:aj E i=some (.val (.int .i64 a))):0<=a:=by
 unfold Vy at h;cases A:Cz i l with
 |true=>exact Cy V b A
 |false=>
  rw[A]at h;simp only at h;cases I:yh i with
  |true=>exact Vr I V
  |false=>rw[I]at h;simp only at h;obtain⟨m,e,g⟩:=Ku h;have:=(ou V (l:=l) (m:=(none,none)) b ⟨λn(h:(none:Option Int)=some n)=>(nomatch h),λn(h:(none:Option Int)=some n)=>(nomatch h)⟩).1 m e;omega
theorem fS{E:G}{i n:SE}{k:IntKind}{a m:Int}{l:List Fact}(d:∀f∈l,f.holds E)(h:gD i n l=true)(V:aj E i=some (.val (.int k a)))(g:aj E n=some (.val (.int .i64 m))):0<=a/\a<m:=by
 unfold gD at h;cases Z:pj i n l with
 |true=>obtain⟨k',a',m',b,c,j⟩:=wW d Z;rw[V]at b;rw[g]at c;have b:=ae b;have c:=ae c;injection b with b;injection b with _ b;injection c with c;injection c with _ c;rw[b,c];exact j
 |false=>rw[Z]at h;obtain⟨o,p⟩:=kz.1 h;obtain⟨e,I⟩:=uH V g d d o;rw[e]at V;exact⟨MA d p V,I⟩
theorem ez{x:Int}(A: -9223372036854775808<=x)(I:x<=9223372036854775807):IntKind.i64.wrap x=x:=by simp only[IntKind.wrap,IntKind.signed,IntKind.bits];simp;omega
theorem XS{n:Int}(h:0<=n):IntKind.wrap .i64 n<=n:=by simp only[IntKind.wrap,IntKind.bits,IntKind.signed];simp;omega
theorem CF{E:G}{e:SE}{n:Nat}{a:Int}{l:List Fact}(c:∀f∈l,f.holds E)(h:PM e n l=true)(g:aj E e=some (.val (.int .i64 a))):(n:Int)<=a:=by
 unfold PM at h;cases Z:sB (.a2 (.bin .geq) e (.int .i64 (.ofNat n))) l with
 |none=>rw[Z]at h;cases h
 |some b=>rw[Z]at h;obtain rfl:b=true:=h;have:=wX c Z (d:=.val (.bool (decide ((n:Int)<=a)))) (by simp only[aj,g,aW,e2,dW,bj,aH,intOp,okV];rfl);injection this with this;injection this with this;exact bq this
theorem fo{E:G}{x:SE}{str:ByteArray}{l:List Fact}(d:∀f∈l,f.holds E)(Y:aj E x=some (.val (.string str)))(h:ph x l=true):str.size<=4611686018427387904:=by
 have a:aj E (.a1 .len x)=some (.val (.int .i64 str.size)):=by simp only[aj,Y,aW,e1]
 have:=ou a (l:=l) (m:=(some 0,none)) d ⟨by intro m b;cases b;omega,by intro m b;cases b⟩;unfold ph EG at h;cases c:(mo (.a1 .len x) .i64 l (some 0,none)).2 with
 |none=>rw[c]at h;cases h
 |some m=>rw[c]at h;have A:=bq h;have I:=this.2 m c;omega
theorem jY{e x:SE}{n:Nat}(h:mW e=some (x,n)):e=.a2 (.bin .add) x (.int .i64 (.ofNat n)):=by
 cases e<;>first|(cases h;done)|skip
 rename_i o u v;cases o<;>first|(cases h;done)|skip
 rename_i op;cases op<;>first|(cases h;done)|skip
 cases v<;>first|(cases h;done)|skip
 rename_i k m;cases k<;>first|(cases h;done)|skip
 cases m<;>first|(cases h;done)|skip
 simp only[mW,ar,bK]at h;rw[h.1,h.2]
theorem AY{E:G}{x:SE}{n:Nat}{k:IntKind}{a:Int}(h:aj E (.a2 (.bin .add) x (.int .i64 (.ofNat n)))=some (.val (.int k a))):∃b,aj E x=some (.val (.int .i64 b))/\k=.i64/\a=IntKind.wrap .i64 (b+n):=by
 simp only[aj,aW,bW]at h;obtain⟨u,d,h⟩:=h;cases u<;>first|(cases h;done)|skip
 rename_i v;cases v<;>first|(cases h;done)|skip
 rename_i q b;have h:(if q=.i64 then okV (intOp .add q b (.ofNat n))else none)=some (.val (.int k a)):=h;by_cases c:q=.i64
 .rw[az c]at h;subst c;simp only[intOp,okV,ar,Dt.val.injEq,iS]at h;exact⟨b,d,h.1.symm,h.2.symm⟩
 .rw[ai c]at h;cases h
theorem X8{E:G}{x y:SE}{str:ByteArray}{b:Int}(Y:aj E x=some (.val (.string str)))(a:aj E y=some (.val (.int .i64 b)))(c:0<=b)(A:b<=str.size):
  aj E (.a1 .len (.a3 .sub x y (.a1 .len x)))=some (.val (.int .i64 (str.size-b))):=by
 obtain⟨m,rfl⟩:=et c;have e:((str.data.toList.take ((str.size:Int)).toNat).drop ((m:Int)).toNat).length=str.size-m:=by rw[eT,cG,tQ,tQ,tY];show min str.size str.size-m=_;omega
 simp only[aj,Y,a,aW,e1,e3];show some (Dt.val (.int .i64 (((str.data.toList.take ((str.size:Int)).toNat).drop ((m:Int)).toNat).length:Int)))=_;rw[e];congr 3;omega
theorem yW{E:G}{i n:SE}{k:IntKind}{a m:Int}(V:aj E i=some (.val (.int k a)))(c:aj E n=some (.val (.int .i64 m))):∀{l:List Fact},(∀f∈l,f.holds E)->yb i n l=true->a<m
 | [],_,h=>by cases h
 |f::l,d,h=>by
  have rest:=λ(j:yb i n l=true)=>yW V c (l:=l) (λf o=>d f (bk _ o)) j
  cases f with
  |fl e=>
   simp only[yb]at h;cases g:b5 e (.a2 (.bin .geq) i n)with
   |false=>rw[g]at h;exact rest h
   |true=>
    have b:aj E e=some (.val (.bool false)):=d _ aV;rw[aK g]at b;simp only[aj,V,c,aW,e2]at b;have b:(if k=.i64 then okV (intOp .geq k a m)else none)=some (.val (.bool false)):=b;by_cases Z:k=.i64
    .rw[az Z]at b;simp only[intOp,okV,ar,Dt.val.injEq,vp]at b;have:=gp b;omega
    .rw[ai Z]at b;cases b
  |tr _=>exact rest h
  |inr _ _=>exact rest h
  |rel _ _ _ _=>exact rest h
theorem uL{E:G}{i n:SE}{d:Nat}{k:IntKind}{a m:Int}(V:aj E i=some (.val (.int k a)))(t:aj E n=some (.val (.int .i64 m)))(z:0<=a)(A:a<=4611686018427387904):∀{l:List Fact},(∀f∈l,f.holds E)->kg i d n l=true->a+d<m
 | [],_,h=>by cases h
 |f::l,w,h=>by
  have rest:=λ(B:kg i d n l=true)=>uL V t z A (l:=l) (λf C=>w f (bk _ C)) B
  cases f with
  |fl e=>
   cases e<;>first|exact rest h|skip
   rename_i o u v;cases o<;>first|exact rest h|skip
   rename_i op;cases op<;>first|exact rest h|skip
   simp only[kg]at h;cases b:mW u with
   |none=>rw[b]at h;exact rest h
   |some r=>
    obtain⟨j,c⟩:=r;rw[b]at h;simp only at h;cases g:b5 j i&&(b5 v n&&(Nat.blt d c&&Nat.blt c 1000000))with
    |false=>rw[g]at h;exact rest h
    |true=>
     simp only[aw]at g;obtain⟨x,y,p,s⟩:=g;have Y:aj E (.a2 (.bin .gtr) u v)=some (.val (.bool false)):=w _ aV;rw[jY b,aK x,aK y]at Y;have p:d<c:=bn p;have s:c<1000000:=bn s;have Y:((if k=.i64 then okV (intOp .add k a (.ofNat c))else none).bind λq=>(aj E n).bind (e2 (.bin .gtr) q))=some (.val (.bool false)):=by
      have e:aj E (.a2 (.bin .add) i (.int .i64 (.ofNat c)))=if k=.i64 then okV (intOp .add k a (.ofNat c))else none:=by simp only[aj,V,aW];rfl
      rw[<-e];exact Y
     by_cases Z:k=.i64
     .subst Z;rw[az rfl,t]at Y;simp only[intOp,okV,aW]at Y;rw[ez (by simp only[cq];omega) (by simp only[cq];omega)]at Y;have Y:okV (intOp .gtr .i64 (a+Int.ofNat c) m)=some (.val (.bool false)):=Y;simp only[intOp,okV,ar,Dt.val.injEq,vp]at Y;have Y:=gp Y;simp only[cq]at Y;omega
     .rw[ai Z]at Y;cases Y
  |tr e=>
   cases e<;>first|exact rest h|skip
   rename_i o u v;cases o<;>first|exact rest h|skip
   rename_i op;cases op<;>first|exact rest h|skip
   simp only[kg]at h;cases b:mW u with
   |none=>rw[b]at h;exact rest h
   |some r=>
    obtain⟨j,c⟩:=r;rw[b]at h;simp only at h;cases g:b5 j i&&(b5 v n&&(Nat.blt d c&&Nat.blt c 1000000))with
    |false=>rw[g]at h;exact rest h
    |true=>
     simp only[aw]at g;obtain⟨x,y,p,s⟩:=g;have Y:aj E (.a2 (.bin .leq) u v)=some (.val (.bool true)):=w _ aV;rw[jY b,aK x,aK y]at Y;have p:d<c:=bn p;have s:c<1000000:=bn s;have Y:((if k=.i64 then okV (intOp .add k a (.ofNat c))else none).bind λq=>(aj E n).bind (e2 (.bin .leq) q))=some (.val (.bool true)):=by
      have e:aj E (.a2 (.bin .add) i (.int .i64 (.ofNat c)))=if k=.i64 then okV (intOp .add k a (.ofNat c))else none:=by simp only[aj,V,aW];rfl
      rw[<-e];exact Y
     by_cases Z:k=.i64
     .subst Z;rw[az rfl,t]at Y;simp only[intOp,okV,aW]at Y;rw[ez (by simp only[cq];omega) (by simp only[cq];omega)]at Y;have Y:okV (intOp .leq .i64 (a+Int.ofNat c) m)=some (.val (.bool true)):=Y;simp only[intOp,okV,ar,Dt.val.injEq,vp]at Y;have Y:=bq Y;simp only[cq]at Y;omega
     .rw[ai Z]at Y;cases Y
  |inr _ _=>exact rest h
  |rel _ _ _ _=>exact rest h
theorem LS{x i a b:SE}{n:Nat}(h:Ja x i n a b=true):a=.a2 (.bin .sub) (.a1 .len x) i/\∃c:Nat,b=.int .i64 (.ofNat c)/\n<=c:=by
 unfold Ja at h;simp only[aw]at h;obtain⟨A,I⟩:=h;refine⟨aK A,?_⟩;cases b<;>first|(cases I;done)|skip
 rename_i k m;simp only[aw]at I;obtain⟨I,W⟩:=I;cases m<;>first|(cases W;done)|skip
 rename_i m;obtain rfl:=dP I;exact⟨m,rfl,bn W⟩
theorem Uy{E:G}{x i:SE}{str:ByteArray}(Y:aj E x=some (.val (.string str))){v:Int}(b:aj E (.a2 (.bin .sub) (.a1 .len x) i)=some (.val (.int .i64 v))):∃a,aj E i=some (.val (.int .i64 a))/\v=IntKind.i64.wrap (str.size-a):=by
 simp only[aj,Y,aW,e1,bW]at b;obtain⟨u,d,b⟩:=b;cases u<;>first|(cases b;done)|skip
 rename_i w;cases w<;>first|(cases b;done)|skip
 rename_i q a;have b:(if IntKind.i64=q then okV (intOp .sub .i64 (str.size:Int) a)else none)=some (.val (.int .i64 v)):=b;by_cases c:IntKind.i64=q
 .subst c;rw[az rfl]at b;simp only[intOp,okV,ar,Dt.val.injEq,iS,fw]at b;exact⟨a,d,b.symm⟩
 .rw[ai c]at b;cases b
theorem LR{E:G}{x i:SE}{n:Nat}{str:ByteArray}(Y:aj E x=some (.val (.string str))){f:Fact}(j:f.holds E)(h:Uz x i n f=true):∃a,aj E i=some (.val (.int .i64 a))/\(n:Int)<=IntKind.i64.wrap (str.size-a):=by
 have one:∀{op:BinOp}{a b:SE}{r:Bool},mc op=true->Ja x i n a b=true->aj E (.a2 (.bin op) a b)=some (.val (.bool r))->(∀v c:Int,uW op v c=r->c<=v)->∃a,aj E i=some (.val (.int .i64 a))/\(n:Int)<=IntKind.i64.wrap (str.size-a):=by
  intro op a b r ho k l d;obtain⟨rfl,c,rfl,m⟩:=LS k;have g:DQ (.a2 (.bin op) (.a2 (.bin .sub) (.a1 .len x) i) (.int .i64 (.ofNat c)))=some (op,.a2 (.bin .sub) (.a1 .len x) i,.i64,.ofNat c):=by unfold DQ;simp only[ho]
  obtain⟨v,A,I⟩:=oq g l;injection I with I;injection I with I;obtain⟨a,g1,g2⟩:=Uy Y A;have:=d v (.ofNat c) I.symm;refine⟨a,g1,?_⟩;rw[<-g2];simp only[cq]at this;omega
 cases f with
 |tr e=>
  cases e<;>first|(cases h;done)|skip
  rename_i o a b;cases o<;>first|(cases h;done)|skip
  rename_i op;cases op<;>first|(cases h;done)|skip
  exact one (op:=.geq) rfl h j λv c e=>bq e
 |fl e=>
  cases e<;>first|(cases h;done)|skip
  rename_i o a b;cases o<;>first|(cases h;done)|skip
  rename_i op;cases op<;>first|(cases h;done)|skip
  exact one (op:=.lss) rfl h j λv c e=>by
   have:=gp e;omega
 |inr _ _=>cases h
 |rel _ _ _ _=>cases h
theorem oU{E:G}{x i:SE}{n:Nat}{str:ByteArray}(Y:aj E x=some (.val (.string str))):∀{pc:List Fact},(∀f∈pc,f.holds E)->mH x i n pc=true->∃a,aj E i=some (.val (.int .i64 a))/\(n:Int)<=IntKind.i64.wrap (str.size-a)
 | [],_,h=>by cases h
 |f::l,c,h=>by
  unfold mH at h;cases b:Uz x i n f with
  |true=>exact LR Y (c f aV) b
  |false=>rw[b]at h;exact oU Y (λf b=>c f (bk _ b)) h
theorem LU{E:G}{x i:SE}{n:Nat}{str:ByteArray}{pc:List Fact}(b:∀f∈pc,f.holds E)(Y:aj E x=some (.val (.string str)))(c:str.size<=4611686018427387904){k:IntKind}{a:Int}(V:aj E i=some (.val (.int k a)))(d:0<=a)(A:a<=str.size)(h:mH x i n pc=true):a+n<=str.size:=by obtain⟨a',g1,g2⟩:=oU Y b h;rw[V]at g1;have g1:=ae g1;injection g1 with g1;injection g1 with _ g1;subst g1;rw[ez (by omega) (by omega)]at g2;omega
theorem tu{E:G}{x i:SE}{str:ByteArray}{pc:List Fact}(c:∀f∈pc,f.holds E)(Y:aj E x=some (.val (.string str))){k:IntKind}{a:Int}(V:aj E i=some (.val (.int k a)))(d:0<=a)(A:a<=str.size)(h:rC x pc i=true):a<str.size:=by
 have b:aj E (.a1 .len x)=some (.val (.int .i64 str.size)):=by simp only[aj,Y,aW,e1]
 unfold rC at h;simp only[fW,aw]at h;rcases h with h|h|⟨h,W|W⟩
 .exact MX V b c c h
 .exact yW V b c h
 .have g:=fo c Y h;have:=uL V b d (by omega) c W;omega
 .have:=LU c Y (fo c Y h) V d A W;omega
theorem gE{E:G}{x:SE}{str:ByteArray}{pc:List Fact}(c:∀f∈pc,f.holds E)(Y:aj E x=some (.val (.string str))):∀(f:Nat){l:SE}{k:IntKind}{a:Int},mP x pc f l=true->aj E l=some (.val (.int k a))->0<=a/\a<=str.size:=by
 have m:aj E (.a2 (.bin .add) (.a1 .len x) (.int .i64 (.ofNat 1)))=some (.val (.int .i64 (IntKind.wrap .i64 (str.size+1)))):=by simp only[aj,Y,aW,e1,e2,dW,bj,aH,intOp,okV];rfl
 have e:aj E (.a2 (.bin .add) (.a1 .len x) (.int .i64 (.ofNat 2)))=some (.val (.int .i64 (IntKind.wrap .i64 (str.size+2)))):=by simp only[aj,Y,aW,e1,e2,dW,bj,aH,intOp,okV];rfl
 have d:aj E (.a1 .len x)=some (.val (.int .i64 str.size)):=by simp only[aj,Y,aW,e1]
 have one:∀{l:SE}{k:IntKind}{a:Int},Ct x pc l=true->aj E l=some (.val (.int k a))->0<=a/\a<=str.size:=λ{l k a}h V=>by
  unfold Ct at h;simp only[fW,aw]at h;rcases h with h|h|⟨h,I,W⟩
  .have A:=fS c h V m;have I:=XS (n:=(str.size:Int)+1) (by omega);omega
  .have A:=fS c h V d;omega
  .have A:=fS c h V e;have g:=fo c Y W;rw[ez (by omega) (by omega)]at A;obtain⟨a',g1,g2⟩:=oU Y c I;rw[V]at g1;have g1:=ae g1;injection g1 with g1;injection g1 with _ g1;subst g1;rw[ez (by omega) (by omega)]at g2;omega
 intro f;induction f with
 |zero=>intro l k a h V;exact one h V
 |succ f o=>
  intro l k a h V;unfold mP at h;cases Z:Ct x pc l with
  |true=>exact one Z V
  |false=>
   rw[Z]at h;simp only at h;cases i:mW l with
   |none=>rw[i]at h;cases h
   |some r=>
    obtain⟨y,n⟩:=r;rw[i]at h;simp only[aw]at h;obtain⟨A,I,W⟩:=h;obtain rfl:=jY i;obtain⟨b,g1,rfl,rfl⟩:=AY V;obtain⟨b0,j⟩:=o A g1;have g3:=fo c Y W;simp only[fW,aw]at I;rcases I with⟨I,D⟩|I|I
    .obtain rfl:=aL I;have:=tu c Y g1 b0 j D;rw[ez (by omega) (by omega)];omega
    .have g2:=CF c I (X8 Y g1 b0 j);rw[ez (by omega) (by omega)];omega
    .have g2:=LU c Y g3 g1 b0 j I;rw[ez (by omega) (by omega)];omega
theorem Cu{E:G}{x i:SE}{str:ByteArray}{pc:List Fact}(e:∀f∈pc,f.holds E)(Y:aj E x=some (.val (.string str)))(h:Kp x pc i=true){k:IntKind}{a:Int}(V:aj E i=some (.val (.int k a))):0<=a/\a<str.size:=by
 have c:aj E (.a1 .len x)=some (.val (.int .i64 str.size)):=by simp only[aj,Y,aW,e1]
 unfold Kp at h;cases A:gD i (.a1 .len x) pc with
 |true=>exact fS e A V c
 |false=>
  rw[A]at h;simp only at h;cases I:mP x pc 4 i&&rC x pc i with
  |true=>obtain⟨n,o⟩:=kz.1 I;obtain⟨c1,c2⟩:=gE e Y 4 n V;exact⟨c1,tu e Y V c1 c2 o⟩
  |false=>
   rw[I]at h;simp only at h;cases l:mW i with
   |none=>rw[l]at h;cases h
   |some r=>obtain⟨j,d⟩:=r;rw[l]at h;simp only[aw]at h;obtain⟨g1,g2,g3⟩:=h;obtain rfl:=jY l;obtain⟨b,m,rfl,rfl⟩:=AY V;obtain⟨c1,c2⟩:=gE e Y 4 g2 m;have g:=fo e Y g1;have:=uL m c c1 (by omega) e g3;rw[ez (by omega) (by omega)];omega
theorem Kk{e:SE}(h:wZ e=true):∃k,e=.int k 0:=by
 cases e<;>first|(cases h;done)|skip
 rename_i k n;cases n<;>first|(cases h;done)|skip
 rename_i m;exact⟨k,by rw[aL (show Nat.beq m 0=true from h)];rfl⟩
theorem Cx{E:G}{l h:SE}{b c:IntKind}{d g:Int}(i:aj E l=some (.val (.int b d)))(j:aj E h=some (.val (.int c g))):∀{pc:List Fact},(∀f∈pc,f.holds E)->EM l h pc=true->d<=g
 | [],_,e=>by cases e
 |f::r,k,e=>by
  have rest:=λ(n:EM l h r=true)=>Cx i j (pc:=r) (λf o=>k f (bk _ o)) n
  cases f with
  |tr x=>
   simp only[EM]at e;cases m:b5 x (.a2 (.bin .leq) l h)with
   |false=>rw[m]at e;exact rest e
   |true=>
    have a:aj E x=some (.val (.bool true)):=k _ aV;rw[aK m]at a;simp only[aj,i,j,aW,e2]at a;have a:(if b=c then okV (intOp .leq b d g)else none)=some (.val (.bool true)):=a;by_cases Z:b=c
    .rw[az Z]at a;simp only[intOp,okV,ar,Dt.val.injEq,vp]at a;exact bq a
    .rw[ai Z]at a;cases a
  |fl _=>exact rest e
  |inr _ _=>exact rest e
  |rel _ _ _ _=>exact rest e
theorem uZ{E:G}{e:SE}(h:w6 e=true){d:Dt}(a:aj E e=some d):∃b:UInt8,d=.val (.int .u8 b.toNat):=by
 cases e<;>first|(cases h;done)|skip
 rename_i o x y;simp only[aj,bW]at a;obtain⟨u,c,v,f,a⟩:=a;cases o<;>first|(cases h;done)|skip
 .cases u<;>first|(cases a;done)|skip
  rename_i u;cases v<;>first|(cases u<;>cases a;done)|skip
  rename_i v;cases u<;>first|(cases a;done)|skip
  rename_i str;cases v<;>first|(cases a;done)|skip
  rename_i k n;cases n<;>first|(cases a;done)|skip
  rename_i m;have a:((str.data.toList[m]?).map λb=>Dt.val (.int .u8 b.toNat))=some d:=a;rw[aN]at a;obtain⟨b, -,rfl⟩:=a;exact⟨b,rfl⟩
 .rename_i g k;simp only[w6,aw]at h;obtain⟨A,I,W⟩:=h;obtain rfl:=aL A;obtain rfl:=aL I;cases x<;>first|(cases W;done)|skip
  rename_i p z;cases p<;>first|(cases W;done)|skip
  simp only[aj,bW]at c;obtain⟨q, -,c⟩:=c;unfold e1 at c;simp only at c;split at c<;>first|(cases c;done)|skip
  obtain rfl:=ae c;unfold e2 at a;simp only at a;split at a<;>first|(cases a;done)|skip
  rename_i P J j i heq;injection heq with _ heq;subst heq;rw[ea,ik,aN]at a;obtain⟨b, -,rfl⟩:=a;exact⟨b,rfl⟩
theorem Vp{E:G}{e:SE}(h:Xy e=true){q:IntKind}{n:Int}(c:aj E e=some (.val (.int q n))):0<=n/\n<16:=by
 cases e<;>first|(cases h;done)|skip
 rename_i o x y;cases o<;>first|(cases h;done)|skip
 rename_i op;simp only[aj,bW]at c;obtain⟨u,f,v,d,c⟩:=c;cases op<;>first|(cases h;done)|skip
 .cases y<;>first|(simp[Xy]at h;done)|skip
  rename_i k m;simp only[Xy,aw]at h;obtain⟨A,I,W⟩:=h;cases m<;>first|(cases W;done)|skip
  rename_i m;obtain rfl:=dP I;obtain rfl:=aL W;obtain rfl:=ae d;obtain⟨b,rfl⟩:=uZ A f;have c:(if IntKind.u8=.u8 then okV (intOp .quo .u8 b.toNat (.ofNat 16))else none)=some (.val (.int q n)):=c;rw[az rfl]at c;have j:=b.toNat_lt;have e:(b.toNat:Int).tdiv (Int.ofNat 16)=(b.toNat:Int)/16:=Int.tdiv_eq_ediv_of_nonneg (by omega);simp only[intOp,e,show decide (Int.ofNat 16=0)=false from rfl,okV,ar,Dt.val.injEq,iS]at c;obtain⟨-,rfl⟩:=c;simp only[IntKind.wrap,IntKind.signed,IntKind.bits];simp;omega
 .cases y<;>first|(simp[Xy]at h;done)|skip
  rename_i k m;simp only[Xy,aw]at h;obtain⟨A,I,W⟩:=h;cases m<;>first|(cases W;done)|skip
  rename_i m;obtain rfl:=dP I;obtain rfl:=aL W;obtain rfl:=ae d;obtain⟨b,rfl⟩:=uZ A f;have c:(if IntKind.u8=.u8 then okV (intOp .rem .u8 b.toNat (.ofNat 16))else none)=some (.val (.int q n)):=c;rw[az rfl]at c;have j:=b.toNat_lt;have e:(b.toNat:Int).tmod (Int.ofNat 16)=(b.toNat:Int)%16:=Int.tmod_eq_emod_of_nonneg (by omega);simp only[intOp,e,show decide (Int.ofNat 16=0)=false from rfl,okV,ar,Dt.val.injEq,iS]at c;obtain⟨-,rfl⟩:=c;omega
 .cases y<;>first|(simp[Xy]at h;done)|skip
  rename_i k m;simp only[Xy,aw]at h;obtain⟨A,I⟩:=h;cases m<;>first|(cases I;done)|skip
  rename_i m;obtain rfl:=dP A;obtain rfl:=aL I;obtain rfl:=ae d;cases u<;>first|(cases c;done)|skip
  rename_i w;cases w<;>first|(cases c;done)|skip
  rename_i g a;have c:(if g=.u8 then okV (intOp .and g a (.ofNat 15))else none)=some (.val (.int q n)):=c;by_cases l:g=.u8
  .subst l;rw[az rfl]at c;simp only[intOp,okV,ar,Dt.val.injEq,iS]at c;obtain⟨-,rfl⟩:=c;have i:(BitVec.ofInt IntKind.u8.bits a &&& BitVec.ofInt IntKind.u8.bits (Int.ofNat 15)).toNat<=15:=by
    rw[BitVec.toNat_and];refine gn Nat.and_le_right ?_;decide
   generalize (BitVec.ofInt IntKind.u8.bits a &&& BitVec.ofInt IntKind.u8.bits (Int.ofNat 15)).toNat=z at i;simp only[IntKind.wrap,IntKind.signed,IntKind.bits];simp;omega
  .rw[ai l]at c;cases c
 .cases y<;>first|(simp[Xy]at h;done)|skip
  rename_i k m;simp only[Xy,aw]at h;obtain⟨A,I⟩:=h;cases m<;>first|(cases I;done)|skip
  rename_i m;obtain rfl:=aL I;obtain rfl:=ae d;obtain⟨b,rfl⟩:=uZ A f;have c:okV (shiftOp .shr .u8 b.toNat (.ofNat 4))=some (.val (.int q n)):=c;have j:=b.toNat_lt;simp only[shiftOp,IntKind.bits]at c;have e:((b.toNat:Int)).fdiv (2^(min (Int.ofNat 4).toNat 8))=(b.toNat:Int)/16:=by show((b.toNat:Int)).fdiv 16=_;rw[Int.fdiv_eq_ediv_of_nonneg _ (by decide)]
  rw[e]at c;simp only[show decide (Int.ofNat 4<0)=false from rfl,okV,ar,Dt.val.injEq,iS]at c;obtain⟨-,rfl⟩:=c;omega
theorem KB{E:G}{x l h:SE}{str:ByteArray}(Y:aj E x=some (.val (.string str)))(e:Ng x l h=true){c f:IntKind}{b d:Int}(g:aj E l=some (.val (.int c b)))(a:aj E h=some (.val (.int f d))):
  0<=b/\b<=d/\d<=(str.size:Int):=by
 cases x<;>first|(cases e;done)|skip
 rename_i s;simp only[Ng,aw]at e;obtain⟨A,I,W⟩:=e;have A:=aL A;obtain rfl:=aK W;obtain⟨b0,k⟩:=Vp I g;have j:str.size=16:=by have:=ae (show some (Dt.val (.string ⟨⟨s⟩⟩))=some _ from Y);injection this with this;injection this with this;subst this;exact A
 simp only[aj,g,aW,e2]at a;have a:(if c=.u8 then okV (intOp .add c b (.ofNat 1))else none)=some (.val (.int f d)):=a;by_cases i:c=.u8
 .subst i;rw[az rfl]at a;simp only[intOp,okV,ar,Dt.val.injEq,iS]at a;obtain⟨-,rfl⟩:=a;have:IntKind.u8.wrap (b+Int.ofNat 1)=b+1:=by
   simp only[IntKind.wrap,IntKind.signed,IntKind.bits];simp;omega
  rw[this,j];omega
 .rw[ai i]at a;cases a
theorem EH{E:G}{l h:SE}{pc:List Fact}(g:∀f∈pc,f.holds E)(b:VH l h pc=true){i j:IntKind}{c d:Int}(a:aj E l=some (.val (.int i c)))(e:aj E h=some (.val (.int j d))):c<=d:=by
 unfold VH at b;simp only[fW]at b;rcases b with b|b
 .exact Cx a e g b
 .rw[aK b,e]at a;have a:=ae a;injection a with a;injection a with _ a;omega
theorem Kg{E:G}{x l:SE}{str:ByteArray}{pc:List Fact}(d:∀f∈pc,f.holds E)(Y:aj E x=some (.val (.string str))){q:IntKind}{o:Int}(j:aj E l=some (.val (.int q o))):∀(f:Nat){h:SE}{k:IntKind}{i:Int},leK x pc l f h=true->aj E h=some (.val (.int k i))->o<=i
 |0,h,k,i,a,g2=>EH d a j g2
 |f+1,h,k,i,a,g2=>by
  unfold leK at a;cases A:VH l h pc with
  |true=>exact EH d A j g2
  |false=>
   rw[A]at a;simp only at a;cases m:mW h with
   |none=>rw[m]at a;cases a
   |some r=>obtain⟨y,n⟩:=r;rw[m]at a;simp only[aw]at a;obtain⟨s,p,t,u⟩:=a;obtain rfl:=jY m;obtain⟨b,e,rfl,rfl⟩:=AY g2;have c:=Kg d Y j f s e;obtain⟨d1,d2⟩:=gE d Y 4 u e;have g:=fo d Y t;have p:n<1000000:=bn p;rw[ez (by omega) (by omega)];omega
theorem Zm{E:G}{z:SE}{d:Dt}(h:aj E (.a1 .len z)=some d):∃m:Nat,d=.val (.int .i64 (m:Int)):=by
 simp only[aj,bW]at h;obtain⟨u, -,h⟩:=h;cases u with
 |val v=>cases v<;>first|(cases h;done)|exact⟨_,(ae h).symm⟩
 |sl v t g J=>cases v<;>first|(cases h;done)|exact⟨_,(ae h).symm⟩
 |_=>cases h
theorem K5{h y z:SE}(k:Ny h=some (y,z)):h=.a2 (.bin .add) y (.a1 .len z):=by
 cases h<;>first|(cases k;done)|skip
 rename_i o a b;cases o<;>first|(cases k;done)|skip
 rename_i op;cases op<;>first|(cases k;done)|skip
 cases b<;>first|(cases k;done)|skip
 rename_i p c;cases p<;>first|(cases k;done)|skip
 have k:=ae k;injection k with d e;subst d;subst e;rfl
theorem oR{E:G}{b:Bool}{e:SE}{pc:List Fact}(a:∀f∈pc,f.holds E)(h:yH b e pc=true):aj E e=some (.val (.bool b)):=by
 unfold yH at h;cases Z:ma e pc with
 |none=>rw[Z]at h;cases h
 |some c=>rw[Z]at h;have:=q0 a Z;cases b<;>cases c<;>first|exact this|cases h
theorem KC{E:G}{x l h:SE}{str:ByteArray}{pc:List Fact}(s:∀f∈pc,f.holds E)(Y:aj E x=some (.val (.string str)))(i:HV x pc l h=true){j B:IntKind}{c o:Int}(t:aj E l=some (.val (.int j c)))(n:aj E h=some (.val (.int B o))):
  0<=c/\c<=o/\o<=(str.size:Int):=by
 have p:aj E (.a1 .len x)=some (.val (.int .i64 str.size)):=by simp only[aj,Y,aW,e1]
 unfold HV at i;cases v:Ny h with
 |none=>rw[v]at i;cases i
 |some r=>
  obtain⟨y,z⟩:=r;rw[v]at i;simp only[aw,fW]at i;obtain⟨⟨D,q⟩,F,H⟩:=i;obtain rfl:=aK D;obtain rfl:=K5 v;obtain⟨c1,c2⟩:=gE s Y 4 H t;have g:=fo s Y F;have e:∃d,aj E (.a1 .len z)=some d:=by
   cases e:aj E (.a1 .len z)with
   |some d=>exact⟨d,rfl⟩
   |none=>simp only[aj]at n e;rw[e]at n;simp only[Option.bind_none,Option.bind_fun_none]at n;cases n
  obtain⟨d,e⟩:=e;obtain⟨m,rfl⟩:=Zm e;have u:j=.i64:=by
   have g3:=n;rw[show aj E (.a2 (.bin .add) y (.a1 .len z))=e2 (.bin .add) (.val (.int j c)) (.val (.int .i64 m))from by
    show((aj E y).bind λa=>(aj E (.a1 .len z)).bind λb=>e2 (.bin .add) a b)=_;rw[t,e];rfl]at g3
   by_cases u:j=.i64
   .exact u
   .have g3:(if j=.i64 then okV (intOp .add j c m)else none)=some (.val (.int B o)):=g3;rw[ai u]at g3;cases g3
  subst u;have w:o=IntKind.wrap .i64 (c+m):=by
   have g3:=n;rw[show aj E (.a2 (.bin .add) y (.a1 .len z))=some (.val (.int .i64 (IntKind.wrap .i64 (c+m))))from by
    show((aj E y).bind λa=>(aj E (.a1 .len z)).bind λb=>e2 (.bin .add) a b)=_;rw[t,e];rfl]at g3
   have g3:=ae g3;injection g3 with g3;injection g3 with _ g3;exact g3.symm
  have C:aj E (.a2 (.bin .sub) (.a1 .len x) y)=some (.val (.int .i64 (IntKind.wrap .i64 (str.size-c)))):=by show((aj E (.a1 .len x)).bind λa=>(aj E y).bind λb=>e2 (.bin .sub) a b)=_;rw[p,t];rfl
  have A:(m:Int)<=IntKind.wrap .i64 (str.size-c):=by
   rcases q with q|q
   .have k:=oR s q;rw[show aj E (.a2 (.bin .geq) (.a2 (.bin .sub) (.a1 .len x) y) (.a1 .len z))=some (.val (.bool (decide (IntKind.wrap .i64 (str.size-c) ≥ (m:Int)))))from by
     show((aj E (.a2 (.bin .sub) (.a1 .len x) y)).bind λa=>(aj E (.a1 .len z)).bind λb=>e2 (.bin .geq) a b)=_;rw[C,e];rfl]at k
    have k:=ae k;injection k with k;injection k with k;exact bq k
   .have k:=oR s q;rw[show aj E (.a2 (.bin .lss) (.a2 (.bin .sub) (.a1 .len x) y) (.a1 .len z))=some (.val (.bool (decide (IntKind.wrap .i64 (str.size-c)<(m:Int)))))from by
     show((aj E (.a2 (.bin .sub) (.a1 .len x) y)).bind λa=>(aj E (.a1 .len z)).bind λb=>e2 (.bin .lss) a b)=_;rw[C,e];rfl]at k
    have k:=ae k;injection k with k;injection k with k;have:=gp k;omega
  rw[ez (by omega) (by omega)]at A;rw[w,ez (by omega) (by omega)];omega
theorem Nh{E:G}{x l h:SE}{str:ByteArray}{pc:List Fact}(e:∀f∈pc,f.holds E)(Y:aj E x=some (.val (.string str)))(a:Qj x pc l h=true){u v:IntKind}{o s:Int}(i:aj E l=some (.val (.int u o)))(c:aj E h=some (.val (.int v s))):
  0<=o/\o<=s/\s<=(str.size:Int):=by
 have j:aj E (.a1 .len x)=some (.val (.int .i64 str.size)):=by simp only[aj,Y,aW,e1]
 have zero:wZ l=true->o=0:=λw=>by
  obtain⟨k,rfl⟩:=Kk w;have:=ae i;injection this with this;injection this with _ this;exact this.symm
 unfold Qj at a;cases A:b5 h (.a1 .len x)with
 |true=>rw[A]at a;obtain rfl:=aK A;rw[j]at c;have c:=ae c;injection c with c;injection c with _ c;obtain⟨c1,c2⟩:=gE e Y 4 a i;omega
 |false=>
  rw[A]at a;simp only at a;cases I:Nj x pc l h with
  |true=>
   unfold Nj at I;cases t:mW h with
   |some r=>
    obtain⟨y,n⟩:=r;rw[t]at I;simp only[aw]at I;obtain⟨z,B,p⟩:=I;obtain rfl:=aK z;obtain rfl:=jY t;obtain⟨b,d,rfl,rfl⟩:=AY c;rw[i]at d;have d:=ae d;injection d with d;injection d with _ d;subst d;have g:=fo e Y B;simp only[fW,aw]at p;rcases p with⟨C,p⟩|⟨p,F⟩
    .obtain rfl:=aL C;obtain⟨c1,c2⟩:=Cu e Y p i;rw[ez (by omega) (by omega)];omega
    .obtain⟨c1,c2⟩:=gE e Y 4 F i;have:=LU e Y g i c1 c2 p;rw[ez (by omega) (by omega)];omega
   |none=>rw[t]at I;cases I
  |false=>
   rw[I]at a;simp only at a;have gen:mP x pc 4 h=true->(wZ l||(leK x pc l 4 h&&mP x pc 4 l))=true->0<=o/\o<=s/\s<=(str.size:Int):=λH q=>by
    obtain⟨c1,c2⟩:=gE e Y 4 H c;simp only[fW,aw]at q;rcases q with q|⟨q,J⟩
    .have:=zero q;omega
    .have:=Kg e Y i 4 q c;obtain⟨d1,d2⟩:=gE e Y 4 J i;omega
   cases W:Ni x pc l h with
   |false=>
    rw[W]at a;simp only at a;cases D:HV x pc l h with
    |true=>exact KC e Y D i c
    |false=>rw[D]at a;exact KB Y a i c
   |true=>
   replace a:=W
   unfold Ni at a;cases h with
   |int k n=>
    cases k<;>first|(cases a;done)|skip
    cases n<;>first|(cases a;done)|skip
    rename_i m;simp only[aw]at a;have:=CF e a.2 j;have c:=ae c;injection c with c;injection c with _ c;have:=zero a.1;simp only[cq]at c;omega
   |_=>simp only[aw]at a;exact gen a.1 a.2
theorem YY(d:Rel C base E s w)(e:aD E nt t a.tmps)(x y z:Operand)(ty:TypeId):
  (x4 x y z ty C t s).path (dM C base E s w ((do pure (.value (if <-asBool (a.eval x)then a.eval y else a.eval z)):Sem Next).run C.P w)):=by
 refine R.bh _ (bf d e x) λv f=>?_
 cases v with
 |bool b=>
  simp only[ag,ar]at f;cases b
  .refine R.bh _ (bf d e z) λg c=>?_
   exact⟨E,_,w,by rw[<-f];simp[asBool],c,Step.refl d⟩
  .refine R.bh _ (bf d e y) λg c=>?_
   exact⟨E,_,w,by rw[<-f];simp[asBool],c,Step.refl d⟩
 |_=>trivial
theorem Step.add (a:Rel C base E s w) {f:Fact} (d:f.pos=true) (e:f.holds E):Step C base E s w E (s.add f) w:=by
 refine⟨Grow.refl E,⟨a.ay,a.sep,a.new,a.eM,a.low,a.bs,λg c=>?_,a.rd⟩,qg.refl E s w,λ_ h _=>h,aX _,λ_ _ h=>a.lt h,λ_ l h=>.inl ⟨l,h⟩,λ_ b h _=>⟨b,h⟩,λ_ _ h=>h⟩;cases c with
 |head=>exact⟨d,e⟩
 |tail _ c=>exact a.pc g c
theorem yS(a:Rel C base E s w){e:SE}{b:Bool}(c:aj E e=some (.val (.bool b))):(yo s e).path (λr=>r.1=b/\Step C base E s w E r.2 w/\r.2.h=s.h):=by
 unfold yo;cases Z:mO e s.pc with
 |some N=>have:=po (E:=E) (λf d=>(a.pc f d).2) Z c;injection this with this;injection this with this;exact⟨this.symm,Step.refl a,rfl⟩
 |none=>
  cases b with
  |true=>exact⟨0,by decide,rfl,Step.add a rfl c,rfl⟩
  |false=>exact⟨1,by decide,rfl,Step.add a rfl c,rfl⟩
theorem o0(a:Rel C base E s w){e:SE}{b:Bool}(d:aj E e=some (.val (.bool b))):(EO s e).path (λr=>r.1=b/\Step C base E s w E r.2 w/\r.2.h=s.h):=by
 unfold EO;cases g:JZ e with
 |none=>exact yS a d
 |some x=>
  obtain⟨c,A,I⟩:=B8 g d;injection I with I;injection I with I;refine R.pb _ (yS a A) λr f=>?_
  exact⟨by rw[f.1,I],f.2⟩
theorem DR{ty:TypeId}{a c:Value}(A:(∃p,a=.pointer p)\/a=.nilIface\/∃t v,a=.iface t v)(I:(∃p,c=.pointer p)\/c=.nilIface\/∃t v,c=.iface t v){b:Bool}
  (h:(Op.equal ty a c).run C.P w=.ok b w):(binOp .eql ty a c).run C.P w=.ok (.bool b) w/\(binOp .neq ty a c).run C.P w=.ok (.bool (!b)) w:=by
 have e:binOp .eql ty a c=(do pure (.bool (<-Op.equal ty a c)))/\binOp .neq ty a c=(do pure (.bool (!(<-Op.equal ty a c)))):=by rcases A with⟨_,rfl⟩|rfl|⟨_,_,rfl⟩<;>rcases I with⟨_,rfl⟩|rfl|⟨_,_,rfl⟩<;>exact⟨rfl,rfl⟩
 rw[e.1,e.2];simp only[aA,h,aP,aY,and_self]
theorem qP(q:Good C)(t:Rel C base E s w)(op:BinOp)(ty:TypeId)(d f:Operand)(x y:AV)(g h:Value)(Y:ag E x=some g)(a:ag E y=some h):
  (mg C s op ty (cg d||cg f) x y).path (λv=>∃c,ag E v=some c/\(do eqGuard op ty d f g h;binOp op ty g h:Sem Value).run C.P w=.ok c w):=by
 by_cases V:∃k n k' m,x=.int k n/\y=.int k' m
 .obtain⟨k,n,k',m,rfl,rfl⟩:=V;simp only[ag,ar]at Y a;subst Y;subst a;have i:∀X:Sem Value,(do eqGuard op ty d f (.int k n) (.int k' m);X:Sem Value).run C.P w=X.run C.P w:=by
   intro X;cases op<;>rfl
  simp only[i];show(match bj op with|true=>shiftOp op k n m|false=>(match decide (k=k')with|true=>intOp op k n m|false=>R.bad _)).path _;cases o:bj op
  .cases Z:decide (k=k')
   .trivial
   .have:=bq Z;subst this;exact Se op o k n m ty C.P w
  .exact IZ op o k k' n m ty C.P w
 .by_cases u:∃l O,x=.str l/\y=.str O
  .obtain⟨l,O,rfl,rfl⟩:=u;simp only[ag,ar]at Y a;subst Y;subst a;have i:∀X:Sem Value,(do eqGuard op ty d f (.string ⟨⟨l⟩⟩) (.string ⟨⟨O⟩⟩);X:Sem Value).run C.P w=X.run C.P w:=by
    intro X;cases op<;>rfl
   simp only[i];exact Ra op l O ty C.P w
  .have e:mg C s op ty (cg d||cg f) x y=match isRef x&&isRef y with|true=>a6u C s op ty (cg d||cg f) x y|false=>.bad "bin":=by
     cases x<;>cases y<;>first|rfl|exact absurd ⟨_,_,_,_,rfl,rfl⟩ V|exact absurd ⟨_,_,rfl,rfl⟩ u
   rw[e];cases j:isRef x&&isRef y with
   |false=>trivial
   |true=>
    simp only[aw]at j;have r:=λb=>DR (C:=C) (w:=w) (ty:=ty) (b:=b) (Jl j.1 Y) (Jl j.2 a)
    cases op<;>first|trivial|skip
    .refine R.bh _ (y9 (C:=C) (w:=w) .eql ty d f x y g h Y a j.1 j.2) λ_ i=>?_
     refine R.bh _ (CN (w:=w) q t 100 Op.maxDepth (by decide) ty x y g h Y a) λb p=>?_
     exact⟨_,rfl,by simp only[aA,i,aP];exact(r b p).1⟩
    .refine R.bh _ (y9 (C:=C) (w:=w) .neq ty d f x y g h Y a j.1 j.2) λ_ i=>?_
     refine R.bh _ (CN (w:=w) q t 100 Op.maxDepth (by decide) ty x y g h Y a) λb p=>?_
     exact⟨_,rfl,by simp only[aA,i,aP];exact(r b p).2⟩
theorem ue(s:ByteArray):s=⟨⟨s.data.toList⟩⟩:=by cases s with|mk d=>cases d;rfl
theorem Mt{E:G}{r:R AV}{v:AV}{c:Value}(h:r=.ok v)(a:ag E v=some c)(d:(∃k n,v=.int k n)\/(∃b,v=.bool b)\/∃s,v=.str s):okV r=some (.val c):=by subst h;rcases d with⟨k,n,rfl⟩|⟨b,rfl⟩|⟨l,rfl⟩<;>simp only[ag,ar]at a<;>subst a<;>rfl
theorem MR(op:BinOp)(k:IntKind)(x y:Int)(a:bj op=false)(c:(op=.quo\/op=.rem)->y≠0):∃v,intOp op k x y=.ok v/\((kV op=true/\∃b,v=.bool b)\/(kV op=false/\∃n,v=.int k n)):=by
 cases op<;>first|(cases a;done)|skip
 all_goals first
  |exact⟨_,rfl,.inr ⟨rfl,_,rfl⟩⟩
  |exact⟨_,rfl,.inl ⟨rfl,_,rfl⟩⟩
  |(have e:decide (y=0)=false:=qi (c (by simp));simp only[intOp,e];exact⟨_,rfl,.inr ⟨rfl,_,rfl⟩⟩)
theorem LF(op:BinOp)(x y:List UInt8)(h:kV op=true\/(op=.add/\¬1099511627776<x.length+y.length)):∃v,strOp op x y=.ok v/\((kV op=true/\∃b,v=.bool b)\/(kV op=false/\∃l,v=.str l)):=by
 cases op<;>first|(rcases h with h|⟨h, -⟩<;>cases h;done)|skip
 all_goals first
  |exact⟨_,rfl,.inl ⟨rfl,_,rfl⟩⟩
  |(have I:=(h.resolve_left (by simp[kV])).2
    have a:Nat.ble (Nat.add x.length y.length) 1099511627776=true:=by rw[vc];show x.length+y.length<=_;omega
    simp only[strOp,a];exact⟨_,rfl,.inr ⟨rfl,_,rfl⟩⟩)
theorem CY(a:Rel C base E s w){e:SE}{c:Value}(h:ag E (.bS .bool e)=some c):ag E (QH s e)=some c:=by
 unfold QH;cases Z:sB e s.pc with
 |none=>exact h
 |some b=>obtain⟨d,g1,g2,g3⟩:=c7 h;obtain rfl:=wX (E:=E) (λf g=>(a.pc f g).2) Z g1;rw[g3];rfl
theorem RW{E:G}{e:SE}(h:yh e=true){k:IntKind}{m:Int}(a:aj E e=some (.val (.int k m))):¬m<0:=by
 cases e<;>first|(cases h;done)|skip
 rename_i q n;cases n<;>first|(cases h;done)|skip
 rename_i z;have:=ae (show some (Dt.val (.int q (.ofNat z)))=some _ from a);injection this with this;injection this with _ this;have b:(0:Int)<=Int.ofNat z:=ky z;omega
theorem iy{E:G}{e:SE}{str:ByteArray}{pc:List Fact}{a:Nat}(g:∀f∈pc,f.holds E)(h:EE pc e=some a)(i:aj E e=some (.val (.string str))):str.size<=a:=by
 have b:aj E (.a1 .len e)=some (.val (.int .i64 str.size)):=by simp only[aj,i,aW,e1]
 have:=ou b (l:=pc) (m:=(some 0,none)) g ⟨by intro m c;cases c;omega,by intro m c;cases c⟩;unfold EE at h;cases d:(mo (.a1 .len e) .i64 pc (some 0,none)).2 with
 |none=>rw[d]at h;cases h
 |some m=>rw[d]at h;obtain rfl:=ae h;have I:=this.2 m d;omega
theorem l9{E:G}{pc:List Fact}(d:∀f∈pc,f.holds E):∀(e:SE){str:ByteArray}{a:Nat},qa pc e=some a->aj E e=some (.val (.string str))->str.size<=a
 | .var i,str,a,h,c=>iy d (e:=.var i) h c
 | .int k n,str,a,h,c=>iy d (e:=.int k n) h c
 | .bool b,str,a,h,c=>iy d (e:=.bool b) h c
 | .a1 o x,str,a,h,c=>iy d (e:=.a1 o x) h c
 | .str s,str,a,h,c=>by
   obtain rfl:=ae h;have:=ae (show some (Dt.val (.string ⟨⟨s⟩⟩))=some _ from c);injection this with this;injection this with this;subst this;exact aX _
 | .a2 o x y,str,a,h,c=>by
   cases o<;>first|exact iy d (e:=.a2 _ x y) h c|skip
   rename_i op;cases op<;>first|exact iy d (e:=.a2 _ x y) h c|skip
   unfold qa at h;simp only at h;cases Y:qa pc x with
   |none=>rw[Y]at h;cases h
   |some p=>
    cases g:qa pc y with
    |none=>rw[Y,g]at h;cases h
    |some q=>
     rw[Y,g]at h;obtain rfl:=ae h;simp only[aj,bW]at c;obtain⟨u,j,v,l,c⟩:=c;cases u<;>first|(cases c;done)|skip
     rename_i u;cases v<;>first|(cases c;done)|skip
     rename_i v;cases u<;>cases v<;>first|(cases c;done)|skip
     .rename_i k n k' m;have c:(if k=k' then okV (intOp .add k n m)else none)=some (.val (.string str)):=c;split at c
      .simp[intOp,okV]at c
      .cases c
     .rename_i s t;have c:okV (strOp .add s.data.toList t.data.toList)=some (.val (.string str)):=c;have A:=l9 d x Y j;have I:=l9 d y g l;unfold strOp at c;simp only at c;split at c
      .simp only[okV,ar,Dt.val.injEq,tX]at c;subst c;show(s.data.toList++t.data.toList).length<=Nat.add p q;rw[bL,tY,tY];exact Nat.add_le_add A I
      .cases c
 | .a3 o x y z,str,a,h,c=>by
   cases o<;>first|exact iy d (e:=.a3 _ x y z) h c|skip
   have h:qa pc x=some a:=h;simp only[aj,bW]at c;obtain⟨u,j,v,l,q,r,c⟩:=c;unfold e3 at c;simp only at c;split at c<;>first|(cases c;done)|skip
   rename_i s _ lo _ V;have A:=l9 d x h j;simp only[ar,Dt.val.injEq,tX]at c;subst c;show((s.data.toList.take V.toNat).drop lo.toNat).length<=a;rw[eT,cG,tY];have:s.data.size=s.size:=rfl;omega
theorem Kw{E:G}{pc:List Fact}(c:∀f∈pc,f.holds E){x y:SE}{s t:ByteArray}(h:HF pc x y=true)(Y:aj E x=some (.val (.string s)))(d:aj E y=some (.val (.string t))):s.size+t.size<=1099511627776:=by
 unfold HF at h;cases A:qa pc x with
 |none=>rw[A]at h;cases h
 |some a=>
  cases I:qa pc y with
  |none=>rw[A,I]at h;cases h
  |some b=>rw[A,I]at h;have h:a+b<=1099511627776:=bn h;have:=l9 c x A Y;have:=l9 c y I d;omega
theorem a1L{n:Int}(a:0<=n)(A:n<18446744073709551616):((BitVec.ofInt 64 n &&& BitVec.ofInt 64 (15:Int)).toNat:Int)=n%16:=by
 obtain⟨q,rfl⟩:∃q:Nat,n=(q:Int):=⟨n.toNat,by omega⟩;rw[BitVec.toNat_and,BitVec.toNat_ofInt,BitVec.toNat_ofInt];have e1:(((q:Nat):Int)%((2^64:Nat):Int)).toNat=q:=by omega
 have e2:((15:Int)%((2^64:Nat):Int)).toNat=2^4-1:=by decide
 rw[e1,e2,Nat.and_two_pow_sub_one_eq_mod];omega
theorem sz{e:SE}{n:Int}(h:G8 e=some n):e=.int .i64 n:=by
 cases e<;>first|(cases h;done)|skip
 rename_i k m;cases k<;>first|(cases h;done)|skip
 rw[ae (show some m=some n from h)]
theorem VB{E:G}{e b:SE}{k:Int}(h:Ka e=(b,k)){a:Int}(i:aj E b=some (.val (.int .i64 a)))(A: -1152921504606846976<=a)(I:a<=1152921504606846976)(W: -1073741824<=k)(D:k<=1073741824)
  {g:IntKind} {v:Int} (d:aj E e=some (.val (.int g v))):g=.i64/\v=a+k:=by
 have base:e=b->k=0->g=.i64/\v=a+k:=by rintro rfl rfl;rw[i]at d;have d:=ae d;injection d with d;injection d with d l;exact⟨d.symm,by omega⟩
 have c:Ka e=(e,0)->g=.i64/\v=a+k:=λm=>by
  rw[m]at h;simp only[bK]at h;exact base h.1 h.2.symm
 cases e<;>first|exact c rfl|skip
 rename_i o x y;cases o<;>first|exact c rfl|skip
 rename_i op;cases op<;>first|exact c rfl|skip
 .cases f:G8 y with
  |none=>exact c (by simp only[Ka,f])
  |some n=>simp only[Ka,f,bK]at h;obtain⟨rfl,rfl⟩:=h;obtain rfl:=sz f;have j:IntKind.i64.wrap (a+n)=a+n:=wrap64 (by omega) (by omega);simp only[aj,i,aW,e2,dW,bj,aH,intOp,okV,j,ar,Dt.val.injEq,iS]at d;exact⟨d.1.symm,d.2.symm⟩
 .cases f:G8 y with
  |none=>exact c (by simp only[Ka,f])
  |some n=>simp only[Ka,f,bK]at h;obtain⟨rfl,rfl⟩:=h;obtain rfl:=sz f;have j:IntKind.i64.wrap (a-n)=a-n:=wrap64 (by omega) (by omega);simp only[aj,i,aW,e2,dW,bj,aH,intOp,okV,j,ar,Dt.val.injEq,iS]at d;exact⟨d.1.symm,by omega⟩
theorem DX{E:G}{b:SE}{a k:Int}(c:aj E b=some (.val (.int .i64 a)))(A: -1152921504606846976<=a)(I:a<=1152921504606846976)(W: -2147483648<=k)(D:k<=2147483648):aj E (IF b k)=some (.val (.int .i64 (a+k))):=by
 cases k with
 |ofNat n=>
  cases n with
  |zero=>rw[show a+Int.ofNat 0=a from Int.add_zero a];exact c
  |succ n=>have d:IntKind.i64.wrap (a+Int.ofNat (n+1))=a+Int.ofNat (n+1):=wrap64 (by omega) (by omega);simp only[IF,aj,c,aW,e2,dW,bj,aH,intOp,okV,d]
 |negSucc n=>
  have e0:Int.negSucc n= -Int.ofNat (n+1):=rfl;have d:IntKind.i64.wrap (a-Int.ofNat (n+1))=a+Int.negSucc n:=by rw[wrap64 (by omega) (by omega)];omega
  simp only[IF,aj,c,aW,e2,dW,bj,aH,intOp,okV,d]
theorem yF{k:Int}(h:LN k=true): -1073741824<=k/\k<=1073741824:=by obtain⟨A,I⟩:=kz.1 h;exact⟨bq A,bq I⟩
theorem EB(j:Rel C base E s w){op:BinOp}{x:SE}{c:Int}{v:AV}(h:Zj s op x c=some v){e:IntKind}{n:Int}(Y:aj E x=some (.val (.int e n))):
  e=.i64/\bj op=false/\∃r d,intOp op .i64 n c=.ok r/\ag E r=some d/\ag E v=some d:=by
 unfold Zj at h;rcases g:Ka x with⟨b,k⟩;rw[g]at h;simp only at h;split at h
 .cases h
 .next i=>
  simp only[aw]at i;obtain⟨l,m,o⟩:=i;obtain⟨a,g1,g2,g3⟩:=Kn (E:=E) (λf p=>(j.pc f p).2) l;obtain⟨q,t⟩:=yF m;obtain⟨c1,c2⟩:=yF o;obtain⟨rfl,rfl⟩:=VB g g1 g2 g3 q t Y;refine⟨rfl,?_⟩;cases op<;>first|(cases h;done)|skip
  .obtain rfl:=ae h;refine⟨rfl,_,_,rfl,rfl,?_⟩;rw[wrap64 (by omega) (by omega)];exact dn (d:=.val (.int .i64 (a+k+c))) (by rw[DX g1 g2 g3 (by omega) (by omega),Int.add_assoc]) ⟨_,rfl⟩ rfl
  .obtain rfl:=ae h;refine⟨rfl,_,_,rfl,rfl,?_⟩;rw[wrap64 (by omega) (by omega)];exact dn (d:=.val (.int .i64 (a+k-c))) (by rw[DX g1 g2 g3 (by omega) (by omega)];congr 3;omega) ⟨_,rfl⟩ rfl
theorem R4(f:Rel C base E s w){op:BinOp}{x y:SE}{v:AV}(h:Zi s op x y=some v){k k':IntKind}{n m:Int}(Y:aj E x=some (.val (.int k n)))(g:aj E y=some (.val (.int k' m))):
  k=.i64/\k'=.i64/\bj op=false/\∃r d,intOp op .i64 n m=.ok r/\ag E r=some d/\ag E v=some d:=by
 unfold Zi at h;cases b:G8 y with
 |some c=>rw[b]at h;obtain rfl:=sz b;have e:=ae (show some (Dt.val (.int .i64 c))=some _ from g);injection e with e;injection e with e1 e2;subst e1;subst e2;obtain⟨A,W,D⟩:=EB f h Y;exact⟨A,rfl,W,D⟩
 |none=>
  rw[b]at h;simp only at h;cases a:G8 x with
  |none=>rw[a]at h;cases h
  |some c=>
   rw[a]at h;obtain rfl:=sz a;have e:=ae (show some (Dt.val (.int .i64 c))=some _ from Y);injection e with e;injection e with e1 e2;subst e1;subst e2;cases op<;>first|(cases h;done)|skip
   obtain⟨A,W,r,d,i,j,l⟩:=EB f h g;exact⟨rfl,A,W,r,d,by rw[<-i];simp only[intOp];rw[Int.add_comm],j,l⟩
theorem BN(W:Good C)(J:Rel C base E s w)(op:BinOp)(ty:TypeId)(t u:Operand)(x y:AV)(O Q:Value)(Y:ag E x=some O)(X:ag E y=some Q):
  (P8 s op x y).path (λv=>∃c,ag E v=some c/\(do eqGuard op ty t u O Q;binOp op ty O Q:Sem Value).run C.P w=.ok c w):=by
 unfold P8;cases L:zt x<;>first|exact R.aJ _ _|skip
 case int k=>
  cases D:zt y<;>first|exact R.aJ _ _|skip
  rename_i k';obtain⟨n,A,rfl⟩:=ug Y L;obtain⟨m,I,rfl⟩:=ug X D;have run:=qP (E:=E) (w:=w) W J op ty t u (.int k n) (.int k' m) _ _ rfl rfl;simp only;unfold symInt;cases S:Zi s op (cT x) (cT y)with
  |some v=>
   obtain⟨rfl,rfl,T,r,d,q1,q2,q3⟩:=R4 J S A I;have e0:mg C s op ty (cg t||cg u) (.int .i64 n) (.int .i64 m)=.ok r:=by simp[mg,T,q1]
   rw[e0]at run;obtain⟨c,i,a⟩:=run;rw[q2]at i;obtain rfl:=ae i;exact⟨_,q3,a⟩
  |none=>
  simp only;unfold Ok;cases o:bj op with
  |true=>
   suffices key:¬m<0->(R.ok (AV.bS (.int k) (.a2 (.bin op) (cT x) (cT y)))).path (λv=>∃c,ag E v=some c/\(do eqGuard op ty t u (.int k n) (.int k' m);binOp op ty (.int k n) (.int k' m):Sem Value).run C.P w=.ok c w) by
    cases K:yh (cT y)with
    |true=>exact key (RW K I)
    |false=>exact R.aJ _ _
   intro M;have e:∃v,shiftOp op k n m=.ok v/\∃q,v=.int k q:=by unfold shiftOp;rw[qi M];cases op<;>first|(cases o;done)|exact⟨_,rfl,_,rfl⟩
   obtain⟨v,l,q,rfl⟩:=e;have e0:mg C s op ty (cg t||cg u) (.int k n) (.int k' m)=.ok (.int k q):=by simp[mg,o,l]
   rw[e0]at run;obtain⟨c,i,a⟩:=run;refine⟨c,dn (d:=.val c) ?_ ?_ rfl,a⟩
   .simp only[aj,A,I,aW,e2,dW,o];exact Mt l i (.inl ⟨_,_,rfl⟩)
   .simp only[ag,ar]at i;exact⟨q,by rw[<-i]⟩
  |false=>
   simp only;cases Z:decide (k=k')with
   |false=>exact R.aJ _ _
   |true=>
    have U:=bq Z;subst U;have gen:∀(B:Kd),((op=.quo\/op=.rem)->m≠0)->(kV op=true->B=.bool)->(kV op=false->B=.int k)->
      ∃c,ag E (.bS B (.a2 (.bin op) (cT x) (cT y)))=some c/\(do eqGuard op ty t u (.int k n) (.int k m);binOp op ty (.int k n) (.int k m):Sem Value).run C.P w=.ok c w:=by
     intro B K F G;obtain⟨v,l,p⟩:=MR op k n m o K;have e0:mg C s op ty (cg t||cg u) (.int k n) (.int k m)=.ok v:=by simp[mg,o,l]
     rw[e0]at run;obtain⟨c,i,a⟩:=run;refine⟨c,dn (d:=.val c) ?_ ?_ rfl,a⟩
     .simp only[aj,A,I,aW,e2,dW,o,aH];refine Mt l i ?_;rcases p with⟨-,b,rfl⟩|⟨-,q,rfl⟩
      .exact .inr (.inl ⟨_,rfl⟩)
      .exact .inl ⟨_,_,rfl⟩
     .rcases p with⟨g,b,rfl⟩|⟨g,q,rfl⟩
      .rw[F g];simp only[ag,ar]at i;exact⟨b,by rw[<-i]⟩
      .rw[G g];simp only[ag,ar]at i;exact⟨q,by rw[<-i]⟩
    simp only;cases j:kV op with
    |true=>obtain⟨c,i,a⟩:=gen .bool (λh=>by rcases h with rfl|rfl<;>cases j) (λ_=>rfl) (λh=>by rw[j]at h;cases h);exact⟨c,CY J i,a⟩
    |false=>
     have ps:Hi (cT y)=true->m≠0:=λH=>by
      revert H I;cases cT y<;>intro I H<;>first|(cases H;done)|skip
      rename_i q z;cases z<;>first|(cases H;done)|skip
      rename_i z;have e:=ae (show some (Dt.val (.int q (.ofNat z)))=some _ from I);injection e with e;injection e with _ e;have:0<z:=bn H;have K:(Int.ofNat z)=(z:Int):=rfl;omega
     cases op<;>first
      |(cases j;done)
      |(cases o;done)
      |(simp only
        cases H:Hi (cT y)with
        |true=>exact gen (.int k) (λ_=>ps H) (λh=>by cases h) (λ_=>rfl)
        |false=>exact R.aJ _ _)
      |exact gen (.int k) (λh=>by rcases h with h|h<;>cases h) (λh=>by cases h) (λ_=>rfl)
 case str=>
  cases D:zt y<;>first|exact R.aJ _ _|skip
  obtain⟨n,A,rfl⟩:=FW Y L;obtain⟨m,I,rfl⟩:=FW X D;have run:=qP (E:=E) (w:=w) W J op ty t u (.str n.data.toList) (.str m.data.toList) _ _ rfl rfl;rw[<-ue,<-ue]at run;have gen:∀(B:Kd),(kV op=true\/(op=.add/\¬1099511627776<n.data.toList.length+m.data.toList.length))->(kV op=true->B=.bool)->(kV op=false->B=.str)->
    ∃c,ag E (.bS B (.a2 (.bin op) (cT x) (cT y)))=some c/\(do eqGuard op ty t u (.string n) (.string m);binOp op ty (.string n) (.string m):Sem Value).run C.P w=.ok c w:=by
   intro B K F G;obtain⟨v,l,p⟩:=LF op n.data.toList m.data.toList K;have e0:mg C s op ty (cg t||cg u) (.str n.data.toList) (.str m.data.toList)=.ok v:=l;rw[e0]at run;obtain⟨c,i,a⟩:=run;refine⟨c,dn (d:=.val c) ?_ ?_ rfl,a⟩
   .simp only[aj,A,I,aW,e2,dW];refine Mt l i ?_;rcases p with⟨-,b,rfl⟩|⟨-,q,rfl⟩
    .exact .inr (.inl ⟨_,rfl⟩)
    .exact .inr (.inr ⟨_,rfl⟩)
   .rcases p with⟨g,b,rfl⟩|⟨g,q,rfl⟩
    .rw[F g];simp only[ag,ar]at i;exact⟨b,by rw[<-i]⟩
    .rw[G g];simp only[ag,ar]at i;exact⟨_,by rw[<-i]⟩
  simp only;unfold T8;cases j:kV op with
  |true=>obtain⟨c,i,a⟩:=gen .bool (.inl j) (λ_=>rfl) (λh=>by rw[j]at h;cases h);exact⟨c,CY J i,a⟩
  |false=>
   cases op<;>first|exact R.aJ _ _|skip
   cases V:HF s.pc (cT x) (cT y)with
   |true=>
    have hs:=Kw (λf V=>(J.pc f V).2) V A I;simp only;exact gen .str (.inr ⟨rfl,λN=>by
     have N:1099511627776<n.size+m.size:=by simpa using N
     omega⟩) (λh=>by cases h) (λ_=>rfl)
   |false=>exact R.aJ _ _
theorem Ma(g:Good C)(h:Rel C base E s w)(op:BinOp)(ty:TypeId)(a b:Operand)(x y:AV)(d f:Value)(Y:ag E x=some d)(j:ag E y=some f):
  (Wj C s op ty (cg a||cg b) x y).path (λv=>∃c,ag E v=some c/\(do eqGuard op ty a b d f;binOp op ty d f:Sem Value).run C.P w=.ok c w):=by
 by_cases A:∃k i,x=.bS k i
 .obtain⟨k,i,e⟩:=A;have:=BN (w:=w) g h op ty a b x y d f Y j;subst e;exact this
 .by_cases I:∃k i,y=.bS k i
  .obtain⟨k,i,e⟩:=I;have:=BN (w:=w) g h op ty a b x y d f Y j;subst e;cases x<;>first|exact this|exact absurd ⟨_,_,rfl⟩ A
  .have:=qP (w:=w) g h op ty a b x y d f Y j;have e:Wj C s op ty (cg a||cg b) x y=mg C s op ty (cg a||cg b) x y:=by
    cases x<;>first|exact absurd ⟨_,_,rfl⟩ A|(cases y<;>first|rfl|exact absurd ⟨_,_,rfl⟩ I)
   rw[e];exact this
theorem a2M(e:Good C)(b:Rel C base E s w)(d:aD E nt t a.tmps)(op:BinOp)(ty:TypeId)(x y:Operand)(rt:TypeId):
  (Ev op ty x y rt C t s).path (dM C base E s w ((VS (do eqGuard op ty x y (a.eval x) (a.eval y);binOp op ty (a.eval x) (a.eval y))).run C.P w)):=by
 refine R.bh _ (bf b d x) λv f=>?_
 refine R.bh _ (bf b d y) λu g=>?_
 refine R.bh _ (Ma (w:=w) e b op ty x y v u _ _ f g) λr h=>?_
 obtain⟨c,A,I⟩:=h;exact dV b I A
theorem a5P(f:Rel C base E s w)(g:aD E nt t a.tmps)(op:UnOp)(x:Operand)(rt:TypeId):
  (RI op x rt C t s).path (dM C base E s w ((VS (Op.unary op (a.eval x))).run C.P w)):=by
 refine R.bh _ (bf f g x) λv b=>?_
 refine R.bh (λr=>∃c,ag E r=some c/\(Op.unary op (a.eval x)).run C.P w=.ok c w) ?_ λr h=>?_
 .cases op<;>cases v<;>first|trivial|(simp only[ag,ar]at b;rw[<-b];exact⟨_,rfl,rfl⟩)|skip
  .rename_i k e;cases k<;>first|exact R.aJ _ _|skip
   rename_i q;obtain⟨d,A,⟨n,rfl⟩,W⟩:=c7 b;exact⟨.int q (q.wrap (0-n)),dn (d:=.val (.int q (q.wrap (0-n)))) (by simp only[aj,A,aW,e1];rfl) ⟨_,rfl⟩ rfl,by rw[W];rfl⟩
 .obtain⟨c,A,I⟩:=h;exact dV f I A
theorem aG{ty:TypeId}{d:TypeDesc}(h:C.P.underlying ty=some d){j:Type}(f:TypeDesc->Sem j):((underlying ty)>>=f).run C.P w=(f d).run C.P w:=by rw[aA,eQ h];rfl
theorem Y0(b:Rel C base E s w)(d:aD E nt t a.tmps)(f:Fn)(x y:Array Operand)(rt:TypeId):
  (x6 f x y rt C t s).path (dM C base E s w ((VS (Instr.makeFunc f (x.map a.eval) (y.map a.eval))).run C.P w)):=by
 refine R.bh _ (R.aI _ _) λ_ e=>?_
 refine R.bh _ (qO b d x.toList) λv g=>?_
 refine R.bh _ (qO b d y.toList) λu h=>?_
 refine dV b (c:=.func f (x.map a.eval) (y.map a.eval)) rfl ?_;simp only[ag,e,g,h];cases x;cases y;simp
theorem Mo(d:Rel C base E s w)(g:aD E nt t a.tmps)(x:Operand)(i:Nat)(rt:TypeId):
  (lz x i rt C t s).path (dM C base E s w ((VS (Instr.extract (a.eval x) i)).run C.P w)):=by
 refine R.bh _ (bf d g x) λv e=>?_
 cases v with
 |jy l=>
  refine R.bh _ (R.fD _ _) λr f=>?_
  rw[qU]at f;simp only[ag,aN]at e;obtain⟨q,h,j⟩:=e;obtain⟨c,k,b⟩:=jT i r h f;refine dV d (c:=c) ?_ k;rw[<-j];simp[Instr.extract,b]
 |_=>trivial
theorem JW(d:Rel C base E s w)(f:aD E nt t a.tmps)(o:Oper)(x:Operand)(ho:o.op=.nilCheck x)(rt:TypeId):
  (jP x rt C t s).path (dM C base E s w ((execOp a.eval o).run C.P w)):=by
 refine R.bh _ (bf d f x) λv b=>?_
 have key:(∀c,ag E v=some c->(execOp a.eval o).run C.P w=.ok (.value c) w)->dM C base E s w ((execOp a.eval o).run C.P w) (.val v s):=
  λh=>⟨E,_,w,h _ b,b,Step.refl d⟩
 cases v with
 |ptr _ _=>
  refine key λc e=>?_
  rw[b]at e;cases e;simp only[ag,aN]at b;obtain⟨_,_,b⟩:=b;unfold execOp;simp only[ho];rw[<-b];rfl
 |_=>trivial
theorem Vd(f:Good C)(e:Rel C base E s w)(g:aD E nt t a.tmps)(ty:TypeId)(x:Operand)(rt:TypeId):
  (sr ty x rt C t s).path (dM C base E s w ((VS (Instr.makeInterface ty (a.eval x))).run C.P w)):=by
 refine R.bh _ (bw f ty) λd i=>?_
 refine R.bh (λ_=>∀ms,d≠.interface ms) ?_ λ_ b=>?_
 .cases d<;>first|trivial|(intro ms h;cases h)
 refine R.bh _ (bf e g x) λv j=>?_
 refine dV e (c:=.iface ty (a.eval x)) ?_ (by simp[ag,j]);unfold Instr.makeInterface;rw[aG i];cases d<;>first|rfl|exact absurd rfl (b _)
end
end Go.Proofs.YtokipodjggomfaaGreatDoor.Abs
namespace Go.Proofs.YtokipodjggomfaaGreatDoor.Abs
open Go
section
variable{C:Ctx}{base:Nat}{E:G}{s:S}{w:World}{nt:Nat}{t:Tr AV}{a:Act}
theorem lS(v:AV):(zl v).path (λn=>∃k,v=.int k (.ofNat n)):=by
 cases v with
 |int k n=>cases n with
  |ofNat n=>exact⟨k,rfl⟩
  |negSucc n=>trivial
 |_=>trivial
theorem Gx(t:Rel C base E s w){ty:TypeId}{d:TypeDesc}(x:C.P.underlying ty=some d){e v:AV}{g i:Value}(j:ag E e=some g)(y:ag E v=some i):
  (FO s d v e).path (λr=>∃c,ag E r=some c/\(Instr.index ty i g).run C.P w=.ok c w):=by
 refine R.bh _ (R.aI _ _) λ_ z=>?_
 obtain⟨q,k⟩:=pq z;obtain⟨n,A,e1⟩:=ug j k;cases d<;>first|exact R.aJ _ _|skip
 cases Z:zt v<;>first|(simp only;exact R.aJ _ _)|skip
 obtain⟨str,I,l⟩:=FW y Z;simp only;have b:aj E (.a1 .len (cT v))=some (.val (.int .i64 str.size)):=by simp only[aj,I,aW,Go.Proofs.YtokipodjggomfaaGreatDoor.Abs.e1]
 suffices key:0<=n/\n<(str.size:Int)->(R.ok (AV.bS (.int .u8) (.a2 .idx (cT v) (cT e)))).path (λr=>∃c,ag E r=some c/\(Instr.index ty i g).run C.P w=.ok c w) by
  cases o:Kp (cT v) s.pc (cT e)with
  |true=>exact key (Cu (λf B=>(t.pc f B).2) I o A)
  |false=>
   refine R.ew t λD=>key ?_
   rcases na (0<=n/\n<(str.size:Int))with h|h
   .exact h
   .exact absurd ⟨q,n,_,rfl,h⟩ (h4 D (vU A b))
 intro F;obtain⟨m,rfl⟩:=et F.1;have u:m<str.size:=by omega
 have p:m<str.data.toList.length:=u;have a:getElem? str m=some (str.data.toList[m]):=by
  rw[getElem?_pos str m u];cases str with
  |mk G=>cases G;rfl
 refine⟨.int .u8 (str.data.toList[m]).toNat,dn (d:=.val (.int .u8 (str.data.toList[m]).toNat)) ?_ ⟨_,rfl⟩ rfl,?_⟩
 .simp only[aj,A,I,aW,e2];show(str.data.toList[m]?).map _=_;rw[dw p];rfl
 .unfold Instr.index;rw[e1,l];simp only[asIntOf,pure_bind];rw[aG x];have H:(0:Int)<=(m:Int):=ky m;have W:getElem? str ((m:Int)).toNat=some (str.data.toList[m]):=a;simp only[H,aH,W];rfl
theorem Vc(p:Good C)(g:Rel C base E s w)(q:aD E nt t a.tmps)(ty:TypeId)(x i:Operand)(rt:TypeId):
  (sq ty x i rt C t s).path (dM C base E s w ((VS (Instr.index ty (a.eval x) (a.eval i))).run C.P w)):=by
 refine R.bh _ (bf g q i) λj e=>?_
 refine R.bh _ (bf g q x) λv m=>?_
 cases D:Cs j||Cs v with
 |true=>
  refine R.bh _ (bw p ty) λd o=>?_
  have byte:(FO s d v j>>=λr=>R.ok (Nx.val r s)).path (dM C base E s w ((VS (Instr.index ty (a.eval x) (a.eval i))).run C.P w)):=
   R.bh _ (Gx g o e m) λr u=>(let⟨c,A,I⟩:=u;dV g I A)
  exact byte
 |false=>
 refine R.bh _ (lS j) λn y=>?_
 obtain⟨k,rfl⟩:=y;simp only[ag,ar]at e;cases v with
 |str l=>
  refine R.bh _ (bw p ty) λd o=>?_
  cases d with
  |string=>
   simp only[ag,ar]at m;show(match nth l n with|some b=>R.ok (Nx.val (.int .u8 (.ofNat b.toNat)) s)|none=>R.bad _).path _;rw[qU];cases z:l[n]? with
   |none=>trivial
   |some b=>
    refine dV g (c:=.int .u8 (.ofNat b.toNat)) ?_ rfl;unfold Instr.index;rw[<-e,<-m];simp only[asIntOf,pure_bind];rw[aG o];have f:n<l.length:=by grind
    have I:getElem? (ByteArray.mk ⟨l⟩) (Int.ofNat n).toNat=some b:=by show getElem? (ByteArray.mk ⟨l⟩) n=some b;have h:n<(ByteArray.mk ⟨l⟩).size:=f;rw[getElem?_pos (ByteArray.mk ⟨l⟩) n h];have:(ByteArray.mk ⟨l⟩)[n]'h=l[n]'f:=rfl;rw[this,<-z,dw f]
    have B:(0:Int)<=Int.ofNat n:=ky n;simp only[B,aH,I];rfl
  |_=>trivial
 |_=>trivial
theorem GO(j:Good C)(k:Rel C base E s w)(n:aD E nt t a.tmps)(ty:TypeId)(x:Operand)(f:Nat)(rt:TypeId):
  (iF ty x f rt C t s).path (dM C base E s w ((VS (Instr.fieldAt ty (a.eval x) f)).run C.P w)):=by
 refine R.bh _ (bw j ty) λd o=>?_
 cases d with
 |struct p=>
  refine R.bh _ (R.fD _ _) λfd e=>?_
  rw[qU]at e;refine R.bh _ (bY j fd.type) λi V=>?_
  refine R.bh _ (R.aI _ _) λ_ l=>?_
  have g:i.size≠0:=by intro h;rw[h]at l;exact absurd l (by simp)
  refine R.bh _ (bf k n x) λv m=>?_
  cases v with
  |ptr b off=>
   simp only[ag,aN]at m;obtain⟨F,q,r⟩:=m;refine dV k (c:=.pointer (some ⟨F.ay,F.dl+(off+fd.offset),none⟩)) ?_ (by simp[ag,q]);unfold Instr.fieldAt;rw[aG o];have:p[f]? =some fd:=by rw[<-xN];exact e
   simp only[this,<-r,Instr.sureAddr,pure_bind,fieldPlace,bind_assoc,aA,V.2.size w,aP,g,aQ,addr_add];simp[ig]
  |_=>trivial
 |_=>trivial
theorem wL(r:Rel C base E s w){b:Nat}{e:TypeId}{n g:Nat}{j:TI}{F:Loc}(t:C.T.get e=some j)(u:E b=some F)
  (d:oOk s b e n j.size g=true):j.size=g/\g≠0/\n<=F.cp:=by
 simp only[oOk,aw]at d;have c:j.size=g:=aL d.1.1;have m:g≠0:=by intro h;rw[c,h]at d;exact absurd d.1.2 (by simp)
 refine⟨c,m,?_⟩;have a:n*j.size<=Mu s b e:=bn d.2;unfold Mu at a;have f:j.size≠0:=by rw[c];exact m
 have zero:n*j.size<=0->n<=F.cp:=by
  intro h;rcases Fl n with p|p
  .omega
  .have:=Nat.mul_pos p (tW f);omega
 cases i:s.h.get b with
 |none=>rw[i]at a;exact zero a
 |some q=>
  rw[i]at a;cases q with
  |cells el cs v fz fh st sg=>
   simp only at a;cases k:Nat.beq el e
   .rw[k]at a;exact zero a
   .rw[k]at a;have l:el=e:=aL k;subst l;obtain⟨O,o,A,I,vs,lo,V,rfl,g1,g2,⟨ii,g3,g4,g5⟩,g6⟩:=r.ay b _ i;rw[u]at A;obtain rfl:=ae A;rw[t]at g3;obtain rfl:=ae g3;have:n*j.size<=F.cp*j.size:=gn a g4;exact A5 this (tW f)
  |_=>exact zero a
theorem GN(Q:Good C)(o:Rel C base E s w)(ht:aD E nt t a.tmps)(ty:TypeId)(x i:Operand)(rt:TypeId):
  (iE ty x i rt C t s).path (dM C base E s w ((VS (Instr.indexAt ty (a.eval x) (a.eval i))).run C.P w)):=by
 refine R.bh _ (bf o ht i) λG l=>?_
 refine R.bh _ (bf o ht x) λv O=>?_
 refine R.bh _ (bw Q ty) λd hd=>?_
 have hu:(underlying ty).run C.P w=.ok d w:=eQ hd w;have lV:∀(body:Nat->R Nx),(∀n k,G=.int k (.ofNat n)->a.eval i=.int k (.ofNat n)->(body n).path (dM C base E s w ((VS (Instr.indexAt ty (a.eval x) (a.eval i))).run C.P w)))->
   (zl G>>=body).path (dM C base E s w ((VS (Instr.indexAt ty (a.eval x) (a.eval i))).run C.P w)):=by
  intro body H;refine R.bh _ (lS G) λn z=>?_
  obtain⟨k,rfl⟩:=z;simp only[ag,ar]at l;exact H n k rfl l.symm
 cases v with
 |bS k e=>
  cases k<;>first|exact R.aJ _ _|skip
  rename_i u;refine R.bh (λr=>∃c,ag E r=some c/\(Instr.indexAt ty (a.eval x) (a.eval i)).run C.P w=.ok c w) ?_ λr hr=>(let⟨c,A,I⟩:=hr;dV o I A)
  refine R.bh _ (R.aI _ _) λ_ S=>?_
  obtain⟨q,hq2⟩:=pq S;obtain⟨n,A,K⟩:=ug l hq2;cases d<;>first|exact R.aJ _ _|skip
  rename_i T;refine R.bh _ (bY Q T) λj B=>?_
  refine R.bh _ (R.aI _ _) λ_ U=>?_
  simp only[aw]at U;obtain⟨⟨g1, -⟩,g3⟩:=U;have g1:=aL g1;have g3:=aL g3;subst g1;obtain⟨dd,I,⟨sa,sn,sc,g,J,rfl⟩,e3'⟩:=c7 O;have D:aj E (.a1 .len e)=some (.val (.int .i64 sn)):=by simp only[aj,I,aW,Go.Proofs.YtokipodjggomfaaGreatDoor.Abs.e1]
  have fin:0<=n/\n<(sn:Int)->∃c,ag E (.bS (.ptr T 0) (.a2 .el e (cT G)))=some c/\(Instr.indexAt ty (a.eval x) (a.eval i)).run C.P w=.ok c w:=by
   intro H;obtain⟨m,rfl⟩:=et H.1;have hm:m<sn:=by omega
   rcases eh o.rd e _ I with⟨g4, -⟩|⟨L,⟨ad,n',c',g4, -,g9⟩, -⟩
   .injection g4 with g6 g7 g8;omega
   .injection g4 with g6 g7 g8;subst g6;subst g7;have g5:=(g9 (by omega)).1;obtain⟨ab,ao,asp⟩:=ad;simp only at g5;subst g5;refine⟨.pointer (some ⟨ab,ao+m*g,none⟩),dn (d:=.pt (.pointer (some ⟨ab,ao+m*g,none⟩)) T g J (m*g) 0) ?_ ⟨_,_,_,_,rfl⟩ rfl,?_⟩
    .grind[aj,e2]
    .have V:(0:Int)<=(m:Int)/\(m:Int)<(sn:Int):=H;unfold Instr.indexAt;rw[K,e3'];have hjs:j.size=g:=by rw[g3,L];rfl
     simp only[Dt.v,asIntOf,pure_bind,aA,hu,aP,aY,V,and_self,aH,B.2.size w,addr_add,hjs];simp
  cases M:gD (cT G) (.a1 .len e) s.pc with
  |true=>exact fin (fS (E:=E) (λf hf=>(o.pc f hf).2) M A D)
  |false=>
   refine R.ew o λz=>fin ?_
   rcases na (0<=n/\n<(sn:Int))with h|h
   .exact h
   .exact absurd ⟨q,n,_,rfl,h⟩ (h4 z (vU A D))
 |gR b n c=>
  obtain⟨F,k,q,W,X,hc0,Z,hq,Y⟩:=gH O;refine R.bh (λr=>∃c,ag E r=some c/\(Instr.indexAt ty (a.eval x) (a.eval i)).run C.P w=.ok c w) ?_ λr hr=>(let⟨c,A,I⟩:=hr;dV o I A)
  refine R.bh _ (R.aI _ _) λ_ S=>?_
  obtain⟨kd,hkd⟩:=pq S;obtain⟨m,A,K⟩:=ug l hkd;cases d<;>first|exact R.aJ _ _|skip
  rename_i T;refine R.bh _ (bY Q T) λj B=>?_
  have fin:(0<=m/\m<(k:Int))->∃c,ag E (.gS b (cT G) j.size 0)=some c/\(Instr.indexAt ty (a.eval x) (a.eval i)).run C.P w=.ok c w:=by
   intro H;obtain⟨p,rfl⟩:=et H.1;have hp:p<F.cp:=by omega
   refine⟨.pointer (some ⟨F.ay,F.dl+(p*j.size+0),none⟩),?_,?_⟩
   .grind[ag,IB]
   .unfold Instr.indexAt;rw[K,Y];simp only[asIntOf,pure_bind,aA,hu,aP,aY,H,and_self,aH,B.2.size w,addr_add];simp
  cases M:gD (cT G) n s.pc with
  |true=>exact fin (fS (λf hf=>(o.pc f hf).2) M A X)
  |false=>
   refine R.ew o λz=>?_
   refine fin ?_;rcases na (0<=m/\m<(k:Int))with h|h
   .exact h
   .exact absurd ⟨kd,m,_,rfl,h⟩ (h4 z (vU A X))
 |ptr b off=>exact R.aJ _ _
 |sl b off len cap=>
  refine lV _ λn k z l=>?_
  have l:=l.symm;cases d with
  |slice e=>
   simp only[ag,aN]at O;obtain⟨F,W,Y⟩:=O;show(match Nat.blt n len with|true=>(do let j <-ti C e;R.ok (Nx.val (.ptr b (Nat.add off (Nat.mul n j.size))) s))|false=>R.bad _).path _;cases N:Nat.blt n len
   .trivial
   .have y:n<len:=by simpa[rG]using N
    refine R.bh _ (bY Q e) λj B=>?_
    refine dV o (c:=.pointer (some ⟨F.ay,F.dl+(off+n*j.size),none⟩)) ?_ (by simp[ag,W]);have V:(0:Int)<=Int.ofNat n/\Int.ofNat n<(len:Int):=⟨ky n,Int.ofNat_lt.2 y⟩;unfold Instr.indexAt;rw[<-l,<-Y];simp only[asIntOf,pure_bind,aA,hu,aP,aY,V,and_self,aH,B.2.size w,addr_add];simp[ig]
  |_=>trivial
 |np b pre e0 len g=>
  refine lV _ λn k z l=>?_
  have l:=l.symm;cases d with
  |slice e=>
   simp only[ag,aN]at O;obtain⟨F,W,Y⟩:=O;show(match Nat.blt n len with|true=>(do let j <-ti C e;bD (oOk s b e (Nat.add e0 len) j.size g) "index size";R.ok (Nx.val (.ptr b (Nat.mul (Nat.add e0 n) g)) s))|false=>R.bad _).path _;cases N:Nat.blt n len
   .trivial
   .have y:n<len:=by simpa[rG]using N
    refine R.bh _ (bY Q e) λj B=>?_
    refine R.bh _ (R.aI _ _) λ_ S=>?_
    obtain⟨L,hz,hle⟩:=wL o B.1 W S;have a3h:e0+len<=F.cp:=hle;have hcp:e0<F.cp:=by omega
    refine dV o (c:=.pointer (some ⟨F.ay,F.dl+(e0+n)*g,none⟩)) ?_ (by simp[ag,W]);have V:(0:Int)<=Int.ofNat n/\Int.ofNat n<(len:Int):=⟨ky n,Int.ofNat_lt.2 y⟩;unfold Instr.indexAt;rw[<-l,<-Y];simp only[asIntOf,pure_bind,aA,hu,aP,aY,V,and_self,aH,B.2.size w,addr_add,hcp,L];simp[ig,cY]
  |_=>trivial
 |_=>exact lV _ λn k z l=>R.aJ _ _
end
end Go.Proofs.YtokipodjggomfaaGreatDoor.Abs
namespace Go.Proofs.YtokipodjggomfaaGreatDoor.Abs
open Go
section
variable{C:Ctx}{base:Nat}{E:G}{s:S}{w:World}{nt:Nat}{t:Tr AV}{a:Act}
theorem lQ(v:AV)(c:Value)(a:ag E v=some c):v.cells.path (λl=>ax E l=some c.cells.toList):=by
 cases v with
 |agg cs=>simp only[ag,aN]at a;obtain⟨r,e,rfl⟩:=a;exact e
 |junk=>trivial
 |raw u=>simp only[ag,ar]at a;subst a;cases u<;>first|trivial|(show ax E _=_;simp[ax,ag,Value.cells])
 |bS k i=>have A:=KD a;cases c<;>first|(cases A;done)|(show ax E [_]=_;rw[av];exact⟨_,[],a,rfl,rfl⟩)
 |gR b n c'=>have d:=a;obtain⟨_,_,_,_,_,_,_,_,rfl⟩:=gH a;show ax E [_]=_;rw[av];exact⟨_,[],d,rfl,rfl⟩
 |gS b i g k=>have d:=a;obtain⟨_,_,_,_,_,_,rfl⟩:=om a;show ax E [_]=_;rw[av];exact⟨_,[],d,rfl,rfl⟩
 |fn f h j=>have d:=a;simp only[ag]at a;cases m:ji f<;>cases A:ax E h<;>cases I:ax E j<;>simp only[m,A,I,reduceCtorEq,ar]at a;subst a;show ax E [_]=_;rw[av];exact⟨_,[],d,rfl,rfl⟩
 |_=>
  have d:=a;simp only[ag,aN,ar]at a
  first
   |(subst a;show ax E [_]=_;rw[av];exact⟨_,[],d,rfl,rfl⟩)
   |(obtain⟨l,o,rfl⟩:=a;show ax E [_]=_;rw[av];exact⟨_,[],d,rfl,rfl⟩)
theorem YZ(e:Good C)(d:Rel C base E s w)(f:aD E nt t a.tmps)(ty:TypeId)(x:Operand)(rt:TypeId):
  (x5 ty x rt C t s).path (dM C base E s w ((VS (Instr.loadAt ty (a.eval x))).run C.P w)):=by
 refine R.bh _ (bf d f x) λv g=>?_
 refine R.bh _ (yP e d ty v _ g) λu h=>?_
 obtain⟨ad,c,i, -,j,b⟩:=h;refine dV d (c:=c) ?_ j;rw[i];simp only[Instr.loadAt,Instr.sureAddr,pure_bind];exact b
theorem RM{v:AV}{c:Value}(h:a2J v=true)(a:ag E v=some c):c.oneCell'=true:=by
 cases v with
 |bS k i=>have A:=KD a;cases c<;>first|(cases A;done)|rfl
 |fn f d e=>simp only[ag]at a;cases j:ji f<;>cases A:ax E d<;>cases I:ax E e<;>simp only[j,A,I,reduceCtorEq,ar]at a;subst a;rfl
 |agg _|jy _|junk=>cases h
 |gR b n c'=>obtain⟨_,_,_,_,_,_,_,_,rfl⟩:=gH a;rfl
 |gS b i g k=>obtain⟨_,_,_,_,_,_,rfl⟩:=om a;rfl
 |raw u=>simp only[ag,ar]at a;subst a;cases u<;>first|rfl|cases h
 |_=>
  simp only[ag,aN,ar]at a
  first
   |(subst a;rfl)
   |(obtain⟨l,m,rfl⟩:=a;rfl)
theorem kq:∀{l:List AV}{r:List Value},kJ l=true->ax E l=some r->∀c∈r,c.oneCell'=true
 | [],r,_,b,c,a=>by simp[ax]at b;subst b;simp at a
 |v::l,r,h,b,c,a=>by
  obtain⟨x,y,Y,d,rfl⟩:=av.1 b;unfold kJ at h;cases ho:a2J v
  .rw[ho]at h;cases h
  .rw[ho]at h;rcases bQ.1 a with rfl|a
   .exact RM ho Y
   .exact kq h d c a
theorem B2{v:Value}(h:v.oneCell'=true):(∀q,v≠.agg q)/\(∀q,v≠.tuple q):=by
 constructor
 .rintro q rfl;cases h
 .rintro q rfl;cases h
def fK:Array Value->Nat->List Value->Array Value
 |arr,_,[]=>arr
 |arr,i,v::l=>fK (arr.setIfInBounds i v) (i+1) l
theorem cC:∀(l:List Value)(arr:Array Value)(i:Nat),(fK arr i l).size=arr.size
 | [],_,_=>rfl
 |v::l,arr,i=>by rw[fK,cC l];simp
theorem fJ:∀(l:List Value)(arr:Array Value)(i j:Nat),i+l.length<=arr.size->
  (fK arr i l)[j]? =if i<=j/\j<i+l.length then l[j-i]? else arr[j]?
 | [],arr,i,j,_=>by rw[ai (by simp only[dv];omega)];rfl
 |v::l,arr,i,j,h=>by
  simp only[bZ]at h;rw[fK,fJ l _ _ _ (by simp;omega)];by_cases A:i+1<=j/\j<i+1+l.length
  .grind
  .grind
theorem eX{P:Program}(ay:Nat)(elem:TypeId)(lo V:Nat):∀(vs:List Value)(o i:Nat)(arr:Array Value)(w:World),
  w.heap[ay]? =some (.cells arr elem (lo,V))->o+i+vs.length<=arr.size->(∀v∈vs,v.oneCell'=true)->(∀off,o+i<=off->off<o+i+vs.length->¬(lo<=off/\off<V))->
  (storeCells ⟨ay,o,none⟩ vs i).run P w=.ok () { w with heap:=w.heap.setIfInBounds ay (.cells (fK arr (o+i) vs) elem (lo,V)) }
 | [],o,i,arr,w,b,_,_,_=>by
   have a:ay<w.heap.size:=by
    rcases cV ay w.heap.size with h|h
    .exact h
    .rw[Fv h]at b;cases b
   have:w.heap.setIfInBounds ay (.cells (fK arr (o+i) []) elem (lo,V))=w.heap:=by
    apply vx;intro k;rw[qm];by_cases h:ay=k
    .subst h;simp only[a,aH];exact b.symm
    .simp[h]
   rw[this];rfl
 |v::vs,o,i,arr,w,b,f,c,d=>by
  simp only[bZ]at f d;have e:w.cell? ⟨ay,o+i,none⟩=arr[o+i]? :=by simp[World.cell?,b]
  have j:o+i<arr.size:=by omega
  have p:w.cell? ⟨ay,o+i,none⟩=some arr[o+i]:=by rw[e];exact dR j
  have q:w.frozen? ⟨ay,o+i,none⟩=false:=by have:=d (o+i) (by omega) (by omega);simp only[World.frozen?,b];simpa using this
  have a:ay<w.heap.size:=by
   rcases cV ay w.heap.size with h|h
   .exact h
   .rw[Fv h]at b;cases b
  have A:=B2 (c v (by simp));have l:(store ⟨ay,o+i,none⟩ v).run P w=.ok () (w.setCell ⟨ay,o+i,none⟩ v):=by unfold store;cases v<;>first|exact absurd rfl (A.1 _)|exact absurd rfl (A.2 _)|(simp only[Sem.run,p,q];rfl)
  have g:w.setCell ⟨ay,o+i,none⟩ v={ w with heap:=w.heap.setIfInBounds ay (.cells (arr.setIfInBounds (o+i) v) elem (lo,V)) }:=by
   unfold World.setCell;congr 1;apply vx;intro k;rw[Ft,qm];by_cases h:ay=k
   .subst h;have m:w.heap[ay]=.cells arr elem (lo,V):=by
     rw[dR a]at b;exact ae b
    simp[a,m]
   .simp[h]
  unfold storeCells;rw[aA,addr_add,l,aP,g];have n:({ w with heap:=w.heap.setIfInBounds ay (.cells (arr.setIfInBounds (o+i) v) elem (lo,V)) }:World).heap[ay]? =some (.cells (arr.setIfInBounds (o+i) v) elem (lo,V)):=by simp[a]
  rw[eX ay elem lo V vs o (i+1) _ _ n (by simp;omega) (λx Y=>c x (by simp[Y])) (λoff A I=>d off (by omega) (by omega))];congr 2;show(w.heap.setIfInBounds ay _).setIfInBounds ay _=w.heap.setIfInBounds ay _;apply vx;intro k;simp only[qm,Array.size_setIfInBounds];by_cases h:ay=k
  .subst h;simp[a,fK];rfl
  .simp[h]
theorem uQ:∀(l:List Nat)(h:Tr eD)(i:Nat),(kH l h).get i=if i∈l then none else h.get i
 | [],h,i=>by simp[kH]
 |a::l,h,i=>by
  show(kH l (h.del a)).get i=_;rw[uQ l];by_cases A:i∈l
  .simp[A]
  .grind[Tr.sF]
theorem oZ(m:Rel C base E s w)(b off:Nat)(vs:List AV)(cs:List Value)(e:ax E vs=some cs)(F:Loc)(g:E b=some F):
  (gQ s b off vs).path (λU=>∃M,(storeCells ⟨F.ay,F.dl+off,none⟩ cs).run C.P w=.ok () M/\Step C base E s w E U M):=by
 unfold gQ;cases vs with
 |nil=>simp only[ax,ar]at e;subst e;exact⟨w,rfl,Step.refl m⟩
 |cons v d=>
  simp only;cases p:s.h.get b with
  |none=>trivial
  |some x=>
   cases x with
   |cells elem cells n fz fh st sg=>
    simp only;cases X:(!st&&Nat.ble (Nat.add off (v::d).length) n&&Nat.ble fz off&&kJ (v::d))with
    |false=>trivial
    |true=>
     simp only[aw,fY]at X;obtain⟨⟨⟨G,H⟩,J⟩,r⟩:=X;have a3h:off+(v::d).length<=n:=bn H;have a8E:fz<=off:=bn J;subst G;obtain⟨O,o,A,I,arr,lo,V,rfl,g1,g2,g3,g4,K⟩:=m.ay b _ p;rw[g]at A;obtain rfl:=ae A;have hlen:=ba e;have t:=eX (P:=C.P) F.ay elem lo V cs (F.dl+off) 0 arr w I (by omega) (kq r e) (by
      intro q hq1 hq2 hq;rcases g4 rfl q hq.1 hq.2 with h|⟨_,h⟩<;>omega)
     have L:F.ay<w.heap.size:=by grind
     refine⟨_,t,?_⟩;have f:∀i x,i≠b->((kH fh s.h).set b (.cells elem (Tr.iZ (v::d) off cells) n fz [] false sg)).get i=some x->s.h.get i=some x/\i ∉ fh:=by grind[Tr.get_set_other,uQ]
     have a:∀i x li,i≠b->((kH fh s.h).set b (.cells elem (Tr.iZ (v::d) off cells) n fz [] false sg)).get i=some x->E i=some li->li.ay=F.ay->False:=by
      intro i x li V Y y N;obtain⟨Q,hx2⟩:=f i x V Y;rcases m.sep i b x _ li F Q p y g V N with h|h
      .cases x<;>simp[fg]at h
      .cases x<;>simp[fg]at h;exact hx2 h.1
     have z:Rel C base E ⟨(kH fh s.h).set b (.cells elem (Tr.iZ (v::d) off cells) n fz [] false sg),s.next,s.pc⟩
       { w with heap:=w.heap.setIfInBounds F.ay (.cells (fK arr (F.dl+off+0) cs) elem (lo,V)) }:=by
      refine m.xV p g g ⟨rfl,rfl,rfl⟩ rfl (λ_ _=>rfl) (λi x V Y=>(f i x V Y).1) (Tr.get_set_same _ _ _)
       (T:=.cells (fK arr (F.dl+off+0) cs) elem (lo,V)) ?_ ?_ (by simp) ?_ (λi x li V Y W D=>(a i x li V Y W D).elim) (λi x li V Y W D=>(a i x li V Y W D).elim)
      .intro k Z;simp[cm Z]
      .simp[L]
      .refine⟨_,lo,V,rfl,by rw[cC];exact g1,?_,?_,?_,K⟩
       .intro i u R B;rw[Tr.rm]at B;by_cases hr:off<=i/\i<off+(v::d).length
        .rw[az hr]at B;obtain⟨c,S,j⟩:=jT _ _ e B;refine⟨c,?_,.inr S⟩;rw[fJ _ _ _ _ (by omega),az (by omega)];rw[show F.dl+i-(F.dl+off+0)=i-off by omega];exact j
        .rw[ai hr]at B;obtain⟨c,S,j⟩:=g2 i u R B;refine⟨c,?_,j⟩;rw[fJ _ _ _ _ (by omega),ai (by omega)];exact S
       .rw[cC];exact g3
       .rw[cC];exact g4
     refine Step.of ⟨Grow.refl E,z,⟨by simp,rfl,rfl,rfl,?_⟩,?_,aX _,λ_ _ h=>m.lt h,λ_ l h=>.inl ⟨l,h⟩,?_⟩
     .intro k ob Z hn;have:k≠F.ay:=λh=>hn ⟨b,_,F,p,rfl,g,h.symm⟩
      simp[cm this,Z]
     .rintro k ⟨i,x,li,W,D,h5,h6⟩ _;by_cases V:i=b
      .subst V;rw[g]at h5;obtain rfl:=ae h5;exact⟨i,_,F,p,rfl,g,h6⟩
      .exact⟨i,x,li,(f i x V W).1,D,h5,h6⟩
     .grind
   |_=>trivial
def ot(E:G)(P:List Kd):Nat->List SE->List Dt->Prop
 |_,[],[]=>True
 |p,x::xs,d::ds=>aj E x=some d/\(∃q,P[p%P.length]? =some q/\q.fits d)/\ot E P (p+1) xs ds
 |_,_,_=>False
theorem xx{P:List Kd}:∀{p:Nat}{xs:List SE}{ds:List Dt},ot E P p xs ds->xs.length=ds.length
 |_,[],[],_=>rfl
 |_,_::_,_::_,h=>by simp[xx h.2.2]
 |_,[],_::_,h=>h.elim
 |_,_::_,[],h=>h.elim
theorem tt{P:List Kd}{x:SE}{d:Dt}:∀{p:Nat}{xs:List SE}{ds:List Dt},ot E P p xs ds->aj E x=some d->(∃q,P[(p+ds.length)%P.length]? =some q/\q.fits d)->ot E P p (xs++[x]) (ds++[d])
 |p,[],[],_,A,I=>⟨A,I,dB⟩
 |p,_::_,_::ds,h,A,I=>⟨h.1,h.2.1,tt h.2.2 A (by rw[show p+1+ds.length=p+(ds.length+1) by omega];exact I)⟩
 |_,[],_::_,h,_,_=>h.elim
 |_,_::_,[],h,_,_=>h.elim
theorem DW{P:List Kd}:∀(y:SE)(acc:List SE)(J:List Dt),aj E y=some (.ls P J)->
  ∃(pre:List SE)(a ds:List Dt),(mv y acc).2=pre++acc/\aj E (mv y acc).1=some (.ls P a)/\J=a++ds/\ot E P a.length pre ds
 | .var _,_,J,h| .int _ _,_,J,h| .bool _,_,J,h| .str _,_,J,h| .a1 _ _,_,J,h| .a3 _ _ _ _,_,J,h=>⟨[],J,[],rfl,h,by simp,dB⟩
 | .a2 o x y,acc,J,h=>by
   by_cases ho:o=.sn
   .subst ho;simp only[aj,bW]at h;obtain⟨u,c,d,f,h⟩:=h;simp only[e2]at h;cases u<;>first|(cases h;done)|skip
    rename_i g b;simp only at h;split at h
    .next Z=>
     have h:=ae h;injection h with A I;subst A;subst I;obtain⟨pre,a,ds,g1,g2,g3,g4⟩:=DW x (y::acc) b c;refine⟨pre++[y],a,ds++[d],?_,g2,by rw[g3,jI],tt g4 f ?_⟩
     .grind[mv]
     .rw[g3,bL]at Z;exact Z
    .cases h
   .have e:mv (.a2 o x y) acc=(.a2 o x y,acc):=by
      cases o<;>first|rfl|exact absurd rfl ho
    rw[e];exact⟨[],J,[],rfl,h,by simp,dB⟩
theorem JV{a:List Kd}:∀(xs:List SE)(P:List Kd)(e:Nat)(ds:List Dt),ot E a e xs ds->(∃p,P=a.drop p/\p<=a.length/\e%a.length=p%a.length)->
  ax E (nr a xs P)=some (ds.map Dt.v)
 | [],_,_,[],_,_=>rfl
 |x::xs,P,e,d::ds,h,⟨p,r,s,f⟩=>by
  obtain⟨A,⟨w,I,W⟩,D⟩:=h;have step:∀(q:Kd)(b:List Kd)(p':Nat),a[e%a.length]? =some q->b=a.drop p'->p'<=a.length->(e+1)%a.length=p'%a.length->ax E (.bS q x::nr a xs b)=some ((d::ds).map Dt.v):=by intro q b p' t j g u;rw[t]at I;obtain rfl:=ae I;exact av.2 ⟨d.v,ds.map Dt.v,dn A W rfl,JV xs b (e+1) ds D ⟨p',j,g,u⟩,rfl⟩
  cases P with
  |nil=>
   have k:p=a.length:=by grind[List.length_nil,List.length_drop]
   cases a with
   |nil=>simp at I
   |cons q b=>
    have n:e%(q::b).length=0:=by rw[f,k,Nat.mod_self]
    refine step q b 1 (by rw[n];rfl) rfl (by simp) ?_;rw[rH,n,du,Nat.mod_mod]
  |cons q b=>
   have c:p<a.length:=by grind
   have o:=Fx c;rw[<-r]at o;injection o with l m;have i:e%a.length=p:=by rw[f,jH c]
   refine step q b (p+1) (by rw[i,dw c,l]) m c ?_;rw[rH,i,rH p 1,jH c]
 | [],_,_,_::_,h,_=>h.elim
 |_::_,_,_,[],h,_=>h.elim
theorem Q7{e:SE}{p:Nat×SE}(h:T2 e=some p):∃x,e=.a2 (.tk p.1) x p.2:=by
 unfold T2 at h;cases e<;>first|(cases h;done)|skip
 rename_i o x y;cases o<;>first|(cases h;done)|skip
 obtain rfl:=ae h;exact⟨x,rfl⟩
theorem DE(hR:Rel C base E s w)(b:Nat)(i:SE)(g k:Nat)(c:List AV)(cs:List Value)(S:ax E c=some cs){F:Loc}(hl:E b=some F){kd:IntKind}{q:Nat}(V:aj E i=some (.val (.int kd (.ofNat q)))):
  (hJ C s b i g k c).path (λU=>∃M,(storeCells ⟨F.ay,F.dl+(q*g+k),none⟩ cs).run C.P w=.ok () M/\Step C base E s w E U M):=by
 unfold hJ;cases hb:s.h.get b with
 |none=>exact R.aJ _ _
 |some x0=>
  cases x0 with
  |vec el y=>
   simp only;obtain⟨O,o,A,I,vs,lo,K,J,rfl,g1,g2,⟨ii,g3,g4,g5,g6,g7⟩,g8,g9⟩:=hR.ay b _ hb;rw[hl]at A;obtain rfl:=ae A;obtain⟨pre,r,ds,u1,L,u3,u4⟩:=DW y [] J g1;rw[zP]at u1;cases ht:T2 (mv y []).1 with
   |none=>exact R.aJ _ _
   |some p=>
    simp only;cases hg:((Nat.beq p.1 g&&b5 p.2 i)&&(Nat.beq g (aq C el).length&&(!Nat.beq g 0&&(Nat.ble (Nat.add k c.length) (mv y []).2.length&&kJ c))))with
    |false=>exact R.aJ _ _
    |true=>
     simp only[aw,fY]at hg;obtain⟨⟨q1,q2⟩,q3,q4,q5,q6⟩:=hg;have q1:=aL q1;have q2:=aK q2;have q3:=aL q3;have q5:k+c.length<=(mv y []).2.length:=bn q5;obtain⟨x,Y⟩:=Q7 ht;rw[Y,q1,q2]at L;simp only[aj,V,bW]at L;obtain⟨dx,hdx,d2,hd2,L⟩:=L;obtain rfl:=ae hd2;simp only[e2]at L;cases dx<;>first|(cases L;done)|skip
     rename_i ksx esx;simp only at L;have f:r.length=q*g/\aj E (mv y []).1=some (.ls (aq C el) r):=by
      split at L
      .grind[aj,e2]
      .cases L
     obtain⟨f,X⟩:=f;have hpl:=xx u4;have G:=JV pre (aq C el) r.length ds u4 ⟨0,rfl,j0 _,by rw[f,<-q3,rT];simp⟩;rw[<-u1]at G;have a7X:=dI (dI (uU k G) S) (uV (k+c.length) G);cases hy:nN C (aq C el) ((nr (aq C el) (mv y []).2 (aq C el)).take k++c++(nr (aq C el) (mv y []).2 (aq C el)).drop (Nat.add k c.length)) (aq C el) (mv y []).1 with
     |none=>exact R.aJ _ _
     |some y'=>
      obtain⟨N,s1,s2⟩:=oO _ (aq C el) _ y' r _ a7X X ⟨0,rfl,j0 _,by rw[f,<-q3,rT];simp⟩ hy;have hcl:=ba S;rw[u1]at q5;have hdl:ds.length=pre.length:=hpl.symm;have hvl:(ds.map Dt.v).length=pre.length:=by rw[oH,hdl]
      have a8a:J.length=q*g+pre.length:=by rw[u3,bL,f,hdl]
      have a3k:N.length=pre.length:=by grind[List.length_map,List.length_append,List.length_take,List.length_drop]
      have Zy:=eX (P:=C.P) F.ay el lo K cs (F.dl+(q*g+k)) 0 vs w I (by omega) (kq q6 S) (by
       intro z hz1 hz2 hz;have:=g8 z hz.1 hz.2;omega)
      have Kr:F.ay<w.heap.size:=by grind
      refine⟨_,Zy,?_⟩;have hno:∀n t li,n≠b->s.h.get n=some t->E n=some li->li.ay=F.ay->False:=by
       intro n t li u H hli hbl;rcases hR.sep n b t _ li F H hb hli hl u hbl with h'|h'
       .cases t<;>simp[fg]at h'
       .simp[fg]at h'
      have B:∀n t,n≠b->(s.h.set b (.vec el y')).get n=some t->s.h.get n=some t:=by grind[Tr.get_set_other]
      have VP:Rel C base E ⟨s.h.set b (.vec el y'),s.next,s.pc⟩ { w with heap:=w.heap.setIfInBounds F.ay (.cells (fK vs (F.dl+(q*g+k)+0) cs) el (lo,K)) }:=by
       refine hR.xV hb hl hl ⟨rfl,rfl,rfl⟩ rfl (λ_ _=>rfl) B (Tr.get_set_same _ _ _) (T:=.cells (fK vs (F.dl+(q*g+k)+0) cs) el (lo,K)) (λk' Z=>by simp[cm Z]) (by simp[Kr]) (by simp) ?_
        (λn t li u H W D=>(hno n t li u (B n t u H) W D).elim) (λn t li u H W D=>(hno n t li u (B n t u H) W D).elim)
       refine⟨_,lo,K,r++N,rfl,s1,λj d hj=>?_,⟨ii,g3,g4,by rw[bL,f,a3k,<-a8a];exact g5,by rw[cC];exact g6,g7⟩,(λoff a b=>by rw[cC];exact g8 off a b),g9⟩;have a8G:cs.length=c.length:=hcl;rw[fJ _ _ _ _ (by omega)];rw[lE]at hj;split at hj
       .grind
       .next hge=>
        have Q:(N.map Dt.v)[j-r.length]? =some d.v:=by rw[ik,hj];rfl
        rw[s2]at Q;have hjl:j-r.length<N.length:=(jK.1 hj).1;have a6i:∀m:Nat,m<ds.length->(ds.map Dt.v)[m]? =vs[F.dl+(q*g+m)]? :=by intro m hm;rw[ik,dw hm];have:=g2 (q*g+m) ds[m] (by rw[u3,A4 (by omega),show q*g+m-r.length=m by omega,dw hm]);rw[this];rfl
        rw[jI,lE]at Q;split at Q
        .grind
        .next h5=>
         rw[cG]at h5 Q;rw[lE]at Q;split at Q
         .grind
         .next h6=>
          rw[oD,a6i _ (by omega)]at Q;rw[ai (by omega),<-Q];congr 1;omega
      refine Step.of ⟨Grow.refl E,VP,⟨by simp,rfl,rfl,rfl,?_⟩,?_,aX _,λ_ _ h=>hR.lt h,λ_ l h=>.inl ⟨l,h⟩,?_⟩
      .intro k' ob Z hn;have:k'≠F.ay:=λh=>hn ⟨b,_,F,hb,rfl,hl,h.symm⟩
       simp[cm this,Z]
      .rintro k' ⟨n,t,li,W,D,h5,h6⟩ _;by_cases e:n=b
       .subst e;exact⟨n,_,li,hb,rfl,h5,h6⟩
       .exact⟨n,t,li,B n t e W,D,h5,h6⟩
      .grind
  |_=>exact R.aJ _ _
theorem Vb(r:Good C)(j:Rel C base E s w)(z:aD E nt t a.tmps)(ty:TypeId)(x y:Operand)(rt:TypeId):
  (o6 ty x y rt C t s).path (dM C base E s w ((US (Instr.storeAt ty (a.eval x) (a.eval y))).run C.P w)):=by
 refine R.bh _ (bf j z x) λv l=>?_
 refine R.bh _ (bf j z y) λu B=>?_
 refine R.bh (λU=>∃M,(Instr.storeAt ty (a.eval x) (a.eval y)).run C.P w=.ok () M/\Step C base E s w E U M) ?_ λU m=>?_
 .cases v with
  |ptr b off=>
   refine R.bh _ (bY r ty) λi V=>?_
   refine R.bh _ (lQ u _ B) λc h=>?_
   show(match Nat.beq c.length i.size with|true=>gQ s b off c|false=>R.bad _).path _;cases d:Nat.beq c.length i.size
   .trivial
   .have e:c.length=i.size:=aL d;simp only[ag,aN]at l;obtain⟨F,n,o⟩:=l;refine R.aE ?_ (oZ j b off c _ h F n);rintro U ⟨M,A,I⟩;refine⟨M,?_,I⟩;have f:(a.eval y).cells.size=i.size:=by
     have:=ba h;simp at this;omega
    rw[<-o];simp only[Instr.storeAt,Instr.sureAddr,pure_bind,storeVar,aA,V.2.size w,aP,f,ne_eq,tV,aQ];exact A
  |gS b k g q=>
   refine R.bh _ (bY r ty) λi V=>?_
   refine R.bh _ (lQ u _ B) λc h=>?_
   show(match Nat.beq c.length i.size with|true=>hJ C s b k g q c|false=>R.bad _).path _;cases d:Nat.beq c.length i.size
   .trivial
   .have e:c.length=i.size:=aL d;obtain⟨F,p,G,n,D,H,o⟩:=om l;refine R.aE ?_ (DE j b k g q c _ h n D);rintro U ⟨M,A,I⟩;refine⟨M,?_,I⟩;have f:(a.eval y).cells.size=i.size:=by
     have:=ba h;simp at this;omega
    rw[o];simp only[Instr.storeAt,Instr.sureAddr,pure_bind,storeVar,aA,V.2.size w,aP,f,ne_eq,tV,aQ];exact A
  |_=>trivial
 .obtain⟨M,A,I⟩:=m;exact⟨E,M,by simp[US,A],I⟩
end
end Go.Proofs.YtokipodjggomfaaGreatDoor.Abs
