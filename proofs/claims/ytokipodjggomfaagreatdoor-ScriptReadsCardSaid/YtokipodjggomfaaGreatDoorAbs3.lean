/- Part 3 of an abstract machine that evaluates programs of the model in the kernel. Conditions: those of each theorem. -/
import Derived.Test.YtokipodjggomfaaGreatDoorAbs2
import Derived.WideLaws
import Derived.Laws.Strings
import Derived.Laws.StructEq
set_option linter.unusedVariables false
set_option linter.unusedSimpArgs false
namespace Go.Proofs.YtokipodjggomfaaGreatDoor.Abs
section
variable{C:Ctx}{base:Nat}{E:G}{s:S}{w:World}{nt:Nat}{t:Tr AV}{a:Act}
theorem WH(op:BinOp)(a:bS op=false)(k:IntKind)(x y:Int)(ty:TypeId)(P:Program)(w:World):
  (bM op k x y).path (λv=>∃c,ai E v=some c/\(binOp op ty (.int k x) (.int k y)).run P w=.ok c w):=by
 cases op<;>first|(cases a;done)|skip
 case quo=>
  show(match decide (y=0)with|true=>R.bad _|false=>R.ok (AV.int k (k.wrap (x.tdiv y)))).path _;cases h:decide (y=0)
  .exact⟨_,rfl,by simp[binOp,Op.intDiv,iH h]⟩
  .trivial
 case rem=>
  show(match decide (y=0)with|true=>R.bad _|false=>R.ok (AV.int k (x.tmod y))).path _;cases h:decide (y=0)
  .exact⟨_,rfl,by simp[binOp,Op.intDiv,iH h]⟩
  .trivial
 all_goals first
  |(refine⟨_,rfl,?_⟩;simp[binOp,Op.intArith];done)
  |(refine⟨_,rfl,?_⟩;simp only[binOp,ne_eq,kW,br];rfl)
  |(refine⟨_,rfl,?_⟩;simp[binOp,Op.intCmp];done)
  |trivial
theorem NR(op:BinOp)(a:bS op=true)(k k':IntKind)(x y:Int)(ty:TypeId)(P:Program)(w:World):
  (oS op k x y).path (λv=>∃c,ai E v=some c/\(binOp op ty (.int k x) (.int k' y)).run P w=.ok c w):=by
 unfold oS;cases h:decide (y<0)
 .have h':=iH h;cases op<;>simp only[bS,fa]at a
  .exact⟨_,rfl,by simp[binOp,Op.shift,h']⟩
  .exact⟨_,rfl,by simp[binOp,Op.shift,h']⟩
 .trivial
theorem je:∀(x y:List UInt8),eB x y=true↔x=y
 | [],[]=>by simp[eB]
 | [],_::_=>by simp[eB]
 |_::_,[]=>by simp[eB]
 |a::x,b::y=>by
  simp only[eB];cases h:Nat.beq a.toNat b.toNat
  .simp only[fa,pj,false_iff];rintro⟨rfl,_⟩;simp at h
  .have:a.toNat=b.toNat:=bj h;have c:a=b:=hD.1 this;simp only[c,pj,fp];exact je x y
theorem Ef(x y:List UInt8):eB x y=(x==y):=by grind[je]
theorem HU:∀(x y:List UInt8),lL x y=Op.bytesLess x y
 |x,[]=>by cases x<;>simp[lL,Op.bytesLess]
 | [],_::_=>by simp[lL,Op.bytesLess]
 |a::x,b::y=>by
  simp only[lL,Op.bytesLess];have e1:Nat.blt a.toNat b.toNat=decide (a<b):=by rw[Bool.eq_iff_iff,Nat.blt_eq];simp[UInt8.lt_iff_toNat_lt]
  have e2:Nat.beq a.toNat b.toNat=(a==b):=by
   rw[Bool.eq_iff_iff];constructor
   .intro h;have:=bj h;simpa using hD.1 this
   .intro h;have:a=b:=by simpa using h
    subst this;simp
  rw[e1,e2,HU x y];cases decide (a<b)<;>cases(a==b)<;>simp
theorem Xa(x y:List UInt8):(ByteArray.mk ⟨x⟩++ByteArray.mk ⟨y⟩)=ByteArray.mk ⟨x++y⟩:=by apply ByteArray.ext;simp
theorem VB(op:BinOp)(x y:List UInt8)(ty:TypeId)(P:Program)(w:World):
  (mb op x y).path (λv=>∃c,ai E v=some c/\(binOp op ty (.string ⟨⟨x⟩⟩) (.string ⟨⟨y⟩⟩)).run P w=.ok c w):=by
 cases op<;>simp only[mb]
 case add=>
  cases h:Nat.ble (Nat.add x.length y.length) 1099511627776
  .trivial
  .have h':x.length+y.length<=1099511627776:=bZ h;refine⟨_,rfl,?_⟩;have a:¬(((ByteArray.mk ⟨x⟩).size+(ByteArray.mk ⟨y⟩).size:Nat):Int)>IntKind.i64.max:=by
    have:IntKind.i64.max=9223372036854775807:=by decide
    rw[this];have e1:(ByteArray.mk ⟨x⟩).size=x.length:=rfl;have e2:(ByteArray.mk ⟨y⟩).size=y.length:=rfl;rw[e1,e2];omega
   simp only[binOp,Op.stringOp,av a,Xa];rfl
 all_goals first
  |(refine⟨_,rfl,?_⟩;simp[binOp,Op.stringOp,Ef,HU];done)
  |trivial
end
section
variable{C:Ctx}{base:Nat}{E:G}{s:S}{w:World}{nt:Nat}{t:Tr AV}{a:Act}
theorem IE(P:Program)(b i j:Nat)(w:World):(sameAddr ⟨b,i,none⟩ ⟨b,j,none⟩).run P w=.ok (Nat.beq i j) w:=by
 have h:(({ block:=b,off:=i,spot:=none }:Addr)==⟨b,j,none⟩)=Nat.beq i j:=by
  rw[Bool.eq_iff_iff];constructor
  .intro h;have:=b7 h;simp at this;subst this;simp
  .intro h;have:=bj h;subst this;simp
 simp[sameAddr,h]
theorem HC(t:Good C){base:Nat}{s:S}(Q:Rel C base E s w):∀(d n:Nat),d<=n->∀(ty:TypeId)(x y:AV)(u v:Value),ai E x=some u->ai E y=some v->
  (St C s d ty x y).path (λb=>(Op.equalIn n ty u v).run C.P w=.ok b w)
 |0,_,_,_,_,_,_,_,_,_=>trivial
 |d+1,0,h,_,_,_,_,_,_,_=>absurd h (by omega)
 |d+1,n+1,h,ty,x,y,u,v,Z,c=>by
  unfold St;refine R.bR _ (b9 t ty) λq T=>?_
  have a:∀(f:TypeDesc->Sem Bool),((underlying ty)>>=f).run C.P w=(f q).run C.P w:=by intro f;rw[aS,gC T];rfl
  cases q with
  |int k0=>
   cases x<;>cases y<;>first|trivial|skip
   rename_i k m k' m';simp only[ai,aD]at Z c;subst Z;subst c;show(match decide (k=k')with|true=>R.ok (decide (m=m'))|false=>R.bad _).path _;cases hk:decide (k=k')
   .trivial
   .have z:=b7 hk;show Sem.run C.P _ w=_;rw[Op.equalIn,a];simp only[z,bc];rfl
  |pointer e=>
   cases x<;>cases y<;>first|trivial|skip
   .rename_i b i N j;refine R.bR _ (c6 t e) λU V=>?_
    refine R.bR _ (R.bf _ _) λ_ A=>?_
    simp only[im]at A;have B:U.size≠0:=by intro h;rw[h]at A;exact absurd A (by simp)
    simp only[ai,bk]at Z c;obtain⟨l,D,rfl⟩:=Z;obtain⟨O,r,rfl⟩:=c;show(match Nat.beq b N with|true=>R.ok (Nat.beq i j)|false=>R.bad _).path _;cases F:Nat.beq b N
    .trivial
    .have G:b=N:=bj F;subst G;rw[D]at r;obtain rfl:=ae r;show Sem.run C.P _ w=_;rw[Op.equalIn,a];simp only[aS,V.2.size w,bw,ne_eq,B,pq,bc];rw[IE];have:Nat.beq (l.dl+i) (l.dl+j)=Nat.beq i j:=by
      rw[Bool.eq_iff_iff];simp
     rw[this]
   .simp only[ai,bk,aD]at Z c;obtain⟨l,D,rfl⟩:=Z;subst c;show Sem.run C.P _ w=_;rw[Op.equalIn,a];rfl
   .simp only[ai,aD]at Z c;subst Z;subst c;show Sem.run C.P _ w=_;rw[Op.equalIn,a];rfl
  |interface ms=>
   cases x<;>cases y<;>first|trivial|skip
   .rename_i g H o I;simp only[ai,bk]at Z c;obtain⟨W,J,rfl⟩:=Z;obtain⟨X,K,rfl⟩:=c;show(match Nat.beq g o with|false=>R.bad _|true=>_).path _;cases G:Nat.beq g o
    .trivial
    .have Y:g=o:=bj G;subst Y;show(match C.P.types[g]? with|some i=>(match i.comparable with|true=>St C s d g H I|false=>R.bad _)|none=>R.bad _).path _;cases ht:C.P.types[g]? with
     |none=>trivial
     |some i=>
      have L:g<C.P.types.size:=by grind
      have p:C.P.info? g=some i:=by show Tables.info? _ g=_;unfold Tables.info?;rw[aJ L];exact ht
      show(match i.comparable with|true=>St C s d g H I|false=>R.bad _).path _;cases hc:i.comparable
      .trivial
      .refine R.aZ ?_ (HC t Q d n (by omega) g H I W X J K);intro b M;rw[Op.equalIn,a];simp[typeInfo,p,hc,M]
   .simp only[ai,bk,aD]at Z c;obtain⟨l,D,rfl⟩:=Z;subst c;show Sem.run C.P _ w=_;rw[Op.equalIn,a];rfl
   .simp only[ai,aD]at Z c;subst Z;subst c;show Sem.run C.P _ w=_;rw[Op.equalIn,a];rfl
  |_=>trivial
theorem D6(op:BinOp)(ty:TypeId)(a b:Operand)(x y:AV)(d e:Value)(Z:ai E x=some d)(c:ai E y=some e)(f:isRef x=true)(g:isRef y=true):
  (HD (dm a||dm b) x y).path (λ_=>(eqGuard op ty a b d e).run C.P w=.ok () w):=by
 cases x<;>first|(cases f;done)|skip
 all_goals(cases y<;>first|(cases g;done)|skip)
 all_goals simp only[ai,bk,aD]at Z c
 all_goals first
  |(obtain⟨_,_,rfl⟩:=Z;obtain⟨_,_,rfl⟩:=c;show(eqGuard op ty a b _ _).run C.P w=_;cases op<;>rfl)
  |(obtain⟨_,_,rfl⟩:=Z;subst c;show(eqGuard op ty a b _ _).run C.P w=_;cases op<;>rfl)
  |(subst Z;obtain⟨_,_,rfl⟩:=c;show(eqGuard op ty a b _ _).run C.P w=_;cases op<;>rfl)
  |(subst Z;subst c;show(eqGuard op ty a b _ _).run C.P w=_;cases op<;>rfl)
  |(subst Z;subst c;refine R.aZ ?_ (R.bf _ _);intro _ h;cases op<;>first|rfl|(cases a<;>cases b<;>first|rfl|(exfalso;simp[dm]at h;done)))
theorem Od{x:AV}{c:Value}(h:isRef x=true)(Z:ai E x=some c):(∃p,c=.pointer p)\/c=.nilIface\/∃t v,c=.iface t v:=by
 cases x<;>first|(cases h;done)|skip
 all_goals simp only[ai,bk,aD]at Z
 all_goals first|(obtain⟨_,_,rfl⟩:=Z;simp;done)|(subst Z;simp;done)
end
section
variable{C:Ctx}{base:Nat}{E:G}{s:S}{w:World}{nt:Nat}{t:Tr AV}{a:Act}
theorem eO:∀{a b:List Kd},oI a b=true->a=b
 | [],[],_=>rfl
 | [],_::_,h=>by cases h
 |_::_,[],h=>by cases h
 |a::x,b::y,h=>by
  simp only[oI,aM]at h;rw[kA h.1,eO h.2]
theorem DZ:∀{a b:List Nat},L3 a b=true->a=b
 | [],[],_=>rfl
 | [],_::_,h=>by cases h
 |_::_,[],h=>by cases h
 |a::x,b::y,h=>by
  simp only[L3,aM]at h;rw[bj h.1,DZ h.2]
theorem CM{a b:Vn}(h:NK a b=true):a=b:=by
 cases a<;>cases b<;>first|rfl|(cases h;done)|skip
 .rw[b7 (show decide _=true from h)]
 .rw[b7 (show decide _=true from h)]
 .rw[e8 h]
 .rw[bj h]
 .rw[bj h]
 .rw[bj h]
 .simp only[NK,aM]at h;rw[bj h.1,bj h.2]
 .rw[eO h]
 .simp only[NK,aM]at h;rw[bj h.1,bj h.2]
 .simp only[NK,aM]at h;rw[eO h.1,DZ h.2]
 .simp only[NK,aM]at h;rw[bj h.1,bj h.2]
theorem bh:∀{a b:SE},db a b=true->a=b
 | .var i,b,h=>by
   cases b<;>first|(cases h;done)|skip
   rw[bj h]
 | .int k n,b,h=>by
   cases b<;>first|(cases h;done)|skip
   simp only[db,aM]at h;rw[e8 h.1,b7 (show decide _=true from h.2)]
 | .bool x,b,h=>by
   cases b<;>first|(cases h;done)|skip
   rw[eq_of_beq (show(x==_)=true from h)]
 | .str x,b,h=>by
   cases b<;>first|(cases h;done)|skip
   rw[(je _ _).1 h]
 | .a1 o x,b,h=>by
   cases b<;>first|(cases h;done)|skip
   simp only[db,aM]at h;rw[CM h.1,bh h.2]
 | .a2 o x y,b,h=>by
   cases b<;>first|(cases h;done)|skip
   simp only[db,aM]at h;rw[CM h.1.1,bh h.1.2,bh h.2]
 | .a3 o x y z,b,h=>by
   cases b<;>first|(cases h;done)|skip
   simp only[db,aM]at h;rw[CM h.1.1.1,bh h.1.1.2,bh h.1.2,bh h.2]
theorem wq{E:G}{e:SE}{b:Bool}:∀{l:List Fact},(∀f∈l,f.holds E)->qk e l=some b->ax E e=some (.val (.bool b))
 | [],_,h=>by cases h
 |f::l,a,h=>by
  have rest:=λ(h':qk e l=some b)=>wq (l:=l) (λf c=>a f (bQ _ c)) h'
  unfold qk at h;cases f with
  |tr x=>
   simp only at h;cases Z:db x e with
   |true=>rw[Z]at h;obtain rfl:=ae h;rw[<-bh Z];exact a (.tr x) bB
   |false=>rw[Z]at h;exact rest h
  |fl x=>
   simp only at h;cases Z:db x e with
   |true=>rw[Z]at h;obtain rfl:=ae h;rw[<-bh Z];exact a (.fl x) bB
   |false=>rw[Z]at h;exact rest h
  |inr _ _=>exact rest h
  |rel _ _ _ _=>exact rest h
def Ag(op:BinOp)(a c:Int):Bool:=
 match op with
 | .eql=>decide (a=c)
 | .neq=> !decide (a=c)
 | .lss=>decide (a<c)
 | .leq=>decide (a<=c)
 | .gtr=>decide (c<a)
 | .geq=>decide (c<=a)
 |_=>false
theorem a1w{q:BinOp}(f:qm q=true){a b:Value}{d:Dt}(h:fj q a b=some d){k:IntKind}{c:Int}(g:b=.int k c):∃n,a=.int k n/\d=.val (.bool (Ag q n c)):=by
 subst g;cases a<;>first|(cases h;done)|skip
 rename_i k' n;have i:bS q=false:=by cases q<;>first|rfl|(cases f;done)
 simp only[fj,i]at h;split at h
 .next e=>
  subst e;refine⟨n,rfl,?_⟩;cases q<;>first|(cases f;done)|(simp only[bM,okV,aD]at h;rw[<-h];rfl)
 .cases h
theorem W5{q:BinOp}(f:qm q=true){a b:Value}{d:Dt}(h:fj q a b=some d){k:IntKind}{c:Int}(g:a=.int k c):∃n,b=.int k n/\d=.val (.bool (Ag (Mw q) n c)):=by
 subst g;cases b<;>first|(cases h;done)|skip
 rename_i k' n;have i:bS q=false:=by cases q<;>first|rfl|(cases f;done)
 simp only[fj,i]at h;split at h
 .next e=>
  subst e;refine⟨n,rfl,?_⟩;cases q<;>first|(cases f;done)|(simp only[bM,okV,aD]at h;rw[<-h];simp only[Mw,Ag,eq_comm])
 .cases h
theorem tA{E:G}{e x:SE}{op:BinOp}{k:IntKind}{c:Int}(h:Jb e=some (op,x,k,c)){d:Dt}(f:ax E e=some d):∃a,ax E x=some (.val (.int k a))/\d=.val (.bool (Ag op a c)):=by
 cases e<;>first|(cases h;done)|skip
 rename_i o u v;cases o<;>first|(cases h;done)|skip
 rename_i q;simp only[Jb]at h;cases j:qm q with
 |false=>rw[j]at h;cases h
 |true=>
  rw[j]at h;simp only[ax,cV]at f;obtain⟨l,g,m,i,f⟩:=f;simp only[e2]at f;cases l<;>first|(cases f;done)|skip
  cases m<;>first|(cases f;done)|skip
  rename_i a b;simp only at h f;have right:∀k' c',v=.int k' c'->(q,u,k',c')=(op,x,k,c)->∃a,ax E x=some (.val (.int k a))/\d=.val (.bool (Ag op a c)):=by intro k' c' e1 e2;cases e2;subst e1;have i:=ae i;injection i with i;obtain⟨n,rfl,Y⟩:=a1w j f i.symm;exact⟨n,g,Y⟩
  have left:∀k' c',u=.int k' c'->(Mw q,v,k',c')=(op,x,k,c)->∃a,ax E x=some (.val (.int k a))/\d=.val (.bool (Ag op a c)):=by intro k' c' e1 e2;cases e2;subst e1;have g:=ae g;injection g with g;obtain⟨n,rfl,Y⟩:=W5 j f g.symm;exact⟨n,i,Y⟩
  cases v with
  |int k' c'=>exact right k' c' rfl (ae h)
  |_=>cases u with
   |int k' c'=>exact left k' c' rfl (ae h)
   |_=>cases h
def Qt(a:Int)(m:Qn):Prop:=(∀n,m.1=some n->n<=a)/\∀n,m.2=some n->a<=n
theorem te{o:Option Int}{a n:Int}(h:∀m,o=some m->m<=a)(c:n<=a):∀m,D0 o n=some m->m<=a:=by
 intro m b;cases o with
 |none=>obtain rfl:=ae b;exact c
 |some q=>
  simp only[D0]at b;cases d:decide (q<n)<;>rw[d]at b
  .exact h m b
  .obtain rfl:=ae b;exact c
theorem tn{o:Option Int}{a n:Int}(h:∀m,o=some m->a<=m)(c:a<=n):∀m,D2 o n=some m->a<=m:=by
 intro m b;cases o with
 |none=>obtain rfl:=ae b;exact c
 |some q=>
  simp only[D2]at b;cases d:decide (n<q)<;>rw[d]at b
  .exact h m b
  .obtain rfl:=ae b;exact c
theorem Pp{a:Option Int}{c:Int}(h:isO a c=true):a=some c:=by
 cases a with
 |none=>cases h
 |some m=>rw[b7 (show decide (m=c)=true from h)]
theorem Jx{a c:Int}{m:Qn}(h:Qt a m)(d:a≠c):Qt a (La c m):=by
 refine⟨λn b=>?_,λn b=>?_⟩
 .have b:(match isO m.1 c with|true=>some (c+1)|false=>m.1)=some n:=b;cases V:isO m.1 c with
  |true=>rw[V]at b;obtain rfl:=ae b;have:=h.1 c (Pp V);omega
  |false=>rw[V]at b;exact h.1 n b
 .have b:(match isO m.2 c with|true=>some (c-1)|false=>m.2)=some n:=b;cases V:isO m.2 c with
  |true=>rw[V]at b;obtain rfl:=ae b;have:=h.2 c (Pp V);omega
  |false=>rw[V]at b;exact h.2 n b
theorem a4N{op:BinOp}{b:Bool}{a c:Int}{m:Qn}(h:Qt a m)(f:Ag op a c=b):Qt a (ab7 op b c m):=by
 subst f;cases op<;>first|exact h|skip
 .show Qt a (match decide (a=c)with|true=>_|false=>_);cases d:decide (a=c)
  .exact Jx h (iH d)
  .have e:=b7 d;exact⟨te h.1 (by omega),tn h.2 (by omega)⟩
 .show Qt a (match !decide (a=c)with|false=>_|true=>_);cases d:decide (a=c)
  .exact Jx h (iH d)
  .have e:=b7 d;exact⟨te h.1 (by omega),tn h.2 (by omega)⟩
 .show Qt a (match decide (a<c)with|true=>_|false=>_);cases d:decide (a<c)
  .have e:=iH d;exact⟨te h.1 (by omega),h.2⟩
  .have e:=b7 d;exact⟨h.1,tn h.2 (by omega)⟩
 .show Qt a (match decide (a<=c)with|true=>_|false=>_);cases d:decide (a<=c)
  .have e:=iH d;exact⟨te h.1 (by omega),h.2⟩
  .have e:=b7 d;exact⟨h.1,tn h.2 (by omega)⟩
 .show Qt a (match decide (c<a)with|true=>_|false=>_);cases d:decide (c<a)
  .have e:=iH d;exact⟨h.1,tn h.2 (by omega)⟩
  .have e:=b7 d;exact⟨te h.1 (by omega),h.2⟩
 .show Qt a (match decide (c<=a)with|true=>_|false=>_);cases d:decide (c<=a)
  .have e:=iH d;exact⟨h.1,tn h.2 (by omega)⟩
  .have e:=b7 d;exact⟨te h.1 (by omega),h.2⟩
theorem Ko{E:G}{x e:SE}{k:IntKind}{a:Int}(Z:ax E x=some (.val (.int k a))){b:Bool}(f:ax E e=some (.val (.bool b))){m:Qn}(h:Qt a m):Qt a (An x k e b m):=by
 unfold An;cases g:Jb e with
 |none=>exact h
 |some p=>
  obtain⟨op,y,k',c⟩:=p;simp only;cases d:th k k'&&db x y with
  |false=>exact h
  |true=>simp only[aM]at d;obtain rfl:=e8 d.1;obtain rfl:=bh d.2;obtain⟨a',I,Y⟩:=tA g f;rw[Z]at I;have I:=ae I;injection I with I;injection I with _ I;subst I;injection Y with Y;injection Y with Y;exact a4N h Y.symm
theorem tH{E:G}{x:SE}{k:IntKind}{a:Int}(Z:ax E x=some (.val (.int k a))):∀{l:List Fact}{m:Qn},(∀f∈l,f.holds E)->Qt a m->Qt a (qy x k l m)
 | [],_,_,h=>h
 |f::l,m,d,h=>by
  have c:=λf i=>d f (bQ _ i)
  have g:=d f bB;have b:=tH (l:=l) Z c h;cases f with
  |tr e=>exact Ko Z g b
  |fl e=>exact Ko Z g b
  |inr _ _=>exact b
  |rel _ _ _ _=>exact b
theorem a0f{o:Option Int}{n:Int}(h:J3 o n=true):∃m,o=some m/\m<=n:=by
 cases o with
 |none=>cases h
 |some m=>exact⟨m,rfl,b7 h⟩
theorem Py{o:Option Int}{n:Int}(h:Mu o n=true):∃m,o=some m/\n<=m:=by
 cases o with
 |none=>cases h
 |some m=>exact⟨m,rfl,b7 h⟩
theorem Am{op:BinOp}{c a:Int}{m:Qn}{b:Bool}(V:Qt a m)(h:yX op c m=some b):Ag op a c=b:=by
 have lo:∀n,Mu m.1 n=true->n<=a:=λn h=>by obtain⟨q,I,Y⟩:=Py h;have:=V.1 q I;omega
 have up:∀n,J3 m.2 n=true->a<=n:=λn h=>by obtain⟨q,I,Y⟩:=a0f h;have:=V.2 q I;omega
 have or':∀x y:Bool,(x||y)=true->x=true\/y=true:=by intro x y;cases x<;>simp
 have and':∀x y:Bool,(x&&y)=true->x=true/\y=true:=by intro x y;cases x<;>simp
 have d:∀{p:Prop}[Decidable p],p->decide p=true:=λh=>decide_eq_true h
 have f:∀{p:Prop}[Decidable p],¬p->decide p=false:=λh=>qN h
 cases op<;>first|(cases h;done)|skip
 .simp only[yX]at h;cases I:Mu m.1 (c+1)||J3 m.2 (c-1)with
  |true=>
   rw[I]at h;obtain rfl:=ae h;refine f λe=>?_
   rcases or' _ _ I with Y|Y
   .have:=lo _ Y;omega
   .have:=up _ Y;omega
  |false=>
   rw[I]at h;simp only at h;cases Y:Mu m.1 c&&J3 m.2 c with
   |true=>rw[Y]at h;obtain rfl:=ae h;obtain⟨g1,g2⟩:=and' _ _ Y;have:=lo _ g1;have:=up _ g2;exact d (by omega)
   |false=>rw[Y]at h;cases h
 .simp only[yX]at h;cases I:Mu m.1 (c+1)||J3 m.2 (c-1)with
  |true=>
   rw[I]at h;obtain rfl:=ae h;have:decide (a=c)=false:=f λe=>by
    rcases or' _ _ I with Y|Y
    .have:=lo _ Y;omega
    .have:=up _ Y;omega
   show(!decide (a=c))=true;rw[this];rfl
  |false=>
   rw[I]at h;simp only at h;cases Y:Mu m.1 c&&J3 m.2 c with
   |true=>rw[Y]at h;obtain rfl:=ae h;obtain⟨g1,g2⟩:=and' _ _ Y;have:=lo _ g1;have:=up _ g2;show(!decide (a=c))=false;rw[d (show a=c by omega)];rfl
   |false=>rw[Y]at h;cases h
 .simp only[yX]at h;cases I:J3 m.2 (c-1)with
  |true=>rw[I]at h;obtain rfl:=ae h;have:=up _ I;exact d (by omega)
  |false=>
   rw[I]at h;simp only at h;cases Y:Mu m.1 c with
   |true=>rw[Y]at h;obtain rfl:=ae h;have:=lo _ Y;exact f (by omega)
   |false=>rw[Y]at h;cases h
 .simp only[yX]at h;cases I:J3 m.2 c with
  |true=>rw[I]at h;obtain rfl:=ae h;have:=up _ I;exact d (by omega)
  |false=>
   rw[I]at h;simp only at h;cases Y:Mu m.1 (c+1)with
   |true=>rw[Y]at h;obtain rfl:=ae h;have:=lo _ Y;exact f (by omega)
   |false=>rw[Y]at h;cases h
 .simp only[yX]at h;cases I:Mu m.1 (c+1)with
  |true=>rw[I]at h;obtain rfl:=ae h;have:=lo _ I;exact d (by omega)
  |false=>
   rw[I]at h;simp only at h;cases Y:J3 m.2 c with
   |true=>rw[Y]at h;obtain rfl:=ae h;have:=up _ Y;exact f (by omega)
   |false=>rw[Y]at h;cases h
 .simp only[yX]at h;cases I:Mu m.1 c with
  |true=>rw[I]at h;obtain rfl:=ae h;have:=lo _ I;exact d (by omega)
  |false=>
   rw[I]at h;simp only at h;cases Y:J3 m.2 (c-1)with
   |true=>rw[Y]at h;obtain rfl:=ae h;have:=up _ Y;exact f (by omega)
   |false=>rw[Y]at h;cases h
theorem Pg{E:G}{x:SE}(Z:Mm x=true){k:IntKind}{a:Int}(h:ax E x=some (.val (.int k a))):0<=a:=by
 cases x<;>first|(cases Z;done)|skip
 rename_i o y;cases o<;>first|(cases Z;done)|skip
 simp only[ax,cV]at h;obtain⟨d, -,h⟩:=h;unfold e1 at h;simp only at h;split at h
 .have h:=ae h;injection h with h;injection h with _ h;omega
 .have h:=ae h;injection h with h;injection h with _ h;omega
 .cases h
theorem P8{E:G}{x e:SE}{k:IntKind}{b:Bool}(f:ax E e=some (.val (.bool b))){m:Qn}:An x k e b m=m\/∃a,ax E x=some (.val (.int k a)):=by
 unfold An;cases g:Jb e with
 |none=>exact .inl rfl
 |some p=>
  obtain⟨op,y,k',c⟩:=p;simp only;cases d:th k k'&&db x y with
  |false=>exact .inl rfl
  |true=>simp only[aM]at d;obtain rfl:=e8 d.1;obtain rfl:=bh d.2;obtain⟨a',I,Y⟩:=tA g f;exact .inr ⟨a',I⟩
theorem u6{E:G}{x:SE}{k:IntKind}:∀{l:List Fact}{m:Qn},(∀f∈l,f.holds E)->qy x k l m=m\/∃a,ax E x=some (.val (.int k a))
 | [],_,_=>.inl rfl
 |f::l,m,d=>by
  have c:=λf i=>d f (bQ _ i)
  have g:=d f bB;have step:∀e b,ax E e=some (.val (.bool b))->An x k e b (qy x k l m)=m\/∃a,ax E x=some (.val (.int k a)):=by
   intro e b j;rcases P8 (x:=x) (k:=k) j (m:=qy x k l m)with h|h
   .rw[h];exact u6 c
   .exact .inr h
  cases f with
  |tr e=>exact step e true g
  |fl e=>exact step e false g
  |inr _ _=>exact u6 (l:=l) c
  |rel _ _ _ _=>exact u6 (l:=l) c
def InR(E:G)(e:SE)(l h:Int):Prop:=∃a,ax E e=some (.val (.int .i64 a))/\l<=a/\a<=h
theorem xc{E:G}{e:SE}{pc:List Fact}(d:∀f∈pc,f.holds E){l h:Int}(b:Ra e pc=some (l,h)):InR E e l h:=by
 unfold Ra at b;rcases u6 (E:=E) (x:=e) (k:=.i64) (m:=(none,none)) d with hk|⟨a,g⟩
 .rw[hk]at b;cases b
 .have c:=tH g (l:=pc) (m:=(none,none)) d ⟨λn(h:(none:Option Int)=some n)=>(nomatch h),λn(h:(none:Option Int)=some n)=>(nomatch h)⟩;revert b c;rcases qy e .i64 pc (none,none)with⟨p,q⟩;intro b c;cases p with
  |none=>cases b
  |some p=>
   cases q with
   |none=>cases b
   |some q=>simp only[aD,cB]at b;obtain⟨rfl,rfl⟩:=b;exact⟨a,g,c.1 p rfl,c.2 q rfl⟩
theorem wrap64{x:Int}(I: -9223372036854775808<=x)(Y:x<=9223372036854775807):IntKind.i64.wrap x=x:=by simp only[IntKind.wrap,IntKind.signed,IntKind.bits];simp;omega
theorem kt{E:G}{pc:List Fact}(m:∀f∈pc,f.holds E):∀(e:SE){l h:Int},rJ pc e=some (l,h)->InR E e l h
 | .var i,_,_,g=>xc m (e:=.var i) g
 | .a1 o x,_,_,g=>xc m (e:=.a1 o x) g
 | .a3 o x y z,_,_,g=>xc m (e:=.a3 o x y z) g
 | .bool _,_,_,g=>by cases g
 | .str _,_,_,g=>by cases g
 | .int k n,l,h,g=>by
   cases k<;>first|(cases g;done)|skip
   unfold rJ at g;simp only at g;split at g
   .simp only[aD,cB]at g;exact⟨n,rfl,by omega,by omega⟩
   .cases g
 | .a2 o x y,l,h,g=>by
   unfold rJ at g;cases j:Ra (.a2 o x y) pc with
   |some r=>rw[j]at g;obtain rfl:=ae g;exact xc m j
   |none=>
    rw[j]at g;cases o<;>first|(cases g;done)|skip
    rename_i op;have two:∀{f:Option (Int×Int)->Option (Int×Int)->Option (Int×Int)},(∀q,f none q=none)->(∀r,f (some r) none=none)->f (rJ pc x) (rJ pc y)=some (l,h)->
      ∃a b c d,rJ pc x=some (a,b)/\rJ pc y=some (c,d)/\f (some (a,b)) (some (c,d))=some (l,h):=by
     intro f f1 f2 j;cases Z:rJ pc x with
     |none=>rw[Z,f1]at j;cases j
     |some w=>
      cases p:rJ pc y with
      |none=>rw[Z,p,f2]at j;cases j
      |some r2=>rw[Z,p]at j;exact⟨w.1,w.2,r2.1,r2.2,rfl,rfl,j⟩
    cases op<;>first|(cases g;done)|skip
    .obtain⟨a,b,c,d,Z,p,g⟩:=two (f:=a9d) (λ_=>rfl) (λ_=>rfl) g;simp only[a9d]at g;split at g
     .next s=>
      obtain⟨d1,d2⟩:=oe.1 s;have d1:=b7 d1;have d2:=b7 d2;simp only[aD,cB]at g;obtain⟨rfl,rfl⟩:=g;obtain⟨u,t,A,B⟩:=kt m x Z;obtain⟨v,v1,v2,v3⟩:=kt m y p;refine⟨u+v,?_,by omega,by omega⟩;have:IntKind.i64.wrap (u+v)=u+v:=wrap64 (by omega) (by omega);simp only[ax,t,v1,bn,e2,fj,bS,bc,bM,okV,this]
     .cases g
    .obtain⟨a,b,c,d,Z,p,g⟩:=two (f:=a6P) (λ_=>rfl) (λ_=>rfl) g;simp only[a6P]at g;split at g
     .next s=>
      obtain⟨d1,d2⟩:=oe.1 s;have d1:=b7 d1;have d2:=b7 d2;simp only[aD,cB]at g;obtain⟨rfl,rfl⟩:=g;obtain⟨u,t,A,B⟩:=kt m x Z;obtain⟨v,v1,v2,v3⟩:=kt m y p;refine⟨u-v,?_,by omega,by omega⟩;have:IntKind.i64.wrap (u-v)=u-v:=wrap64 (by omega) (by omega);simp only[ax,t,v1,bn,e2,fj,bS,bc,bM,okV,this]
     .cases g
theorem Pr{E:G}{pc:List Fact}(c:∀f∈pc,f.holds E){e:SE}{lo V:Int}(h:inR e lo V pc=true):InR E e lo V:=by
 unfold inR at h;cases b:rJ pc e with
 |none=>rw[b]at h;cases h
 |some r=>obtain⟨l,q⟩:=r;rw[b]at h;obtain⟨I,Y⟩:=oe.1 h;have I:=b7 I;have Y:=b7 Y;obtain⟨a,g1,g2,g3⟩:=kt c e b;exact⟨a,g1,by omega,by omega⟩
theorem VA{E:G}{op:BinOp}{x:SE}{k:IntKind}{c a:Int}{b:Bool}{l:List Fact}(e:∀f∈l,f.holds E)(h:a6O op x k c l=some b)(Z:ax E x=some (.val (.int k a))):Ag op a c=b:=by
 unfold a6O at h;split at h
 .cases d:rJ l x with
  |none=>rw[d]at h;cases h
  |some r=>obtain⟨p,q⟩:=r;rw[d]at h;obtain⟨a',g1,g2,g3⟩:=kt e x d;rw[Z]at g1;have g1:=ae g1;injection g1 with g1;injection g1 with _ g1;subst g1;exact Am (m:=(some p,some q)) ⟨λn h=>(by have:=ae h;omega),λn h=>(by have:=ae h;omega)⟩ h
 .cases h
theorem a4z{E:G}{op:BinOp}{x y:SE}{a b:Int}(ho:qm op=true)(Z:ax E x=some (.val (.int .i64 a)))(c:ax E y=some (.val (.int .i64 b))):ax E (.a2 (.bin op) x y)=some (.val (.bool (Ag op a b))):=by
 cases op<;>first
  |(cases ho;done)
  |(simp only[ax,Z,c,bn,e2,fj,bS,bc,bM,okV];rfl)
theorem a4A{op:BinOp}(ho:qm op=true)(a b:Int):Ag op a b=Ag op (a-b) 0:=by
 cases op<;>first|(cases ho;done)|skip
 all_goals simp only[Ag]
 all_goals first
  |(congr 1;exact decide_eq_decide.2 (by omega))
  |exact decide_eq_decide.2 (by omega)
theorem Oi{E:G}{e:SE}{b:Bool}{l:List Fact}(g:∀f∈l,f.holds E)(h:Ri e l=some b){d:Dt}(i:ax E e=some d):d=.val (.bool b):=by
 cases e<;>first|(cases h;done)|skip
 rename_i o x y;cases o<;>first|(cases h;done)|skip
 rename_i op;unfold Ri at h;simp only at h;cases ho:qm op with
 |false=>rw[ho]at h;cases h
 |true=>
  rw[ho]at h;simp only at h;cases Z:rJ l x with
  |none=>rw[Z]at h;cases h
  |some j=>
   cases c:rJ l y with
   |none=>rw[Z,c]at h;cases h
   |some r2=>obtain⟨p,q⟩:=j;obtain⟨p',k⟩:=r2;rw[Z,c]at h;simp only at h;obtain⟨u,r,s,t⟩:=kt g x Z;obtain⟨v,v1,v2,v3⟩:=kt g y c;rw[a4z ho r v1]at i;obtain rfl:=ae i;rw[a4A ho,Am (m:=(some (p-k),some (q-p'))) (a:=u-v) ⟨λn h=>(by have:=ae h;omega),λn h=>(by have:=ae h;omega)⟩ h]
theorem P6{E:G}{e:SE}{b:Bool}{l:List Fact}(g:∀f∈l,f.holds E)(h:M1 e l=some b){d:Dt}(j:ax E e=some d):d=.val (.bool b):=by
 unfold M1 at h;cases i:Jb e with
 |none=>rw[i]at h;exact Oi g h j
 |some p=>
  obtain⟨op,x,k,c⟩:=p;rw[i]at h;simp only at h;obtain⟨a,I,rfl⟩:=tA i j;have m:Qt a (match Mm x with|true=>(some 0,none)|false=>(none,none)):=by
   cases Z:Mm x with
   |false=>exact⟨λn(h:(none:Option Int)=some n)=>(nomatch h),λn(h:(none:Option Int)=some n)=>(nomatch h)⟩
   |true=>exact⟨λn(h:some (0:Int)=some n)=>(by have e:=ae h;have:=Pg Z I;omega),λn(h:(none:Option Int)=some n)=>(nomatch h)⟩
  split at h
  .next o=>
   obtain rfl:=ae h;rw[Am (tH I g m) o]
  .rw[VA g h I]
theorem Vt(p q:Bool):Dw p (Dw p q)=q:=by cases p<;>cases q<;>rfl
def a0W:Bool->BinOp
 |true=>.eql
 |false=>.neq
theorem a4M{p:Bool}{u v:Value}{d:Dt}(h:fj (a0W p) u v=some d):∃q,d=.val (.bool (Dw p q))/\(q=true↔u=v):=by
 cases u<;>first|(cases p<;>cases h;done)|skip
 .rename_i k n;cases v<;>first|(cases p<;>cases h;done)|skip
  rename_i k' m;have a:bS (a0W p)=false:=by cases p<;>rfl
  simp only[fj,a]at h;split at h
  .next e=>
   subst e;refine⟨decide (n=m),?_,?_⟩
   .cases p<;>(simp only[a0W,bM,okV,aD]at h;rw[<-h];rfl)
   .rw[rC];exact⟨λe=>by rw[e],λe=>by injection e⟩
  .cases h
 .rename_i x;cases v<;>first|(cases p<;>cases h;done)|skip
  rename_i y;simp only[fj]at h;refine⟨eB x.data.toList y.data.toList,?_,?_⟩
  .cases p<;>(simp only[a0W,mb,okV,aD]at h;rw[<-h];rfl)
  .rw[je];exact⟨λe=>by
    have:x=y:=by cases x;cases y;simp only at e;rw[Array.toList_inj.1 e]
    rw[this],λe=>by injection e with e;rw[e]⟩
theorem tt{E:G}{e x y:SE}{p:Bool}(h:PH e=some (p,x,y)){d:Dt}(c:ax E e=some d):∃u v q,ax E x=some (.val u)/\ax E y=some (.val v)/\d=.val (.bool (Dw p q))/\(q=true↔u=v):=by
 cases e<;>first|(cases h;done)|skip
 rename_i o a b;cases o<;>first|(cases h;done)|skip
 rename_i op;have key:op=a0W p/\a=x/\b=y:=by
  cases op<;>first|(cases h;done)|skip
  all_goals
   simp only[PH,aD,cB]at h;obtain⟨rfl,rfl,rfl⟩:=h;exact⟨rfl,rfl,rfl⟩
 obtain⟨I,rfl,rfl⟩:=key;simp only[ax,cV]at c;obtain⟨g,e1,i,f,c⟩:=c;cases g<;>first|(cases c;done)|skip
 cases i<;>first|(cases c;done)|skip
 obtain⟨q,g1,g2⟩:=a4M (p:=p) (by rw[<-I];exact c);exact⟨_,_,q,e1,f,g1,g2⟩
theorem D7{E:G}{x y e:SE}{b N:Bool}{u v:Value}(Z:ax E x=some (.val u))(g:ax E y=some (.val v))(h:Dl x y e b=some N)(i:ax E e=some (.val (.bool b))):N=true↔u=v:=by
 unfold Dl at h;cases f:PH e with
 |none=>rw[f]at h;cases h
 |some r=>
  obtain⟨p,a,c⟩:=r;rw[f]at h;simp only at h;obtain⟨j,k,q,g1,g2,g3,g4⟩:=tt f i;have g3:b=Dw p q:=by injection g3 with g3;injection g3
  cases d:((db a x&&db c y)||(db a y&&db c x))with
  |false=>rw[d]at h;cases h
  |true=>
   rw[d]at h;obtain rfl:=ae h;rw[g3,Vt,g4];rcases Bool.or_eq_true_iff.1 d with d|d
   .obtain⟨s1,s2⟩:=oe.1 d;rw[bh s1,Z]at g1;rw[bh s2,g]at g2;have g1:=ae g1;have g2:=ae g2;injection g1 with g1;injection g2 with g2;rw[g1,g2]
   .obtain⟨s1,s2⟩:=oe.1 d;rw[bh s1,g]at g1;rw[bh s2,Z]at g2;have g1:=ae g1;have g2:=ae g2;injection g1 with g1;injection g2 with g2;rw[g1,g2];exact eq_comm
theorem uN{E:G}{x y:SE}{u v:Value}(Z:ax E x=some (.val u))(c:ax E y=some (.val v)){b:Bool}:∀{l:List Fact},(∀f∈l,f.holds E)->lH x y l=some b->(b=true↔u=v)
 | [],_,h=>by cases h
 |f::l,d,h=>by
  have rest:=λ(h':lH x y l=some b)=>uN Z c (l:=l) (λf g=>d f (bQ _ g)) h'
  unfold lH at h;cases f with
  |tr e=>
   simp only at h;cases a:Dl x y e true with
   |some N=>rw[a]at h;obtain rfl:=ae h;exact D7 Z c a (d (.tr e) bB)
   |none=>rw[a]at h;exact rest h
  |fl e=>
   simp only at h;cases a:Dl x y e false with
   |some N=>rw[a]at h;obtain rfl:=ae h;exact D7 Z c a (d (.fl e) bB)
   |none=>rw[a]at h;exact rest h
  |inr _ _=>exact rest h
  |rel _ _ _ _=>exact rest h
theorem BL{x y z:SE}{s:List UInt8}(h:BM x y=some (s,z)):(x=.str s/\z=y)\/(y=.str s/\z=x):=by
 unfold BM at h;cases x with
 |str F=>have h:=ae h;injection h with I Y;exact .inl ⟨by rw[I],Y.symm⟩
 |_=>
  cases y<;>first|(cases h;done)|skip
  have h:=ae h;injection h with I Y;exact .inr ⟨by rw[I],Y.symm⟩
theorem G8{E:G}{s:List UInt8}{z:SE}:∀{l:List Fact},(∀f∈l,f.holds E)->G9 s z l=true->∃F,F≠s/\ax E z=some (.val (.string ⟨⟨F⟩⟩))
 | [],_,h=>by cases h
 |f::l,j,h=>by
  have rest:=λ(h':G9 s z l=true)=>G8 (l:=l) (λf k=>j f (bQ _ k)) h'
  unfold G9 at h;cases f with
  |tr e=>
   simp only at h;cases b:a0a e with
   |none=>rw[b]at h;exact rest h
   |some r=>
    obtain⟨F,m⟩:=r;rw[b]at h;simp only at h;cases g:db m z && !eB F s with
    |false=>rw[g]at h;exact rest h
    |true=>
     simp only[aM,im]at g;obtain⟨I,Y⟩:=g;obtain rfl:=bh I;have c:F≠s:=λn=>by rw[(je F s).2 n]at Y;cases Y
     unfold a0a at b;cases ho:PH e with
     |none=>rw[ho]at b;cases b
     |some w=>
      obtain⟨p,u,v⟩:=w;rw[ho]at b;simp only at b;cases p with
      |false=>cases b
      |true=>
       obtain⟨o,t,q,g1,g2,g3,g4⟩:=tt ho (j (.tr e) bB);have i:q=true:=by injection g3 with g3;injection g3 with g3;exact g3.symm
       have d:=g4.1 i;rcases BL b with⟨rfl,rfl⟩|⟨rfl,rfl⟩
       .have a:some (Dt.val (.string ⟨⟨F⟩⟩))=some (.val o):=g1;have a:=ae a;injection a with a;exact⟨F,c,by rw[g2,<-d,<-a]⟩
       .have a:some (Dt.val (.string ⟨⟨F⟩⟩))=some (.val t):=g2;have a:=ae a;injection a with a;exact⟨F,c,by rw[g1,d,<-a]⟩
  |fl _=>exact rest h
  |inr _ _=>exact rest h
  |rel _ _ _ _=>exact rest h
theorem IK{E:G}{x y:SE}{u v:Value}(Z:ax E x=some (.val u))(d:ax E y=some (.val v)){l:List Fact}(e:∀f∈l,f.holds E)(h:By x y l=true):u≠v:=by
 unfold By at h;cases c:BM x y with
 |none=>rw[c]at h;cases h
 |some r=>
  obtain⟨s,z⟩:=r;rw[c]at h;obtain⟨F,I,Y⟩:=G8 e h;rcases BL c with⟨rfl,rfl⟩|⟨rfl,rfl⟩
  .have a:some (Dt.val (.string ⟨⟨s⟩⟩))=some (.val u):=Z;rw[d]at Y;have a:=ae a;injection a with a;have Y:=ae Y;injection Y with Y;intro b;rw[<-a,Y]at b;injection b with b;injection b with b;injection b with b;exact I b.symm
  .have a:some (Dt.val (.string ⟨⟨s⟩⟩))=some (.val v):=d;rw[Z]at Y;have a:=ae a;injection a with a;have Y:=ae Y;injection Y with Y;intro b;rw[<-a,Y]at b;injection b with b;injection b with b;injection b with b;exact I b
theorem Ss{E:G}{e:SE}{b:Bool}{l:List Fact}(i:∀f∈l,f.holds E)(h:UT e l=some b){d:Dt}(j:ax E e=some d):d=.val (.bool b):=by
 unfold UT at h;cases a:PH e with
 |none=>rw[a]at h;cases h
 |some r=>
  obtain⟨p,x,y⟩:=r;rw[a]at h;simp only at h;obtain⟨u,v,q,g1,g2,rfl,g4⟩:=tt a j;cases c:db x y with
  |true=>rw[c]at h;obtain rfl:=ae h;rw[bh c,g2]at g1;have g1:=ae g1;injection g1 with g1;rw[g4.2 g1.symm];cases p<;>rfl
  |false=>
   rw[c]at h;simp only at h;cases hk:lH x y l with
   |none=>
    rw[hk]at h;simp only at h;cases ho:By x y l with
    |false=>rw[ho]at h;cases h
    |true=>
     rw[ho]at h;obtain rfl:=ae h;have g:=IK g1 g2 i ho;have:q=false:=by
      cases q with
      |false=>rfl
      |true=>exact absurd (g4.1 rfl) g
     rw[this]
   |some N=>
    rw[hk]at h;obtain rfl:=ae h;have g5:=uN g1 g2 i hk;have:q=N:=by cases q<;>cases N<;>first|rfl|exact absurd (g5.2 (g4.1 rfl)) (by decide)|exact absurd (g4.2 (g5.1 rfl)) (by decide)
    rw[this]
theorem u0:∀x:List UInt8,lL x x=false
 | []=>rfl
 |a::x=>by
  unfold lL;simp only;rw[show Nat.blt a.toNat a.toNat=false by cases h:Nat.blt a.toNat a.toNat with|false=>rfl|true=>exact absurd (bZ h) (Nat.not_succ_le_self _),show Nat.beq a.toNat a.toNat=true from Nat.beq_refl _];exact u0 x
theorem Q6{E:G}{e:SE}{b:Bool}(h:YM e=some b){d:Dt}(a:ax E e=some d):d=.val (.bool b):=by
 cases e<;>first|(cases h;done)|skip
 rename_i o x y;cases o<;>first|(cases h;done)|skip
 rename_i op;simp only[YM]at h;cases c:db x y with
 |false=>rw[c]at h;cases h
 |true=>
  rw[c]at h;obtain rfl:=bh c;simp only[ax,cV]at a;obtain⟨u,g,v,f,a⟩:=a;rw[g]at f;obtain rfl:=ae f;cases op<;>first|(cases h;done)|skip
  all_goals
   obtain rfl:=ae h;cases u<;>first|(cases a;done)|skip
   rename_i w;cases w<;>first|(cases a;done)|skip
  .rename_i k n;have a:(if k=k then okV (bM .lss k n n)else none)=some d:=a;rw[aJ rfl]at a;simp only[bM,okV,aD]at a;rw[<-a,qN (Int.lt_irrefl n)]
  .rename_i z;have a:okV (mb .lss z.data.toList z.data.toList)=some d:=a;simp only[mb,okV,u0,aD]at a;exact a.symm
  .rename_i k n;have a:(if k=k then okV (bM .gtr k n n)else none)=some d:=a;rw[aJ rfl]at a;simp only[bM,okV,aD]at a;rw[<-a,qN (Int.lt_irrefl n)]
  .rename_i z;have a:okV (mb .gtr z.data.toList z.data.toList)=some d:=a;simp only[mb,okV,u0,(je _ _).2 rfl,aD]at a;exact a.symm
theorem uO{E:G}{e:SE}{b:Bool}{l:List Fact}(c:∀f∈l,f.holds E)(h:q0 e l=some b){d:Dt}(a:ax E e=some d):d=.val (.bool b):=by
 unfold q0 at h;cases hk:qk e l with
 |some N=>rw[hk]at h;obtain rfl:=ae h;have:=wq c hk;rw[this]at a;exact(ae a).symm
 |none=>
  rw[hk]at h;simp only at h;cases g:M1 e l with
  |some N=>rw[g]at h;obtain rfl:=ae h;exact P6 c g a
  |none=>
   rw[g]at h;simp only at h;cases i:UT e l with
   |some N=>rw[i]at h;obtain rfl:=ae h;exact Ss c i a
   |none=>rw[i]at h;exact Q6 h a
theorem GX{E:G}{e x:SE}(h:O1 e=some x){d:Dt}(c:ax E e=some d):∃b,ax E x=some (.val (.bool b))/\d=.val (.bool (!b)):=by
 cases e<;>first|(cases h;done)|skip
 rename_i o a;cases o<;>first|(cases h;done)|skip
 rename_i u;cases u<;>first|(cases h;done)|skip
 obtain rfl:a=x:=ae h;simp only[ax,cV]at c;obtain⟨g,f,c⟩:=c;cases g<;>first|(cases c;done)|skip
 rename_i v;cases v<;>first|(cases c;done)|skip
 rename_i b;exact⟨b,f,(ae (show some (Dt.val (.bool (!b)))=some d from c)).symm⟩
theorem BP{E:G}{e:SE}{b:Bool}{l:List Fact}(g:∀f∈l,f.holds E)(h:xE e l=some b){d:Dt}(i:ax E e=some d):d=.val (.bool b):=by
 unfold xE at h;cases a:O1 e with
 |none=>rw[a]at h;exact uO g h i
 |some x=>
  rw[a]at h;simp only at h;obtain⟨c,I,rfl⟩:=GX a i;cases hk:q0 x l with
  |none=>rw[hk]at h;cases h
  |some N=>rw[hk]at h;obtain rfl:=ae h;have:=uO g hk I;injection this with this;injection this with this;rw[this]
theorem BO{E:G}{i n:SE}:∀{l:List Fact},(∀f∈l,f.holds E)->uM i n l=true->(Fact.inr i n).holds E
 | [],_,h=>by cases h
 |f::l,d,h=>by
  have rest:=λ(h':uM i n l=true)=>BO (l:=l) (λf e=>d f (bQ _ e)) h'
  cases f with
  |inr a b=>
   simp only[uM]at h;cases c:(db a i&&db b n)with
   |true=>simp only[aM]at c;rw[<-bh c.1,<-bh c.2];exact d (.inr a b) bB
   |false=>rw[c]at h;exact rest h
  |tr _=>exact rest h
  |fl _=>exact rest h
  |rel _ _ _ _=>exact rest h
theorem Ho{E:G}{i:SE}{k:IntKind}{a:Int}(V:ax E i=some (.val (.int k a))):∀{l:List Fact},(∀f∈l,f.holds E)->Hp i l=true->0<=a
 | [],_,h=>by cases h
 |f::l,d,h=>by
  have rest:=λ(h':Hp i l=true)=>Ho V (l:=l) (λf g=>d f (bQ _ g)) h'
  cases f with
  |inr x b=>
   simp only[Hp]at h;cases e:db x i with
   |true=>obtain⟨k',a',m',c,j,m,n⟩:(Fact.inr x b).holds E:=d _ bB;rw[bh e,V]at c;have c:=ae c;injection c with c;injection c with _ c;omega
   |false=>rw[e]at h;exact rest h
  |tr _=>exact rest h
  |fl _=>exact rest h
  |rel _ _ _ _=>exact rest h
theorem NY{E:G}{m n:SE}{l:List Fact}{u v:Value}(a:ax E m=some (.val u))(c:ax E n=some (.val v))(e:∀f∈l,f.holds E)(h:Lf m n l=true):u=v:=by
 unfold Lf at h;cases d:db m n with
 |true=>rw[bh d,c]at a;have a:=ae a;injection a with a;exact a.symm
 |false=>
  rw[d]at h;simp only at h;cases hk:lH m n l with
  |none=>rw[hk]at h;cases h
  |some b=>rw[hk]at h;obtain rfl:b=true:=h;exact(uN a c e hk).1 rfl
theorem zO{E:G}{i n:SE}{k k':IntKind}{a m:Int}{pc:List Fact}(V:ax E i=some (.val (.int k a)))(s:ax E n=some (.val (.int k' m)))(d:∀f∈pc,f.holds E):∀{l:List Fact},(∀f∈l,f.holds E)->BX i n pc l=true->k=k'/\a<m
 | [],_,h=>by cases h
 |f::l,t,h=>by
  have rest:=λ(h':BX i n pc l=true)=>zO V s d (l:=l) (λf A=>t f (bQ _ A)) h'
  cases f with
  |tr e=>
   have g:ax E e=some (.val (.bool true)):=t _ bB;simp only[BX]at h;cases c:Z6 e with
   |none=>rw[c]at h;exact rest h
   |some r=>
    obtain⟨x,y⟩:=r;rw[c]at h;simp only at h;cases w:db x i&&Lf y n pc with
    |false=>rw[w]at h;exact rest h
    |true=>
     obtain⟨B,C⟩:=oe.1 w;have key:e=.a2 (.bin .lss) x y:=by
      cases e<;>first|(cases c;done)|skip
      rename_i o u v;cases o<;>first|(cases c;done)|skip
      rename_i op;cases op<;>first|(cases c;done)|skip
      simp only[Z6,aD,cB]at c;rw[c.1,c.2]
     subst key;rw[bh B]at g;simp only[ax,V,bn,cV]at g;obtain⟨D,j,b⟩:=g;cases D<;>first|(cases b;done)|skip
     rename_i v;cases v<;>first|(cases b;done)|skip
     rename_i z m2;have b:(if k=z then okV (bM .lss k a m2)else none)=some (.val (.bool true)):=b;have p:=NY j s d C;injection p with q p;subst p;by_cases hk:k=z
     .rw[aJ hk]at b;simp only[bM,okV,aD,Dt.val.injEq,mU]at b;exact⟨hk.trans q,b7 b⟩
     .rw[av hk]at b;cases b
  |inr _ _=>exact rest h
  |fl _=>exact rest h
  |rel _ _ _ _=>exact rest h
theorem Sj{E:G}{i n:SE}{k k':IntKind}{a m:Int}{pc l:List Fact}(V:ax E i=some (.val (.int k a)))(c:ax E n=some (.val (.int k' m)))(b:∀f∈pc,f.holds E)(d:∀f∈l,f.holds E)(h:BX i n pc l=true):a<m:=(zO V c b d h).2
theorem Z1{E:G}{e:SE}(h:C9 e=true){k:IntKind}{m:Int}(a:ax E e=some (.val (.int k m))):0<=m:=by
 cases e<;>first|(cases h;done)|skip
 rename_i q n;cases n<;>first|(cases h;done)|skip
 rename_i z;have:=ae (show some (Dt.val (.int q (.ofNat z)))=some _ from a);injection this with this;injection this with _ this;have b:(0:Int)<=Int.ofNat z:=od z;omega
theorem RU{E:G}{i:SE}{a:Int}{l:List Fact}(b:∀f∈l,f.holds E)(h:Z8 i l=true)(V:ax E i=some (.val (.int .i64 a))):0<=a:=by
 unfold Z8 at h;cases I:Hp i l with
 |true=>exact Ho V b I
 |false=>
  rw[I]at h;simp only at h;cases Y:C9 i with
  |true=>exact Z1 Y V
  |false=>rw[Y]at h;simp only at h;obtain⟨m,e,g⟩:=Py h;have:=(tH V (l:=l) (m:=(none,none)) b ⟨λn(h:(none:Option Int)=some n)=>(nomatch h),λn(h:(none:Option Int)=some n)=>(nomatch h)⟩).1 m e;omega
theorem ig{E:G}{i n:SE}{k:IntKind}{a m:Int}{l:List Fact}(d:∀f∈l,f.holds E)(h:iW i n l=true)(V:ax E i=some (.val (.int k a)))(g:ax E n=some (.val (.int .i64 m))):0<=a/\a<m:=by
 unfold iW at h;cases hk:uM i n l with
 |true=>obtain⟨k',a',m',b,c,j⟩:=BO d hk;rw[V]at b;rw[g]at c;have b:=ae b;have c:=ae c;injection b with b;injection b with _ b;injection c with c;injection c with _ c;rw[b,c];exact j
 |false=>rw[hk]at h;obtain⟨o,p⟩:=oe.1 h;obtain⟨e,Y⟩:=zO V g d d o;rw[e]at V;exact⟨RU d p V,Y⟩
theorem gh{x:Int}(I: -9223372036854775808<=x)(Y:x<=9223372036854775807):IntKind.i64.wrap x=x:=by simp only[IntKind.wrap,IntKind.signed,IntKind.bits];simp;omega
theorem a2h{n:Int}(h:0<=n):IntKind.wrap .i64 n<=n:=by simp only[IntKind.wrap,IntKind.bits,IntKind.signed];simp;omega
theorem Hv{E:G}{e:SE}{n:Nat}{a:Int}{l:List Fact}(c:∀f∈l,f.holds E)(h:UJ e n l=true)(g:ax E e=some (.val (.int .i64 a))):(n:Int)<=a:=by
 unfold UJ at h;cases hk:xE (.a2 (.bin .geq) e (.int .i64 (.ofNat n))) l with
 |none=>rw[hk]at h;cases h
 |some b=>rw[hk]at h;obtain rfl:b=true:=h;have:=BP c hk (d:=.val (.bool (decide ((n:Int)<=a)))) (by simp only[ax,g,bn,e2,fj,bS,bc,bM,okV];rfl);injection this with this;injection this with this;exact b7 this
theorem gY{E:G}{x:SE}{str:ByteArray}{l:List Fact}(d:∀f∈l,f.holds E)(Z:ax E x=some (.val (.string str)))(h:uL x l=true):str.size<=4611686018427387904:=by
 have a:ax E (.a1 .len x)=some (.val (.int .i64 str.size)):=by simp only[ax,Z,bn,e1]
 have:=tH a (l:=l) (m:=(some 0,none)) d ⟨by intro m b;cases b;omega,by intro m b;cases b⟩;unfold uL J3 at h;cases c:(qy (.a1 .len x) .i64 l (some 0,none)).2 with
 |none=>rw[c]at h;cases h
 |some m=>rw[c]at h;have I:=b7 h;have Y:=this.2 m c;omega
theorem mQ{e x:SE}{n:Nat}(h:ry e=some (x,n)):e=.a2 (.bin .add) x (.int .i64 (.ofNat n)):=by
 cases e<;>first|(cases h;done)|skip
 rename_i o u v;cases o<;>first|(cases h;done)|skip
 rename_i op;cases op<;>first|(cases h;done)|skip
 cases v<;>first|(cases h;done)|skip
 rename_i k m;cases k<;>first|(cases h;done)|skip
 cases m<;>first|(cases h;done)|skip
 simp only[ry,aD,cB]at h;rw[h.1,h.2]
theorem FF{E:G}{x:SE}{n:Nat}{k:IntKind}{a:Int}(h:ax E (.a2 (.bin .add) x (.int .i64 (.ofNat n)))=some (.val (.int k a))):∃b,ax E x=some (.val (.int .i64 b))/\k=.i64/\a=IntKind.wrap .i64 (b+n):=by
 simp only[ax,bn,cV]at h;obtain⟨u,d,h⟩:=h;cases u<;>first|(cases h;done)|skip
 rename_i v;cases v<;>first|(cases h;done)|skip
 rename_i q b;have h:(if q=.i64 then okV (bM .add q b (.ofNat n))else none)=some (.val (.int k a)):=h;by_cases c:q=.i64
 .rw[aJ c]at h;subst c;simp only[bM,okV,aD,Dt.val.injEq,kV]at h;exact⟨b,d,h.1.symm,h.2.symm⟩
 .rw[av c]at h;cases h
theorem a2t{E:G}{x y:SE}{str:ByteArray}{b:Int}(Z:ax E x=some (.val (.string str)))(a:ax E y=some (.val (.int .i64 b)))(c:0<=b)(I:b<=str.size):
  ax E (.a1 .len (.a3 .sub x y (.a1 .len x)))=some (.val (.int .i64 (str.size-b))):=by
 obtain⟨m,rfl⟩:=fK c;have e:((str.data.toList.take ((str.size:Int)).toNat).drop ((m:Int)).toNat).length=str.size-m:=by rw[eV,c8,tW,tW,y9];show min str.size str.size-m=_;omega
 simp only[ax,Z,a,bn,e1,e3];show some (Dt.val (.int .i64 (((str.data.toList.take ((str.size:Int)).toNat).drop ((m:Int)).toNat).length:Int)))=_;rw[e];congr 3;omega
theorem DV{E:G}{i n:SE}{k:IntKind}{a m:Int}(V:ax E i=some (.val (.int k a)))(c:ax E n=some (.val (.int .i64 m))):∀{l:List Fact},(∀f∈l,f.holds E)->C3 i n l=true->a<m
 | [],_,h=>by cases h
 |f::l,d,h=>by
  have rest:=λ(h':C3 i n l=true)=>DV V c (l:=l) (λf j=>d f (bQ _ j)) h'
  cases f with
  |fl e=>
   simp only[C3]at h;cases g:db e (.a2 (.bin .geq) i n)with
   |false=>rw[g]at h;exact rest h
   |true=>
    have b:ax E e=some (.val (.bool false)):=d _ bB;rw[bh g]at b;simp only[ax,V,c,bn,e2]at b;have b:(if k=.i64 then okV (bM .geq k a m)else none)=some (.val (.bool false)):=b;by_cases hk:k=.i64
    .rw[aJ hk]at b;simp only[bM,okV,aD,Dt.val.injEq,mU]at b;have:=iH b;omega
    .rw[av hk]at b;cases b
  |tr _=>exact rest h
  |inr _ _=>exact rest h
  |rel _ _ _ _=>exact rest h
theorem zS{E:G}{i n:SE}{d:Nat}{k:IntKind}{a m:Int}(V:ax E i=some (.val (.int k a)))(t:ax E n=some (.val (.int .i64 m)))(z:0<=a)(I:a<=4611686018427387904):∀{l:List Fact},(∀f∈l,f.holds E)->nT i d n l=true->a+d<m
 | [],_,h=>by cases h
 |f::l,w,h=>by
  have rest:=λ(h':nT i d n l=true)=>zS V t z I (l:=l) (λf A=>w f (bQ _ A)) h'
  cases f with
  |fl e=>
   cases e<;>first|exact rest h|skip
   rename_i o u v;cases o<;>first|exact rest h|skip
   rename_i op;cases op<;>first|exact rest h|skip
   simp only[nT]at h;cases b:ry u with
   |none=>rw[b]at h;exact rest h
   |some r=>
    obtain⟨j,c⟩:=r;rw[b]at h;simp only at h;cases g:db j i&&(db v n&&(Nat.blt d c&&Nat.blt c 1000000))with
    |false=>rw[g]at h;exact rest h
    |true=>
     simp only[aM]at g;obtain⟨x,y,p,s⟩:=g;have Z:ax E (.a2 (.bin .gtr) u v)=some (.val (.bool false)):=w _ bB;rw[mQ b,bh x,bh y]at Z;have p:d<c:=bZ p;have s:c<1000000:=bZ s;have Z:((if k=.i64 then okV (bM .add k a (.ofNat c))else none).bind λq=>(ax E n).bind (e2 (.bin .gtr) q))=some (.val (.bool false)):=by
      have e:ax E (.a2 (.bin .add) i (.int .i64 (.ofNat c)))=if k=.i64 then okV (bM .add k a (.ofNat c))else none:=by simp only[ax,V,bn];rfl
      rw[<-e];exact Z
     by_cases hk:k=.i64
     .subst hk;rw[aJ rfl,t]at Z;simp only[bM,okV,bn]at Z;rw[gh (by simp only[cN];omega) (by simp only[cN];omega)]at Z;have Z:okV (bM .gtr .i64 (a+Int.ofNat c) m)=some (.val (.bool false)):=Z;simp only[bM,okV,aD,Dt.val.injEq,mU]at Z;have Z:=iH Z;simp only[cN]at Z;omega
     .rw[av hk]at Z;cases Z
  |tr e=>
   cases e<;>first|exact rest h|skip
   rename_i o u v;cases o<;>first|exact rest h|skip
   rename_i op;cases op<;>first|exact rest h|skip
   simp only[nT]at h;cases b:ry u with
   |none=>rw[b]at h;exact rest h
   |some r=>
    obtain⟨j,c⟩:=r;rw[b]at h;simp only at h;cases g:db j i&&(db v n&&(Nat.blt d c&&Nat.blt c 1000000))with
    |false=>rw[g]at h;exact rest h
    |true=>
     simp only[aM]at g;obtain⟨x,y,p,s⟩:=g;have Z:ax E (.a2 (.bin .leq) u v)=some (.val (.bool true)):=w _ bB;rw[mQ b,bh x,bh y]at Z;have p:d<c:=bZ p;have s:c<1000000:=bZ s;have Z:((if k=.i64 then okV (bM .add k a (.ofNat c))else none).bind λq=>(ax E n).bind (e2 (.bin .leq) q))=some (.val (.bool true)):=by
      have e:ax E (.a2 (.bin .add) i (.int .i64 (.ofNat c)))=if k=.i64 then okV (bM .add k a (.ofNat c))else none:=by simp only[ax,V,bn];rfl
      rw[<-e];exact Z
     by_cases hk:k=.i64
     .subst hk;rw[aJ rfl,t]at Z;simp only[bM,okV,bn]at Z;rw[gh (by simp only[cN];omega) (by simp only[cN];omega)]at Z;have Z:okV (bM .leq .i64 (a+Int.ofNat c) m)=some (.val (.bool true)):=Z;simp only[bM,okV,aD,Dt.val.injEq,mU]at Z;have Z:=b7 Z;simp only[cN]at Z;omega
     .rw[av hk]at Z;cases Z
  |inr _ _=>exact rest h
  |rel _ _ _ _=>exact rest h
theorem Q8{x i a b:SE}{n:Nat}(h:N3 x i n a b=true):a=.a2 (.bin .sub) (.a1 .len x) i/\∃c:Nat,b=.int .i64 (.ofNat c)/\n<=c:=by
 unfold N3 at h;simp only[aM]at h;obtain⟨I,Y⟩:=h;refine⟨bh I,?_⟩;cases b<;>first|(cases Y;done)|skip
 rename_i k m;simp only[aM]at Y;obtain⟨Y,W⟩:=Y;cases m<;>first|(cases W;done)|skip
 rename_i m;obtain rfl:=e8 Y;exact⟨m,rfl,bZ W⟩
theorem YY{E:G}{x i:SE}{str:ByteArray}(Z:ax E x=some (.val (.string str))){v:Int}(b:ax E (.a2 (.bin .sub) (.a1 .len x) i)=some (.val (.int .i64 v))):∃a,ax E i=some (.val (.int .i64 a))/\v=IntKind.i64.wrap (str.size-a):=by
 simp only[ax,Z,bn,e1,cV]at b;obtain⟨u,d,b⟩:=b;cases u<;>first|(cases b;done)|skip
 rename_i w;cases w<;>first|(cases b;done)|skip
 rename_i q a;have b:(if IntKind.i64=q then okV (bM .sub .i64 (str.size:Int) a)else none)=some (.val (.int .i64 v)):=b;by_cases c:IntKind.i64=q
 .subst c;rw[aJ rfl]at b;simp only[bM,okV,aD,Dt.val.injEq,kV,fp]at b;exact⟨a,d,b.symm⟩
 .rw[av c]at b;cases b
theorem Q7{E:G}{x i:SE}{n:Nat}{str:ByteArray}(Z:ax E x=some (.val (.string str))){f:Fact}(j:f.holds E)(h:YZ x i n f=true):∃a,ax E i=some (.val (.int .i64 a))/\(n:Int)<=IntKind.i64.wrap (str.size-a):=by
 have one:∀{op:BinOp}{a b:SE}{r:Bool},qm op=true->N3 x i n a b=true->ax E (.a2 (.bin op) a b)=some (.val (.bool r))->(∀v c:Int,Ag op v c=r->c<=v)->∃a,ax E i=some (.val (.int .i64 a))/\(n:Int)<=IntKind.i64.wrap (str.size-a):=by
  intro op a b r ho k l d;obtain⟨rfl,c,rfl,m⟩:=Q8 k;have g:Jb (.a2 (.bin op) (.a2 (.bin .sub) (.a1 .len x) i) (.int .i64 (.ofNat c)))=some (op,.a2 (.bin .sub) (.a1 .len x) i,.i64,.ofNat c):=by unfold Jb;simp only[ho]
  obtain⟨v,I,Y⟩:=tA g l;injection Y with Y;injection Y with Y;obtain⟨a,g1,g2⟩:=YY Z I;have:=d v (.ofNat c) Y.symm;refine⟨a,g1,?_⟩;rw[<-g2];simp only[cN]at this;omega
 cases f with
 |tr e=>
  cases e<;>first|(cases h;done)|skip
  rename_i o a b;cases o<;>first|(cases h;done)|skip
  rename_i op;cases op<;>first|(cases h;done)|skip
  exact one (op:=.geq) rfl h j λv c e=>b7 e
 |fl e=>
  cases e<;>first|(cases h;done)|skip
  rename_i o a b;cases o<;>first|(cases h;done)|skip
  rename_i op;cases op<;>first|(cases h;done)|skip
  exact one (op:=.lss) rfl h j λv c e=>by
   have:=iH e;omega
 |inr _ _=>cases h
 |rel _ _ _ _=>cases h
theorem uu{E:G}{x i:SE}{n:Nat}{str:ByteArray}(Z:ax E x=some (.val (.string str))):∀{pc:List Fact},(∀f∈pc,f.holds E)->qV x i n pc=true->∃a,ax E i=some (.val (.int .i64 a))/\(n:Int)<=IntKind.i64.wrap (str.size-a)
 | [],_,h=>by cases h
 |f::l,c,h=>by
  unfold qV at h;cases b:YZ x i n f with
  |true=>exact Q7 Z (c f bB) b
  |false=>rw[b]at h;exact uu Z (λf b=>c f (bQ _ b)) h
theorem Q9{E:G}{x i:SE}{n:Nat}{str:ByteArray}{pc:List Fact}(b:∀f∈pc,f.holds E)(Z:ax E x=some (.val (.string str)))(c:str.size<=4611686018427387904){k:IntKind}{a:Int}(V:ax E i=some (.val (.int k a)))(d:0<=a)(I:a<=str.size)(h:qV x i n pc=true):a+n<=str.size:=by obtain⟨a',g1,g2⟩:=uu Z b h;rw[V]at g1;have g1:=ae g1;injection g1 with g1;injection g1 with _ g1;subst g1;rw[gh (by omega) (by omega)]at g2;omega
theorem yW{E:G}{x i:SE}{str:ByteArray}{pc:List Fact}(c:∀f∈pc,f.holds E)(Z:ax E x=some (.val (.string str))){k:IntKind}{a:Int}(V:ax E i=some (.val (.int k a)))(d:0<=a)(I:a<=str.size)(h:wM x pc i=true):a<str.size:=by
 have b:ax E (.a1 .len x)=some (.val (.int .i64 str.size)):=by simp only[ax,Z,bn,e1]
 unfold wM at h;simp only[il,aM]at h;rcases h with h|h|⟨h,W|W⟩
 .exact Sj V b c c h
 .exact DV V b c h
 .have g:=gY c Z h;have:=zS V b d (by omega) c W;omega
 .have:=Q9 c Z (gY c Z h) V d I W;omega
theorem iX{E:G}{x:SE}{str:ByteArray}{pc:List Fact}(c:∀f∈pc,f.holds E)(Z:ax E x=some (.val (.string str))):∀(f:Nat){l:SE}{k:IntKind}{a:Int},rh x pc f l=true->ax E l=some (.val (.int k a))->0<=a/\a<=str.size:=by
 have m:ax E (.a2 (.bin .add) (.a1 .len x) (.int .i64 (.ofNat 1)))=some (.val (.int .i64 (IntKind.wrap .i64 (str.size+1)))):=by simp only[ax,Z,bn,e1,e2,fj,bS,bc,bM,okV];rfl
 have e:ax E (.a2 (.bin .add) (.a1 .len x) (.int .i64 (.ofNat 2)))=some (.val (.int .i64 (IntKind.wrap .i64 (str.size+2)))):=by simp only[ax,Z,bn,e1,e2,fj,bS,bc,bM,okV];rfl
 have d:ax E (.a1 .len x)=some (.val (.int .i64 str.size)):=by simp only[ax,Z,bn,e1]
 have one:∀{l:SE}{k:IntKind}{a:Int},Hj x pc l=true->ax E l=some (.val (.int k a))->0<=a/\a<=str.size:=λ{l k a}h V=>by
  unfold Hj at h;simp only[il,aM]at h;rcases h with h|h|⟨h,Y,W⟩
  .have I:=ig c h V m;have Y:=a2h (n:=(str.size:Int)+1) (by omega);omega
  .have I:=ig c h V d;omega
  .have I:=ig c h V e;have g:=gY c Z W;rw[gh (by omega) (by omega)]at I;obtain⟨a',g1,g2⟩:=uu Z c Y;rw[V]at g1;have g1:=ae g1;injection g1 with g1;injection g1 with _ g1;subst g1;rw[gh (by omega) (by omega)]at g2;omega
 intro f;induction f with
 |zero=>intro l k a h V;exact one h V
 |succ f o=>
  intro l k a h V;unfold rh at h;cases hk:Hj x pc l with
  |true=>exact one hk V
  |false=>
   rw[hk]at h;simp only at h;cases i:ry l with
   |none=>rw[i]at h;cases h
   |some r=>
    obtain⟨y,n⟩:=r;rw[i]at h;simp only[aM]at h;obtain⟨I,Y,W⟩:=h;obtain rfl:=mQ i;obtain⟨b,g1,rfl,rfl⟩:=FF V;obtain⟨b0,j⟩:=o I g1;have g3:=gY c Z W;simp only[il,aM]at Y;rcases Y with⟨Y,U⟩|Y|Y
    .obtain rfl:=bj Y;have:=yW c Z g1 b0 j U;rw[gh (by omega) (by omega)];omega
    .have g2:=Hv c Y (a2t Z g1 b0 j);rw[gh (by omega) (by omega)];omega
    .have g2:=Q9 c Z g3 g1 b0 j Y;rw[gh (by omega) (by omega)];omega
theorem Hk{E:G}{x i:SE}{str:ByteArray}{pc:List Fact}(e:∀f∈pc,f.holds E)(Z:ax E x=some (.val (.string str)))(h:Ps x pc i=true){k:IntKind}{a:Int}(V:ax E i=some (.val (.int k a))):0<=a/\a<str.size:=by
 have c:ax E (.a1 .len x)=some (.val (.int .i64 str.size)):=by simp only[ax,Z,bn,e1]
 unfold Ps at h;cases I:iW i (.a1 .len x) pc with
 |true=>exact ig e I V c
 |false=>
  rw[I]at h;simp only at h;cases Y:rh x pc 4 i&&wM x pc i with
  |true=>obtain⟨n,o⟩:=oe.1 Y;obtain⟨c1,c2⟩:=iX e Z 4 n V;exact⟨c1,yW e Z V c1 c2 o⟩
  |false=>
   rw[Y]at h;simp only at h;cases l:ry i with
   |none=>rw[l]at h;cases h
   |some r=>obtain⟨j,d⟩:=r;rw[l]at h;simp only[aM]at h;obtain⟨g1,g2,g3⟩:=h;obtain rfl:=mQ l;obtain⟨b,m,rfl,rfl⟩:=FF V;obtain⟨c1,c2⟩:=iX e Z 4 g2 m;have g:=gY e Z g1;have:=zS m c c1 (by omega) e g3;rw[gh (by omega) (by omega)];omega
theorem Po{e:SE}(h:BS e=true):∃k,e=.int k 0:=by
 cases e<;>first|(cases h;done)|skip
 rename_i k n;cases n<;>first|(cases h;done)|skip
 rename_i m;exact⟨k,by rw[bj (show Nat.beq m 0=true from h)];rfl⟩
theorem Hn{E:G}{l h:SE}{b c:IntKind}{d g:Int}(i:ax E l=some (.val (.int b d)))(j:ax E h=some (.val (.int c g))):∀{pc:List Fact},(∀f∈pc,f.holds E)->Ka l h pc=true->d<=g
 | [],_,e=>by cases e
 |f::r,k,e=>by
  have rest:=λ(h':Ka l h r=true)=>Hn i j (pc:=r) (λf n=>k f (bQ _ n)) h'
  cases f with
  |tr x=>
   simp only[Ka]at e;cases m:db x (.a2 (.bin .leq) l h)with
   |false=>rw[m]at e;exact rest e
   |true=>
    have a:ax E x=some (.val (.bool true)):=k _ bB;rw[bh m]at a;simp only[ax,i,j,bn,e2]at a;have a:(if b=c then okV (bM .leq b d g)else none)=some (.val (.bool true)):=a;by_cases hk:b=c
    .rw[aJ hk]at a;simp only[bM,okV,aD,Dt.val.injEq,mU]at a;exact b7 a
    .rw[av hk]at a;cases a
  |fl _=>exact rest e
  |inr _ _=>exact rest e
  |rel _ _ _ _=>exact rest e
theorem Aj{E:G}{e:SE}(h:BV e=true){d:Dt}(a:ax E e=some d):∃b:UInt8,d=.val (.int .u8 b.toNat):=by
 cases e<;>first|(cases h;done)|skip
 rename_i o x y;simp only[ax,cV]at a;obtain⟨u,c,v,f,a⟩:=a;cases o<;>first|(cases h;done)|skip
 .cases u<;>first|(cases a;done)|skip
  rename_i u;cases v<;>first|(cases u<;>cases a;done)|skip
  rename_i v;cases u<;>first|(cases a;done)|skip
  rename_i str;cases v<;>first|(cases a;done)|skip
  rename_i k n;cases n<;>first|(cases a;done)|skip
  rename_i m;have a:((str.data.toList[m]?).map λb=>Dt.val (.int .u8 b.toNat))=some d:=a;rw[bk]at a;obtain⟨b, -,rfl⟩:=a;exact⟨b,rfl⟩
 .rename_i g k;simp only[BV,aM]at h;obtain⟨I,Y,W⟩:=h;obtain rfl:=bj I;obtain rfl:=bj Y;cases x<;>first|(cases W;done)|skip
  rename_i p z;cases p<;>first|(cases W;done)|skip
  simp only[ax,cV]at c;obtain⟨q, -,c⟩:=c;unfold e1 at c;simp only at c;split at c<;>first|(cases c;done)|skip
  obtain rfl:=ae c;unfold e2 at a;simp only at a;split at a<;>first|(cases a;done)|skip
  rename_i P J j i heq;injection heq with _ heq;subst heq;rw[fw,kh,bk]at a;obtain⟨b, -,rfl⟩:=a;exact⟨b,rfl⟩
theorem ZZ{E:G}{e:SE}(h:nib e=true){q:IntKind}{n:Int}(c:ax E e=some (.val (.int q n))):0<=n/\n<16:=by
 cases e<;>first|(cases h;done)|skip
 rename_i o x y;cases o<;>first|(cases h;done)|skip
 rename_i op;simp only[ax,cV]at c;obtain⟨u,f,v,d,c⟩:=c;cases op<;>first|(cases h;done)|skip
 .cases y<;>first|(simp[nib]at h;done)|skip
  rename_i k m;simp only[nib,aM]at h;obtain⟨I,Y,W⟩:=h;cases m<;>first|(cases W;done)|skip
  rename_i m;obtain rfl:=e8 Y;obtain rfl:=bj W;obtain rfl:=ae d;obtain⟨b,rfl⟩:=Aj I f;have c:(if IntKind.u8=.u8 then okV (bM .quo .u8 b.toNat (.ofNat 16))else none)=some (.val (.int q n)):=c;rw[aJ rfl]at c;have j:=b.toNat_lt;have e:(b.toNat:Int).tdiv (Int.ofNat 16)=(b.toNat:Int)/16:=Int.tdiv_eq_ediv_of_nonneg (by omega);simp only[bM,e,show decide (Int.ofNat 16=0)=false from rfl,okV,aD,Dt.val.injEq,kV]at c;obtain⟨-,rfl⟩:=c;simp only[IntKind.wrap,IntKind.signed,IntKind.bits];simp;omega
 .cases y<;>first|(simp[nib]at h;done)|skip
  rename_i k m;simp only[nib,aM]at h;obtain⟨I,Y,W⟩:=h;cases m<;>first|(cases W;done)|skip
  rename_i m;obtain rfl:=e8 Y;obtain rfl:=bj W;obtain rfl:=ae d;obtain⟨b,rfl⟩:=Aj I f;have c:(if IntKind.u8=.u8 then okV (bM .rem .u8 b.toNat (.ofNat 16))else none)=some (.val (.int q n)):=c;rw[aJ rfl]at c;have j:=b.toNat_lt;have e:(b.toNat:Int).tmod (Int.ofNat 16)=(b.toNat:Int)%16:=Int.tmod_eq_emod_of_nonneg (by omega);simp only[bM,e,show decide (Int.ofNat 16=0)=false from rfl,okV,aD,Dt.val.injEq,kV]at c;obtain⟨-,rfl⟩:=c;omega
 .cases y<;>first|(simp[nib]at h;done)|skip
  rename_i k m;simp only[nib,aM]at h;obtain⟨I,Y⟩:=h;cases m<;>first|(cases Y;done)|skip
  rename_i m;obtain rfl:=e8 I;obtain rfl:=bj Y;obtain rfl:=ae d;cases u<;>first|(cases c;done)|skip
  rename_i w;cases w<;>first|(cases c;done)|skip
  rename_i g a;have c:(if g=.u8 then okV (bM .and g a (.ofNat 15))else none)=some (.val (.int q n)):=c;by_cases l:g=.u8
  .subst l;rw[aJ rfl]at c;simp only[bM,okV,aD,Dt.val.injEq,kV]at c;obtain⟨-,rfl⟩:=c;have i:(BitVec.ofInt IntKind.u8.bits a &&& BitVec.ofInt IntKind.u8.bits (Int.ofNat 15)).toNat<=15:=by
    rw[BitVec.toNat_and];refine iG Nat.and_le_right ?_;decide
   generalize (BitVec.ofInt IntKind.u8.bits a &&& BitVec.ofInt IntKind.u8.bits (Int.ofNat 15)).toNat=z at i;simp only[IntKind.wrap,IntKind.signed,IntKind.bits];simp;omega
  .rw[av l]at c;cases c
 .cases y<;>first|(simp[nib]at h;done)|skip
  rename_i k m;simp only[nib,aM]at h;obtain⟨I,Y⟩:=h;cases m<;>first|(cases Y;done)|skip
  rename_i m;obtain rfl:=bj Y;obtain rfl:=ae d;obtain⟨b,rfl⟩:=Aj I f;have c:okV (oS .shr .u8 b.toNat (.ofNat 4))=some (.val (.int q n)):=c;have j:=b.toNat_lt;simp only[oS,IntKind.bits]at c;have e:((b.toNat:Int)).fdiv (2^(min (Int.ofNat 4).toNat 8))=(b.toNat:Int)/16:=by show((b.toNat:Int)).fdiv 16=_;rw[Int.fdiv_eq_ediv_of_nonneg _ (by decide)]
  rw[e]at c;simp only[show decide (Int.ofNat 4<0)=false from rfl,okV,aD,Dt.val.injEq,kV]at c;obtain⟨-,rfl⟩:=c;omega
theorem PM{E:G}{x l h:SE}{str:ByteArray}(Z:ax E x=some (.val (.string str)))(e:SC x l h=true){c f:IntKind}{b d:Int}(g:ax E l=some (.val (.int c b)))(a:ax E h=some (.val (.int f d))):
  0<=b/\b<=d/\d<=(str.size:Int):=by
 cases x<;>first|(cases e;done)|skip
 rename_i s;simp only[SC,aM]at e;obtain⟨I,Y,W⟩:=e;have I:=bj I;obtain rfl:=bh W;obtain⟨b0,k⟩:=ZZ Y g;have j:str.size=16:=by have:=ae (show some (Dt.val (.string ⟨⟨s⟩⟩))=some _ from Z);injection this with this;injection this with this;subst this;exact I
 simp only[ax,g,bn,e2]at a;have a:(if c=.u8 then okV (bM .add c b (.ofNat 1))else none)=some (.val (.int f d)):=a;by_cases i:c=.u8
 .subst i;rw[aJ rfl]at a;simp only[bM,okV,aD,Dt.val.injEq,kV]at a;obtain⟨-,rfl⟩:=a;have:IntKind.u8.wrap (b+Int.ofNat 1)=b+1:=by
   simp only[IntKind.wrap,IntKind.signed,IntKind.bits];simp;omega
  rw[this,j];omega
 .rw[av i]at a;cases a
theorem J4{E:G}{l h:SE}{pc:List Fact}(g:∀f∈pc,f.holds E)(b:a0g l h pc=true){i j:IntKind}{c d:Int}(a:ax E l=some (.val (.int i c)))(e:ax E h=some (.val (.int j d))):c<=d:=by
 unfold a0g at b;simp only[il]at b;rcases b with b|b
 .exact Hn a e g b
 .rw[bh b,e]at a;have a:=ae a;injection a with a;injection a with _ a;omega
theorem Ph{E:G}{x l:SE}{str:ByteArray}{pc:List Fact}(d:∀f∈pc,f.holds E)(Z:ax E x=some (.val (.string str))){q:IntKind}{o:Int}(j:ax E l=some (.val (.int q o))):∀(f:Nat){h:SE}{k:IntKind}{i:Int},leK x pc l f h=true->ax E h=some (.val (.int k i))->o<=i
 |0,h,k,i,a,g2=>J4 d a j g2
 |f+1,h,k,i,a,g2=>by
  unfold leK at a;cases I:a0g l h pc with
  |true=>exact J4 d I j g2
  |false=>
   rw[I]at a;simp only at a;cases m:ry h with
   |none=>rw[m]at a;cases a
   |some r=>obtain⟨y,n⟩:=r;rw[m]at a;simp only[aM]at a;obtain⟨s,p,t,u⟩:=a;obtain rfl:=mQ m;obtain⟨b,e,rfl,rfl⟩:=FF g2;have c:=Ph d Z j f s e;obtain⟨d1,d2⟩:=iX d Z 4 u e;have g:=gY d Z t;have p:n<1000000:=bZ p;rw[gh (by omega) (by omega)];omega
theorem a3F{E:G}{z:SE}{d:Dt}(h:ax E (.a1 .len z)=some d):∃m:Nat,d=.val (.int .i64 (m:Int)):=by
 simp only[ax,cV]at h;obtain⟨u, -,h⟩:=h;cases u with
 |val v=>cases v<;>first|(cases h;done)|exact⟨_,(ae h).symm⟩
 |sl v t g J=>cases v<;>first|(cases h;done)|exact⟨_,(ae h).symm⟩
 |_=>cases h
theorem Qi{h y z:SE}(k:SW h=some (y,z)):h=.a2 (.bin .add) y (.a1 .len z):=by
 cases h<;>first|(cases k;done)|skip
 rename_i o a b;cases o<;>first|(cases k;done)|skip
 rename_i op;cases op<;>first|(cases k;done)|skip
 cases b<;>first|(cases k;done)|skip
 rename_i p c;cases p<;>first|(cases k;done)|skip
 have k:=ae k;injection k with d e;subst d;subst e;rfl
theorem uo{E:G}{b:Bool}{e:SE}{pc:List Fact}(a:∀f∈pc,f.holds E)(h:DF b e pc=true):ax E e=some (.val (.bool b)):=by
 unfold DF at h;cases hk:qk e pc with
 |none=>rw[hk]at h;cases h
 |some c=>rw[hk]at h;have:=wq a hk;cases b<;>cases c<;>first|exact this|cases h
theorem PN{E:G}{x l h:SE}{str:ByteArray}{pc:List Fact}(s:∀f∈pc,f.holds E)(Z:ax E x=some (.val (.string str)))(i:MG x pc l h=true){j B:IntKind}{c o:Int}(t:ax E l=some (.val (.int j c)))(n:ax E h=some (.val (.int B o))):
  0<=c/\c<=o/\o<=(str.size:Int):=by
 have p:ax E (.a1 .len x)=some (.val (.int .i64 str.size)):=by simp only[ax,Z,bn,e1]
 unfold MG at i;cases v:SW h with
 |none=>rw[v]at i;cases i
 |some r=>
  obtain⟨y,z⟩:=r;rw[v]at i;simp only[aM,il]at i;obtain⟨⟨D,q⟩,F,H⟩:=i;obtain rfl:=bh D;obtain rfl:=Qi v;obtain⟨c1,c2⟩:=iX s Z 4 H t;have g:=gY s Z F;have e:∃d,ax E (.a1 .len z)=some d:=by
   cases e:ax E (.a1 .len z)with
   |some d=>exact⟨d,rfl⟩
   |none=>simp only[ax]at n e;rw[e]at n;simp only[Option.bind_none,Option.bind_fun_none]at n;cases n
  obtain⟨d,e⟩:=e;obtain⟨m,rfl⟩:=a3F e;have u:j=.i64:=by
   have g3:=n;rw[show ax E (.a2 (.bin .add) y (.a1 .len z))=e2 (.bin .add) (.val (.int j c)) (.val (.int .i64 m))from by
    show((ax E y).bind λa=>(ax E (.a1 .len z)).bind λb=>e2 (.bin .add) a b)=_;rw[t,e];rfl]at g3
   by_cases u:j=.i64
   .exact u
   .have g3:(if j=.i64 then okV (bM .add j c m)else none)=some (.val (.int B o)):=g3;rw[av u]at g3;cases g3
  subst u;have w:o=IntKind.wrap .i64 (c+m):=by
   have g3:=n;rw[show ax E (.a2 (.bin .add) y (.a1 .len z))=some (.val (.int .i64 (IntKind.wrap .i64 (c+m))))from by
    show((ax E y).bind λa=>(ax E (.a1 .len z)).bind λb=>e2 (.bin .add) a b)=_;rw[t,e];rfl]at g3
   have g3:=ae g3;injection g3 with g3;injection g3 with _ g3;exact g3.symm
  have C:ax E (.a2 (.bin .sub) (.a1 .len x) y)=some (.val (.int .i64 (IntKind.wrap .i64 (str.size-c)))):=by show((ax E (.a1 .len x)).bind λa=>(ax E y).bind λb=>e2 (.bin .sub) a b)=_;rw[p,t];rfl
  have A:(m:Int)<=IntKind.wrap .i64 (str.size-c):=by
   rcases q with q|q
   .have k:=uo s q;rw[show ax E (.a2 (.bin .geq) (.a2 (.bin .sub) (.a1 .len x) y) (.a1 .len z))=some (.val (.bool (decide (IntKind.wrap .i64 (str.size-c) ≥ (m:Int)))))from by
     show((ax E (.a2 (.bin .sub) (.a1 .len x) y)).bind λa=>(ax E (.a1 .len z)).bind λb=>e2 (.bin .geq) a b)=_;rw[C,e];rfl]at k
    have k:=ae k;injection k with k;injection k with k;exact b7 k
   .have k:=uo s q;rw[show ax E (.a2 (.bin .lss) (.a2 (.bin .sub) (.a1 .len x) y) (.a1 .len z))=some (.val (.bool (decide (IntKind.wrap .i64 (str.size-c)<(m:Int)))))from by
     show((ax E (.a2 (.bin .sub) (.a1 .len x) y)).bind λa=>(ax E (.a1 .len z)).bind λb=>e2 (.bin .lss) a b)=_;rw[C,e];rfl]at k
    have k:=ae k;injection k with k;injection k with k;have:=iH k;omega
  rw[gh (by omega) (by omega)]at A;rw[w,gh (by omega) (by omega)];omega
theorem SD{E:G}{x l h:SE}{str:ByteArray}{pc:List Fact}(e:∀f∈pc,f.holds E)(Z:ax E x=some (.val (.string str)))(a:U3 x pc l h=true){u v:IntKind}{o s:Int}(i:ax E l=some (.val (.int u o)))(c:ax E h=some (.val (.int v s))):
  0<=o/\o<=s/\s<=(str.size:Int):=by
 have j:ax E (.a1 .len x)=some (.val (.int .i64 str.size)):=by simp only[ax,Z,bn,e1]
 have zero:BS l=true->o=0:=λw=>by
  obtain⟨k,rfl⟩:=Po w;have:=ae i;injection this with this;injection this with _ this;exact this.symm
 unfold U3 at a;cases I:db h (.a1 .len x)with
 |true=>rw[I]at a;obtain rfl:=bh I;rw[j]at c;have c:=ae c;injection c with c;injection c with _ c;obtain⟨c1,c2⟩:=iX e Z 4 a i;omega
 |false=>
  rw[I]at a;simp only at a;cases Y:SG x pc l h with
  |true=>
   unfold SG at Y;cases t:ry h with
   |some r=>
    obtain⟨y,n⟩:=r;rw[t]at Y;simp only[aM]at Y;obtain⟨z,A,p⟩:=Y;obtain rfl:=bh z;obtain rfl:=mQ t;obtain⟨b,d,rfl,rfl⟩:=FF c;rw[i]at d;have d:=ae d;injection d with d;injection d with _ d;subst d;have g:=gY e Z A;simp only[il,aM]at p;rcases p with⟨B,p⟩|⟨p,C⟩
    .obtain rfl:=bj B;obtain⟨c1,c2⟩:=Hk e Z p i;rw[gh (by omega) (by omega)];omega
    .obtain⟨c1,c2⟩:=iX e Z 4 C i;have:=Q9 e Z g i c1 c2 p;rw[gh (by omega) (by omega)];omega
   |none=>rw[t]at Y;cases Y
  |false=>
   rw[Y]at a;simp only at a;have gen:rh x pc 4 h=true->(BS l||(leK x pc l 4 h&&rh x pc 4 l))=true->0<=o/\o<=s/\s<=(str.size:Int):=λD q=>by
    obtain⟨c1,c2⟩:=iX e Z 4 D c;simp only[il,aM]at q;rcases q with q|⟨q,F⟩
    .have:=zero q;omega
    .have:=Ph e Z i 4 q c;obtain⟨d1,d2⟩:=iX e Z 4 F i;omega
   cases W:SF x pc l h with
   |false=>
    rw[W]at a;simp only at a;cases U:MG x pc l h with
    |true=>exact PN e Z U i c
    |false=>rw[U]at a;exact PM Z a i c
   |true=>
   replace a:=W
   unfold SF at a;cases h with
   |int k n=>
    cases k<;>first|(cases a;done)|skip
    cases n<;>first|(cases a;done)|skip
    rename_i m;simp only[aM]at a;have:=Hv e a.2 j;have c:=ae c;injection c with c;injection c with _ c;have:=zero a.1;simp only[cN]at c;omega
   |_=>simp only[aM]at a;exact gen a.1 a.2
theorem a3k(d:Rel C base E s w)(e:aW E nt t a.tmps)(x y z:Operand)(ty:TypeId):
  (CW x y z ty C t s).path (eY C base E s w ((do pure (.value (if <-asBool (a.eval x)then a.eval y else a.eval z)):Sem Next).run C.P w)):=by
 refine R.bR _ (bO d e x) λv f=>?_
 cases v with
 |bool b=>
  simp only[ai,aD]at f;cases b
  .refine R.bR _ (bO d e z) λg c=>?_
   exact⟨E,_,w,by rw[<-f];simp[asBool],c,Step.refl d⟩
  .refine R.bR _ (bO d e y) λg c=>?_
   exact⟨E,_,w,by rw[<-f];simp[asBool],c,Step.refl d⟩
 |_=>trivial
theorem Step.add (a:Rel C base E s w) {f:Fact} (d:f.pos=true) (e:f.holds E):Step C base E s w E (s.add f) w:=by
 refine⟨Grow.refl E,⟨a.aO,a.sep,a.new,a.gm,a.low,a.bs,λg c=>?_,a.rd⟩,vp.refl E s w,λ_ h _=>h,bD _,λ_ _ h=>a.lt h,λ_ l h=>.inl ⟨l,h⟩,λ_ b h _=>⟨b,h⟩,λ_ _ h=>h⟩;cases c with
 |head=>exact⟨d,e⟩
 |tail _ c=>exact a.pc g c
theorem DR(a:Rel C base E s w){e:SE}{b:Bool}(c:ax E e=some (.val (.bool b))):(Dh s e).path (λr=>r.1=b/\Step C base E s w E r.2 w/\r.2.h=s.h):=by
 unfold Dh;cases hk:q0 e s.pc with
 |some N=>have:=uO (E:=E) (λf d=>(a.pc f d).2) hk c;injection this with this;injection this with this;exact⟨this.symm,Step.refl a,rfl⟩
 |none=>
  cases b with
  |true=>exact⟨0,by decide,rfl,Step.add a rfl c,rfl⟩
  |false=>exact⟨1,by decide,rfl,Step.add a rfl c,rfl⟩
theorem uB(a:Rel C base E s w){e:SE}{b:Bool}(d:ax E e=some (.val (.bool b))):(Kc s e).path (λr=>r.1=b/\Step C base E s w E r.2 w/\r.2.h=s.h):=by
 unfold Kc;cases g:O1 e with
 |none=>exact DR a d
 |some x=>
  obtain⟨c,I,Y⟩:=GX g d;injection Y with Y;injection Y with Y;refine R.pb _ (DR a I) λr f=>?_
  exact⟨by rw[f.1,Y],f.2⟩
theorem Jc{ty:TypeId}{a c:Value}(I:(∃p,a=.pointer p)\/a=.nilIface\/∃t v,a=.iface t v)(Y:(∃p,c=.pointer p)\/c=.nilIface\/∃t v,c=.iface t v){b:Bool}
  (h:(Op.equal ty a c).run C.P w=.ok b w):(binOp .eql ty a c).run C.P w=.ok (.bool b) w/\(binOp .neq ty a c).run C.P w=.ok (.bool (!b)) w:=by
 have e:binOp .eql ty a c=(do pure (.bool (<-Op.equal ty a c)))/\binOp .neq ty a c=(do pure (.bool (!(<-Op.equal ty a c)))):=by rcases I with⟨_,rfl⟩|rfl|⟨_,_,rfl⟩<;>rcases Y with⟨_,rfl⟩|rfl|⟨_,_,rfl⟩<;>exact⟨rfl,rfl⟩
 rw[e.1,e.2];simp only[aS,h,bw,bE,and_self]
theorem vY(q:Good C)(t:Rel C base E s w)(op:BinOp)(ty:TypeId)(d f:Operand)(x y:AV)(g h:Value)(Z:ai E x=some g)(a:ai E y=some h):
  (qp C s op ty (dm d||dm f) x y).path (λv=>∃c,ai E v=some c/\(do eqGuard op ty d f g h;binOp op ty g h:Sem Value).run C.P w=.ok c w):=by
 by_cases V:∃k n k' m,x=.int k n/\y=.int k' m
 .obtain⟨k,n,k',m,rfl,rfl⟩:=V;simp only[ai,aD]at Z a;subst Z;subst a;have i:∀X:Sem Value,(do eqGuard op ty d f (.int k n) (.int k' m);X:Sem Value).run C.P w=X.run C.P w:=by
   intro X;cases op<;>rfl
  simp only[i];show(match bS op with|true=>oS op k n m|false=>(match decide (k=k')with|true=>bM op k n m|false=>R.bad _)).path _;cases o:bS op
  .cases hk:decide (k=k')
   .trivial
   .have:=b7 hk;subst this;exact WH op o k n m ty C.P w
  .exact NR op o k k' n m ty C.P w
 .by_cases u:∃l O,x=.str l/\y=.str O
  .obtain⟨l,O,rfl,rfl⟩:=u;simp only[ai,aD]at Z a;subst Z;subst a;have i:∀X:Sem Value,(do eqGuard op ty d f (.string ⟨⟨l⟩⟩) (.string ⟨⟨O⟩⟩);X:Sem Value).run C.P w=X.run C.P w:=by
    intro X;cases op<;>rfl
   simp only[i];exact VB op l O ty C.P w
  .have e:qp C s op ty (dm d||dm f) x y=match isRef x&&isRef y with|true=>abv C s op ty (dm d||dm f) x y|false=>.bad "":=by
     cases x<;>cases y<;>first|rfl|exact absurd ⟨_,_,_,_,rfl,rfl⟩ V|exact absurd ⟨_,_,rfl,rfl⟩ u
   rw[e];cases j:isRef x&&isRef y with
   |false=>trivial
   |true=>
    simp only[aM]at j;have r:=λb=>Jc (C:=C) (w:=w) (ty:=ty) (b:=b) (Od j.1 Z) (Od j.2 a)
    cases op<;>first|trivial|skip
    .refine R.bR _ (D6 (C:=C) (w:=w) .eql ty d f x y g h Z a j.1 j.2) λ_ i=>?_
     refine R.bR _ (HC (w:=w) q t 100 Op.maxDepth (by decide) ty x y g h Z a) λb p=>?_
     exact⟨_,rfl,by simp only[aS,i,bw];exact(r b p).1⟩
    .refine R.bR _ (D6 (C:=C) (w:=w) .neq ty d f x y g h Z a j.1 j.2) λ_ i=>?_
     refine R.bR _ (HC (w:=w) q t 100 Op.maxDepth (by decide) ty x y g h Z a) λb p=>?_
     exact⟨_,rfl,by simp only[aS,i,bw];exact(r b p).2⟩
theorem zh(s:ByteArray):s=⟨⟨s.data.toList⟩⟩:=by cases s with|mk d=>cases d;rfl
theorem RL{E:G}{r:R AV}{v:AV}{c:Value}(h:r=.ok v)(a:ai E v=some c)(d:(∃k n,v=.int k n)\/(∃b,v=.bool b)\/∃s,v=.str s):okV r=some (.val c):=by subst h;rcases d with⟨k,n,rfl⟩|⟨b,rfl⟩|⟨l,rfl⟩<;>simp only[ai,aD]at a<;>subst a<;>rfl
theorem Sc(op:BinOp)(k:IntKind)(x y:Int)(a:bS op=false)(c:(op=.quo\/op=.rem)->y≠0):∃v,bM op k x y=.ok v/\((oJ op=true/\∃b,v=.bool b)\/(oJ op=false/\∃n,v=.int k n)):=by
 cases op<;>first|(cases a;done)|skip
 all_goals first
  |exact⟨_,rfl,.inr ⟨rfl,_,rfl⟩⟩
  |exact⟨_,rfl,.inl ⟨rfl,_,rfl⟩⟩
  |(have e:decide (y=0)=false:=qN (c (by simp));simp only[bM,e];exact⟨_,rfl,.inr ⟨rfl,_,rfl⟩⟩)
theorem QS(op:BinOp)(x y:List UInt8)(h:oJ op=true\/(op=.add/\¬1099511627776<x.length+y.length)):∃v,mb op x y=.ok v/\((oJ op=true/\∃b,v=.bool b)\/(oJ op=false/\∃l,v=.str l)):=by
 cases op<;>first|(rcases h with h|⟨h, -⟩<;>cases h;done)|skip
 all_goals first
  |exact⟨_,rfl,.inl ⟨rfl,_,rfl⟩⟩
  |(have Y:=(h.resolve_left (by simp[oJ])).2
    have a:Nat.ble (Nat.add x.length y.length) 1099511627776=true:=by rw[Nat.ble_eq];show x.length+y.length<=_;omega
    simp only[mb,a];exact⟨_,rfl,.inr ⟨rfl,_,rfl⟩⟩)
theorem HN(a:Rel C base E s w){e:SE}{c:Value}(h:ai E (.cE .bool e)=some c):ai E (U6 s e)=some c:=by
 unfold U6;cases hk:xE e s.pc with
 |none=>exact h
 |some b=>obtain⟨d,g1,g2,g3⟩:=ek h;obtain rfl:=BP (E:=E) (λf g=>(a.pc f g).2) hk g1;rw[g3];rfl
theorem Wp{E:G}{e:SE}(h:C9 e=true){k:IntKind}{m:Int}(a:ax E e=some (.val (.int k m))):¬m<0:=by
 cases e<;>first|(cases h;done)|skip
 rename_i q n;cases n<;>first|(cases h;done)|skip
 rename_i z;have:=ae (show some (Dt.val (.int q (.ofNat z)))=some _ from a);injection this with this;injection this with _ this;have b:(0:Int)<=Int.ofNat z:=od z;omega
theorem kp{E:G}{e:SE}{str:ByteArray}{pc:List Fact}{a:Nat}(g:∀f∈pc,f.holds E)(h:J1 pc e=some a)(i:ax E e=some (.val (.string str))):str.size<=a:=by
 have b:ax E (.a1 .len e)=some (.val (.int .i64 str.size)):=by simp only[ax,i,bn,e1]
 have:=tH b (l:=pc) (m:=(some 0,none)) g ⟨by intro m c;cases c;omega,by intro m c;cases c⟩;unfold J1 at h;cases d:(qy (.a1 .len e) .i64 pc (some 0,none)).2 with
 |none=>rw[d]at h;cases h
 |some m=>rw[d]at h;obtain rfl:=ae h;have Y:=this.2 m d;omega
theorem qj{E:G}{pc:List Fact}(d:∀f∈pc,f.holds E):∀(e:SE){str:ByteArray}{a:Nat},ve pc e=some a->ax E e=some (.val (.string str))->str.size<=a
 | .var i,str,a,h,c=>kp d (e:=.var i) h c
 | .int k n,str,a,h,c=>kp d (e:=.int k n) h c
 | .bool b,str,a,h,c=>kp d (e:=.bool b) h c
 | .a1 o x,str,a,h,c=>kp d (e:=.a1 o x) h c
 | .str s,str,a,h,c=>by
   obtain rfl:=ae h;have:=ae (show some (Dt.val (.string ⟨⟨s⟩⟩))=some _ from c);injection this with this;injection this with this;subst this;exact bD _
 | .a2 o x y,str,a,h,c=>by
   cases o<;>first|exact kp d (e:=.a2 _ x y) h c|skip
   rename_i op;cases op<;>first|exact kp d (e:=.a2 _ x y) h c|skip
   unfold ve at h;simp only at h;cases Z:ve pc x with
   |none=>rw[Z]at h;cases h
   |some p=>
    cases g:ve pc y with
    |none=>rw[Z,g]at h;cases h
    |some q=>
     rw[Z,g]at h;obtain rfl:=ae h;simp only[ax,cV]at c;obtain⟨u,j,v,l,c⟩:=c;cases u<;>first|(cases c;done)|skip
     rename_i u;cases v<;>first|(cases c;done)|skip
     rename_i v;cases u<;>cases v<;>first|(cases c;done)|skip
     .rename_i k n k' m;have c:(if k=k' then okV (bM .add k n m)else none)=some (.val (.string str)):=c;split at c
      .simp[bM,okV]at c
      .cases c
     .rename_i s t;have c:okV (mb .add s.data.toList t.data.toList)=some (.val (.string str)):=c;have I:=qj d x Z j;have Y:=qj d y g l;unfold mb at c;simp only at c;split at c
      .simp only[okV,aD,Dt.val.injEq,vv]at c;subst c;show(s.data.toList++t.data.toList).length<=Nat.add p q;rw[cg,y9,y9];exact Nat.add_le_add I Y
      .cases c
 | .a3 o x y z,str,a,h,c=>by
   cases o<;>first|exact kp d (e:=.a3 _ x y z) h c|skip
   have h:ve pc x=some a:=h;simp only[ax,cV]at c;obtain⟨u,j,v,l,q,r,c⟩:=c;unfold e3 at c;simp only at c;split at c<;>first|(cases c;done)|skip
   rename_i s _ lo _ V;have I:=qj d x h j;simp only[aD,Dt.val.injEq,vv]at c;subst c;show((s.data.toList.take V.toNat).drop lo.toNat).length<=a;rw[eV,c8,y9];have:s.data.size=s.size:=rfl;omega
theorem PA{E:G}{pc:List Fact}(c:∀f∈pc,f.holds E){x y:SE}{s t:ByteArray}(h:Mx pc x y=true)(Z:ax E x=some (.val (.string s)))(d:ax E y=some (.val (.string t))):s.size+t.size<=1099511627776:=by
 unfold Mx at h;cases I:ve pc x with
 |none=>rw[I]at h;cases h
 |some a=>
  cases Y:ve pc y with
  |none=>rw[I,Y]at h;cases h
  |some b=>rw[I,Y]at h;have h:a+b<=1099511627776:=bZ h;have:=qj c x I Z;have:=qj c y Y d;omega
theorem a6b{n:Int}(a:0<=n)(I:n<18446744073709551616):((BitVec.ofInt 64 n &&& BitVec.ofInt 64 (15:Int)).toNat:Int)=n%16:=by
 obtain⟨q,rfl⟩:∃q:Nat,n=(q:Int):=⟨n.toNat,by omega⟩;rw[BitVec.toNat_and,BitVec.toNat_ofInt,BitVec.toNat_ofInt];have e1:(((q:Nat):Int)%((2^64:Nat):Int)).toNat=q:=by omega
 have e2:((15:Int)%((2^64:Nat):Int)).toNat=2^4-1:=by decide
 rw[e1,e2,Nat.and_two_pow_sub_one_eq_mod];omega
theorem xB{e:SE}{n:Int}(h:Mb e=some n):e=.int .i64 n:=by
 cases e<;>first|(cases h;done)|skip
 rename_i k m;cases k<;>first|(cases h;done)|skip
 rw[ae (show some m=some n from h)]
theorem a0b{E:G}{e b:SE}{k:Int}(h:Pc e=(b,k)){a:Int}(i:ax E b=some (.val (.int .i64 a)))(I: -1152921504606846976<=a)(Y:a<=1152921504606846976)(W: -1073741824<=k)(U:k<=1073741824)
  {g:IntKind} {v:Int} (d:ax E e=some (.val (.int g v))):g=.i64/\v=a+k:=by
 have base:e=b->k=0->g=.i64/\v=a+k:=by rintro rfl rfl;rw[i]at d;have d:=ae d;injection d with d;injection d with d l;exact⟨d.symm,by omega⟩
 have c:Pc e=(e,0)->g=.i64/\v=a+k:=λm=>by
  rw[m]at h;simp only[cB]at h;exact base h.1 h.2.symm
 cases e<;>first|exact c rfl|skip
 rename_i o x y;cases o<;>first|exact c rfl|skip
 rename_i op;cases op<;>first|exact c rfl|skip
 .cases f:Mb y with
  |none=>exact c (by simp only[Pc,f])
  |some n=>simp only[Pc,f,cB]at h;obtain⟨rfl,rfl⟩:=h;obtain rfl:=xB f;have j:IntKind.i64.wrap (a+n)=a+n:=wrap64 (by omega) (by omega);simp only[ax,i,bn,e2,fj,bS,bc,bM,okV,j,aD,Dt.val.injEq,kV]at d;exact⟨d.1.symm,d.2.symm⟩
 .cases f:Mb y with
  |none=>exact c (by simp only[Pc,f])
  |some n=>simp only[Pc,f,cB]at h;obtain⟨rfl,rfl⟩:=h;obtain rfl:=xB f;have j:IntKind.i64.wrap (a-n)=a-n:=wrap64 (by omega) (by omega);simp only[ax,i,bn,e2,fj,bS,bc,bM,okV,j,aD,Dt.val.injEq,kV]at d;exact⟨d.1.symm,by omega⟩
theorem Ji{E:G}{b:SE}{a k:Int}(c:ax E b=some (.val (.int .i64 a)))(I: -1152921504606846976<=a)(Y:a<=1152921504606846976)(W: -2147483648<=k)(U:k<=2147483648):ax E (Nz b k)=some (.val (.int .i64 (a+k))):=by
 cases k with
 |ofNat n=>
  cases n with
  |zero=>rw[show a+Int.ofNat 0=a from Int.add_zero a];exact c
  |succ n=>have d:IntKind.i64.wrap (a+Int.ofNat (n+1))=a+Int.ofNat (n+1):=wrap64 (by omega) (by omega);simp only[Nz,ax,c,bn,e2,fj,bS,bc,bM,okV,d]
 |negSucc n=>
  have e0:Int.negSucc n= -Int.ofNat (n+1):=rfl;have d:IntKind.i64.wrap (a-Int.ofNat (n+1))=a+Int.negSucc n:=by rw[wrap64 (by omega) (by omega)];omega
  simp only[Nz,ax,c,bn,e2,fj,bS,bc,bM,okV,d]
theorem DB{k:Int}(h:Q0 k=true): -1073741824<=k/\k<=1073741824:=by obtain⟨I,Y⟩:=oe.1 h;exact⟨b7 I,b7 Y⟩
theorem JY(j:Rel C base E s w){op:BinOp}{x:SE}{c:Int}{v:AV}(h:a3C s op x c=some v){e:IntKind}{n:Int}(Z:ax E x=some (.val (.int e n))):
  e=.i64/\bS op=false/\∃r d,bM op .i64 n c=.ok r/\ai E r=some d/\ai E v=some d:=by
 unfold a3C at h;rcases g:Pc x with⟨b,k⟩;rw[g]at h;simp only at h;split at h
 .cases h
 .next i=>
  simp only[aM]at i;obtain⟨l,m,o⟩:=i;obtain⟨a,g1,g2,g3⟩:=Pr (E:=E) (λf p=>(j.pc f p).2) l;obtain⟨q,t⟩:=DB m;obtain⟨c1,c2⟩:=DB o;obtain⟨rfl,rfl⟩:=a0b g g1 g2 g3 q t Z;refine⟨rfl,?_⟩;cases op<;>first|(cases h;done)|skip
  .obtain rfl:=ae h;refine⟨rfl,_,_,rfl,rfl,?_⟩;rw[wrap64 (by omega) (by omega)];exact eA (d:=.val (.int .i64 (a+k+c))) (by rw[Ji g1 g2 g3 (by omega) (by omega),Int.add_assoc]) ⟨_,rfl⟩ rfl
  .obtain rfl:=ae h;refine⟨rfl,_,_,rfl,rfl,?_⟩;rw[wrap64 (by omega) (by omega)];exact eA (d:=.val (.int .i64 (a+k-c))) (by rw[Ji g1 g2 g3 (by omega) (by omega)];congr 3;omega) ⟨_,rfl⟩ rfl
theorem Wv(f:Rel C base E s w){op:BinOp}{x y:SE}{v:AV}(h:a3B s op x y=some v){k k':IntKind}{n m:Int}(Z:ax E x=some (.val (.int k n)))(g:ax E y=some (.val (.int k' m))):
  k=.i64/\k'=.i64/\bS op=false/\∃r d,bM op .i64 n m=.ok r/\ai E r=some d/\ai E v=some d:=by
 unfold a3B at h;cases b:Mb y with
 |some c=>rw[b]at h;obtain rfl:=xB b;have e:=ae (show some (Dt.val (.int .i64 c))=some _ from g);injection e with e;injection e with e1 e2;subst e1;subst e2;obtain⟨I,W,U⟩:=JY f h Z;exact⟨I,rfl,W,U⟩
 |none=>
  rw[b]at h;simp only at h;cases a:Mb x with
  |none=>rw[a]at h;cases h
  |some c=>
   rw[a]at h;obtain rfl:=xB a;have e:=ae (show some (Dt.val (.int .i64 c))=some _ from Z);injection e with e;injection e with e1 e2;subst e1;subst e2;cases op<;>first|(cases h;done)|skip
   obtain⟨I,W,r,d,i,j,l⟩:=JY f h g;exact⟨rfl,I,W,r,d,by rw[<-i];simp only[bM];rw[Int.add_comm],j,l⟩
theorem Gy(V:Good C)(H:Rel C base E s w)(op:BinOp)(ty:TypeId)(t u:Operand)(x y:AV)(N O:Value)(Z:ai E x=some N)(W:ai E y=some O):
  (UO s op x y).path (λv=>∃c,ai E v=some c/\(do eqGuard op ty t u N O;binOp op ty N O:Sem Value).run C.P w=.ok c w):=by
 unfold UO;cases K:Es x<;>first|exact R.bg _ _|skip
 case int k=>
  cases B:Es y<;>first|exact R.bg _ _|skip
  rename_i k';obtain⟨n,I,rfl⟩:=zj Z K;obtain⟨m,Y,rfl⟩:=zj W B;have run:=vY (E:=E) (w:=w) V H op ty t u (.int k n) (.int k' m) _ _ rfl rfl;simp only;unfold Yq;cases Q:a3B s op (ea x) (ea y)with
  |some v=>
   obtain⟨rfl,rfl,S,r,d,X,q2,q3⟩:=Wv H Q I Y;have e0:qp C s op ty (dm t||dm u) (.int .i64 n) (.int .i64 m)=.ok r:=by simp[qp,S,X]
   rw[e0]at run;obtain⟨c,i,a⟩:=run;rw[q2]at i;obtain rfl:=ae i;exact⟨_,q3,a⟩
  |none=>
  simp only;unfold Ty;cases o:bS op with
  |true=>
   suffices key:¬m<0->(R.ok (AV.cE (.int k) (.a2 (.bin op) (ea x) (ea y)))).path (λv=>∃c,ai E v=some c/\(do eqGuard op ty t u (.int k n) (.int k' m);binOp op ty (.int k n) (.int k' m):Sem Value).run C.P w=.ok c w) by
    cases J:C9 (ea y)with
    |true=>exact key (Wp J Y)
    |false=>exact R.bg _ _
   intro L;have e:∃v,oS op k n m=.ok v/\∃q,v=.int k q:=by unfold oS;rw[qN L];cases op<;>first|(cases o;done)|exact⟨_,rfl,_,rfl⟩
   obtain⟨v,l,q,rfl⟩:=e;have e0:qp C s op ty (dm t||dm u) (.int k n) (.int k' m)=.ok (.int k q):=by simp[qp,o,l]
   rw[e0]at run;obtain⟨c,i,a⟩:=run;refine⟨c,eA (d:=.val c) ?_ ?_ rfl,a⟩
   .simp only[ax,I,Y,bn,e2,fj,o];exact RL l i (.inl ⟨_,_,rfl⟩)
   .simp only[ai,aD]at i;exact⟨q,by rw[<-i]⟩
  |false=>
   simp only;cases hk:decide (k=k')with
   |false=>exact R.bg _ _
   |true=>
    have T:=b7 hk;subst T;have gen:∀(A:Kd),((op=.quo\/op=.rem)->m≠0)->(oJ op=true->A=.bool)->(oJ op=false->A=.int k)->
      ∃c,ai E (.cE A (.a2 (.bin op) (ea x) (ea y)))=some c/\(do eqGuard op ty t u (.int k n) (.int k m);binOp op ty (.int k n) (.int k m):Sem Value).run C.P w=.ok c w:=by
     intro A J D F;obtain⟨v,l,p⟩:=Sc op k n m o J;have e0:qp C s op ty (dm t||dm u) (.int k n) (.int k m)=.ok v:=by simp[qp,o,l]
     rw[e0]at run;obtain⟨c,i,a⟩:=run;refine⟨c,eA (d:=.val c) ?_ ?_ rfl,a⟩
     .simp only[ax,I,Y,bn,e2,fj,o,bc];refine RL l i ?_;rcases p with⟨-,b,rfl⟩|⟨-,q,rfl⟩
      .exact .inr (.inl ⟨_,rfl⟩)
      .exact .inl ⟨_,_,rfl⟩
     .rcases p with⟨g,b,rfl⟩|⟨g,q,rfl⟩
      .rw[D g];simp only[ai,aD]at i;exact⟨b,by rw[<-i]⟩
      .rw[F g];simp only[ai,aD]at i;exact⟨q,by rw[<-i]⟩
    simp only;cases j:oJ op with
    |true=>obtain⟨c,i,a⟩:=gen .bool (λh=>by rcases h with rfl|rfl<;>cases j) (λ_=>rfl) (λh=>by rw[j]at h;cases h);exact⟨c,HN H i,a⟩
    |false=>
     have ps:Mk (ea y)=true->m≠0:=λG=>by
      revert G Y;cases ea y<;>intro Y G<;>first|(cases G;done)|skip
      rename_i q z;cases z<;>first|(cases G;done)|skip
      rename_i z;have e:=ae (show some (Dt.val (.int q (.ofNat z)))=some _ from Y);injection e with e;injection e with _ e;have:0<z:=bZ G;have J:(Int.ofNat z)=(z:Int):=rfl;omega
     cases op<;>first
      |(cases j;done)
      |(cases o;done)
      |(simp only
        cases G:Mk (ea y)with
        |true=>exact gen (.int k) (λ_=>ps G) (λh=>by cases h) (λ_=>rfl)
        |false=>exact R.bg _ _)
      |exact gen (.int k) (λh=>by rcases h with h|h<;>cases h) (λh=>by cases h) (λ_=>rfl)
 case str=>
  cases B:Es y<;>first|exact R.bg _ _|skip
  obtain⟨n,I,rfl⟩:=K8 Z K;obtain⟨m,Y,rfl⟩:=K8 W B;have run:=vY (E:=E) (w:=w) V H op ty t u (.str n.data.toList) (.str m.data.toList) _ _ rfl rfl;rw[<-zh,<-zh]at run;have gen:∀(A:Kd),(oJ op=true\/(op=.add/\¬1099511627776<n.data.toList.length+m.data.toList.length))->(oJ op=true->A=.bool)->(oJ op=false->A=.str)->
    ∃c,ai E (.cE A (.a2 (.bin op) (ea x) (ea y)))=some c/\(do eqGuard op ty t u (.string n) (.string m);binOp op ty (.string n) (.string m):Sem Value).run C.P w=.ok c w:=by
   intro A J D F;obtain⟨v,l,p⟩:=QS op n.data.toList m.data.toList J;have e0:qp C s op ty (dm t||dm u) (.str n.data.toList) (.str m.data.toList)=.ok v:=l;rw[e0]at run;obtain⟨c,i,a⟩:=run;refine⟨c,eA (d:=.val c) ?_ ?_ rfl,a⟩
   .simp only[ax,I,Y,bn,e2,fj];refine RL l i ?_;rcases p with⟨-,b,rfl⟩|⟨-,q,rfl⟩
    .exact .inr (.inl ⟨_,rfl⟩)
    .exact .inr (.inr ⟨_,rfl⟩)
   .rcases p with⟨g,b,rfl⟩|⟨g,q,rfl⟩
    .rw[D g];simp only[ai,aD]at i;exact⟨b,by rw[<-i]⟩
    .rw[F g];simp only[ai,aD]at i;exact⟨_,by rw[<-i]⟩
  simp only;unfold Yp;cases j:oJ op with
  |true=>obtain⟨c,i,a⟩:=gen .bool (.inl j) (λ_=>rfl) (λh=>by rw[j]at h;cases h);exact⟨c,HN H i,a⟩
  |false=>
   cases op<;>first|exact R.bg _ _|skip
   cases U:Mx s.pc (ea x) (ea y)with
   |true=>
    have hs:=PA (λf U=>(H.pc f U).2) U I Y;simp only;exact gen .str (.inr ⟨rfl,λM=>by
     have M:1099511627776<n.size+m.size:=by simpa using M
     omega⟩) (λh=>by cases h) (λ_=>rfl)
   |false=>exact R.bg _ _
theorem Rp(g:Good C)(h:Rel C base E s w)(op:BinOp)(ty:TypeId)(a b:Operand)(x y:AV)(d f:Value)(Z:ai E x=some d)(j:ai E y=some f):
  (a0T C s op ty (dm a||dm b) x y).path (λv=>∃c,ai E v=some c/\(do eqGuard op ty a b d f;binOp op ty d f:Sem Value).run C.P w=.ok c w):=by
 by_cases I:∃k i,x=.cE k i
 .obtain⟨k,i,e⟩:=I;have:=Gy (w:=w) g h op ty a b x y d f Z j;subst e;exact this
 .by_cases Y:∃k i,y=.cE k i
  .obtain⟨k,i,e⟩:=Y;have:=Gy (w:=w) g h op ty a b x y d f Z j;subst e;cases x<;>first|exact this|exact absurd ⟨_,_,rfl⟩ I
  .have:=vY (w:=w) g h op ty a b x y d f Z j;have e:a0T C s op ty (dm a||dm b) x y=qp C s op ty (dm a||dm b) x y:=by
    cases x<;>first|exact absurd ⟨_,_,rfl⟩ I|(cases y<;>first|rfl|exact absurd ⟨_,_,rfl⟩ Y)
   rw[e];exact this
theorem a7e(e:Good C)(b:Rel C base E s w)(d:aW E nt t a.tmps)(op:BinOp)(ty:TypeId)(x y:Operand)(rt:TypeId):
  (JS op ty x y rt C t s).path (eY C base E s w ((VS (do eqGuard op ty x y (a.eval x) (a.eval y);binOp op ty (a.eval x) (a.eval y))).run C.P w)):=by
 refine R.bR _ (bO b d x) λv f=>?_
 refine R.bR _ (bO b d y) λu g=>?_
 refine R.bR _ (Rp (w:=w) e b op ty x y v u _ _ f g) λr h=>?_
 obtain⟨c,I,Y⟩:=h;exact fh b Y I
theorem aaC(f:Rel C base E s w)(g:aW E nt t a.tmps)(op:UnOp)(x:Operand)(rt:TypeId):
  (Wd op x rt C t s).path (eY C base E s w ((VS (Op.unary op (a.eval x))).run C.P w)):=by
 refine R.bR _ (bO f g x) λv b=>?_
 refine R.bR (λr=>∃c,ai E r=some c/\(Op.unary op (a.eval x)).run C.P w=.ok c w) ?_ λr h=>?_
 .cases op<;>cases v<;>first|trivial|(simp only[ai,aD]at b;rw[<-b];exact⟨_,rfl,rfl⟩)|skip
  .rename_i k e;cases k<;>first|exact R.bg _ _|skip
   rename_i q;obtain⟨d,I,⟨n,rfl⟩,W⟩:=ek b;exact⟨.int q (q.wrap (0-n)),eA (d:=.val (.int q (q.wrap (0-n)))) (by simp only[ax,I,bn,e1];rfl) ⟨_,rfl⟩ rfl,by rw[W];rfl⟩
 .obtain⟨c,I,Y⟩:=h;exact fh f Y I
theorem bb{ty:TypeId}{d:TypeDesc}(h:C.P.underlying ty=some d){j:Type}(f:TypeDesc->Sem j):((underlying ty)>>=f).run C.P w=(f d).run C.P w:=by rw[aS,gC h];rfl
theorem a3m(b:Rel C base E s w)(d:aW E nt t a.tmps)(f:Fn)(x y:Array Operand)(rt:TypeId):
  (CY f x y rt C t s).path (eY C base E s w ((VS (Instr.makeFunc f (x.map a.eval) (y.map a.eval))).run C.P w)):=by
 refine R.bR _ (R.bf _ _) λ_ e=>?_
 refine R.bR _ (vX b d x.toList) λv g=>?_
 refine R.bR _ (vX b d y.toList) λu h=>?_
 refine fh b (c:=.func f (x.map a.eval) (y.map a.eval)) rfl ?_;simp only[ai,e,g,h];cases x;cases y;simp
theorem RE(d:Rel C base E s w)(g:aW E nt t a.tmps)(x:Operand)(i:Nat)(rt:TypeId):
  (o8 x i rt C t s).path (eY C base E s w ((VS (Instr.extract (a.eval x) i)).run C.P w)):=by
 refine R.bR _ (bO d g x) λv e=>?_
 cases v with
 |ji l=>
  refine R.bR _ (R.hN _ _) λr f=>?_
  rw[wg]at f;simp only[ai,bk]at e;obtain⟨q,h,j⟩:=e;obtain⟨c,k,b⟩:=mK i r h f;refine fh d (c:=c) ?_ k;rw[<-j];simp[Instr.extract,b]
 |_=>trivial
theorem OY(d:Rel C base E s w)(f:aW E nt t a.tmps)(o:Oper)(x:Operand)(ho:o.op=.nilCheck x)(rt:TypeId):
  (mF x rt C t s).path (eY C base E s w ((execOp a.eval o).run C.P w)):=by
 refine R.bR _ (bO d f x) λv b=>?_
 have key:(∀c,ai E v=some c->(execOp a.eval o).run C.P w=.ok (.value c) w)->eY C base E s w ((execOp a.eval o).run C.P w) (.val v s):=
  λh=>⟨E,_,w,h _ b,b,Step.refl d⟩
 cases v with
 |ptr _ _=>
  refine key λc e=>?_
  rw[b]at e;cases e;simp only[ai,bk]at b;obtain⟨_,_,b⟩:=b;unfold execOp;simp only[ho];rw[<-b];rfl
 |_=>trivial
theorem ZK(f:Good C)(e:Rel C base E s w)(g:aW E nt t a.tmps)(ty:TypeId)(x:Operand)(rt:TypeId):
  (xy ty x rt C t s).path (eY C base E s w ((VS (Instr.makeInterface ty (a.eval x))).run C.P w)):=by
 refine R.bR _ (b9 f ty) λd i=>?_
 refine R.bR (λ_=>∀ms,d≠.interface ms) ?_ λ_ b=>?_
 .cases d<;>first|trivial|(intro ms h;cases h)
 refine R.bR _ (bO e g x) λv j=>?_
 refine fh e (c:=.iface ty (a.eval x)) ?_ (by simp[ai,j]);unfold Instr.makeInterface;rw[bb i];cases d<;>first|rfl|exact absurd rfl (b _)
end
section
variable{C:Ctx}{base:Nat}{E:G}{s:S}{w:World}{nt:Nat}{t:Tr AV}{a:Act}
theorem pX(v:AV):(Ei v).path (λn=>∃k,v=.int k (.ofNat n)):=by
 cases v with
 |int k n=>cases n with
  |ofNat n=>exact⟨k,rfl⟩
  |negSucc n=>trivial
 |_=>trivial
theorem LD(t:Rel C base E s w){ty:TypeId}{d:TypeDesc}(x:C.P.underlying ty=some d){e v:AV}{g i:Value}(j:ai E e=some g)(y:ai E v=some i):
  (K1 s d v e).path (λr=>∃c,ai E r=some c/\(Instr.index ty i g).run C.P w=.ok c w):=by
 refine R.bR _ (R.bf _ _) λ_ z=>?_
 obtain⟨q,k⟩:=uQ z;obtain⟨n,I,e1⟩:=zj j k;cases d<;>first|exact R.bg _ _|skip
 cases hk:Es v<;>first|(simp only;exact R.bg _ _)|skip
 obtain⟨str,Y,l⟩:=K8 y hk;simp only;have b:ax E (.a1 .len (ea v))=some (.val (.int .i64 str.size)):=by simp only[ax,Y,bn,Go.Proofs.YtokipodjggomfaaGreatDoor.Abs.e1]
 suffices key:0<=n/\n<(str.size:Int)->(R.ok (AV.cE (.int .u8) (.a2 .idx (ea v) (ea e)))).path (λr=>∃c,ai E r=some c/\(Instr.index ty i g).run C.P w=.ok c w) by
  cases o:Ps (ea v) s.pc (ea e)with
  |true=>exact key (Hk (λf A=>(t.pc f A).2) Y o I)
  |false=>
   refine R.gb t λB=>key ?_
   rcases EY (0<=n/\n<(str.size:Int))with h|h
   .exact h
   .exact absurd ⟨q,n,_,rfl,h⟩ (j6 B (A5 I b))
 intro D;obtain⟨m,rfl⟩:=fK D.1;have u:m<str.size:=by omega
 have p:m<str.data.toList.length:=u;have a:getElem? str m=some (str.data.toList[m]):=by
  rw[getElem?_pos str m u];cases str with
  |mk F=>cases F;rfl
 refine⟨.int .u8 (str.data.toList[m]).toNat,eA (d:=.val (.int .u8 (str.data.toList[m]).toNat)) ?_ ⟨_,rfl⟩ rfl,?_⟩
 .simp only[ax,I,Y,bn,e2];show(str.data.toList[m]?).map _=_;rw[dV p];rfl
 .unfold Instr.index;rw[e1,l];simp only[asIntOf,pure_bind];rw[bb x];have G:(0:Int)<=(m:Int):=od m;have W:getElem? str ((m:Int)).toNat=some (str.data.toList[m]):=a;simp only[G,bc,W];rfl
theorem ZJ(p:Good C)(g:Rel C base E s w)(q:aW E nt t a.tmps)(ty:TypeId)(x i:Operand)(rt:TypeId):
  (xx ty x i rt C t s).path (eY C base E s w ((VS (Instr.index ty (a.eval x) (a.eval i))).run C.P w)):=by
 refine R.bR _ (bO g q i) λj e=>?_
 refine R.bR _ (bO g q x) λv m=>?_
 cases B:Hi j||Hi v with
 |true=>
  refine R.bR _ (b9 p ty) λd o=>?_
  have byte:(K1 s d v j>>=λr=>R.ok (Nx.val r s)).path (eY C base E s w ((VS (Instr.index ty (a.eval x) (a.eval i))).run C.P w)):=
   R.bR _ (LD g o e m) λr u=>(let⟨c,I,Y⟩:=u;fh g Y I)
  exact byte
 |false=>
 refine R.bR _ (pX j) λn y=>?_
 obtain⟨k,rfl⟩:=y;simp only[ai,aD]at e;cases v with
 |str l=>
  refine R.bR _ (b9 p ty) λd o=>?_
  cases d with
  |string=>
   simp only[ai,aD]at m;show(match nth l n with|some b=>R.ok (Nx.val (.int .u8 (.ofNat b.toNat)) s)|none=>R.bad _).path _;rw[wg];cases z:l[n]? with
   |none=>trivial
   |some b=>
    refine fh g (c:=.int .u8 (.ofNat b.toNat)) ?_ rfl;unfold Instr.index;rw[<-e,<-m];simp only[asIntOf,pure_bind];rw[bb o];have f:n<l.length:=by grind
    have Y:getElem? (ByteArray.mk ⟨l⟩) (Int.ofNat n).toNat=some b:=by show getElem? (ByteArray.mk ⟨l⟩) n=some b;have h:n<(ByteArray.mk ⟨l⟩).size:=f;rw[getElem?_pos (ByteArray.mk ⟨l⟩) n h];have:(ByteArray.mk ⟨l⟩)[n]'h=l[n]'f:=rfl;rw[this,<-z,dV f]
    have A:(0:Int)<=Int.ofNat n:=od n;simp only[A,bc,Y];rfl
  |_=>trivial
 |_=>trivial
theorem LW(j:Good C)(k:Rel C base E s w)(n:aW E nt t a.tmps)(ty:TypeId)(x:Operand)(f:Nat)(rt:TypeId):
  (ky ty x f rt C t s).path (eY C base E s w ((VS (Instr.fieldAt ty (a.eval x) f)).run C.P w)):=by
 refine R.bR _ (b9 j ty) λd o=>?_
 cases d with
 |struct p=>
  refine R.bR _ (R.hN _ _) λfd e=>?_
  rw[wg]at e;refine R.bR _ (c6 j fd.type) λi V=>?_
  refine R.bR _ (R.bf _ _) λ_ l=>?_
  have g:i.size≠0:=by intro h;rw[h]at l;exact absurd l (by simp)
  refine R.bR _ (bO k n x) λv m=>?_
  cases v with
  |ptr b off=>
   simp only[ai,bk]at m;obtain⟨B,q,r⟩:=m;refine fh k (c:=.pointer (some ⟨B.aO,B.dl+(off+fd.offset),none⟩)) ?_ (by simp[ai,q]);unfold Instr.fieldAt;rw[bb o];have:p[f]? =some fd:=by rw[<-w5];exact e
   simp only[this,<-r,Instr.sureAddr,pure_bind,fieldPlace,bind_assoc,aS,V.2.size w,bw,g,br,addr_add];simp[kf]
  |_=>trivial
 |_=>trivial
theorem BD(r:Rel C base E s w){b:Nat}{e:TypeId}{n g:Nat}{j:TI}{B:Loc}(t:C.T.get e=some j)(u:E b=some B)
  (d:oOk s b e n j.size g=true):j.size=g/\g≠0/\n<=B.cp:=by
 simp only[oOk,aM]at d;have c:j.size=g:=bj d.1.1;have m:g≠0:=by intro h;rw[c,h]at d;exact absurd d.1.2 (by simp)
 refine⟨c,m,?_⟩;have a:n*j.size<=RM s b e:=bZ d.2;unfold RM at a;have f:j.size≠0:=by rw[c];exact m
 have zero:n*j.size<=0->n<=B.cp:=by
  intro h;rcases Nat.eq_zero_or_pos n with p|p
  .omega
  .have:=Nat.mul_pos p (uc f);omega
 cases i:s.h.get b with
 |none=>rw[i]at a;exact zero a
 |some q=>
  rw[i]at a;cases q with
  |cells el cs v fz gU st sg=>
   simp only at a;cases k:Nat.beq el e
   .rw[k]at a;exact zero a
   .rw[k]at a;have l:el=e:=bj k;subst l;obtain⟨O,o,I,Y,vs,lo,V,rfl,g1,g2,⟨ii,g3,g4,g5⟩,g6⟩:=r.aO b _ i;rw[u]at I;obtain rfl:=ae I;rw[t]at g3;obtain rfl:=ae g3;have:n*j.size<=B.cp*j.size:=iG a g4;exact FM this (uc f)
  |_=>exact zero a
theorem LV(O:Good C)(o:Rel C base E s w)(ht:aW E nt t a.tmps)(ty:TypeId)(x i:Operand)(rt:TypeId):
  (kx ty x i rt C t s).path (eY C base E s w ((VS (Instr.indexAt ty (a.eval x) (a.eval i))).run C.P w)):=by
 refine R.bR _ (bO o ht i) λF l=>?_
 refine R.bR _ (bO o ht x) λv N=>?_
 refine R.bR _ (b9 O ty) λd hd=>?_
 have Z:(underlying ty).run C.P w=.ok d w:=gC hd w;have p0:∀(body:Nat->R Nx),(∀n k,F=.int k (.ofNat n)->a.eval i=.int k (.ofNat n)->(body n).path (eY C base E s w ((VS (Instr.indexAt ty (a.eval x) (a.eval i))).run C.P w)))->
   (Ei F>>=body).path (eY C base E s w ((VS (Instr.indexAt ty (a.eval x) (a.eval i))).run C.P w)):=by
  intro body G;refine R.bR _ (pX F) λn z=>?_
  obtain⟨k,rfl⟩:=z;simp only[ai,aD]at l;exact G n k rfl l.symm
 cases v with
 |cE k e=>
  cases k<;>first|exact R.bg _ _|skip
  rename_i u;refine R.bR (λr=>∃c,ai E r=some c/\(Instr.indexAt ty (a.eval x) (a.eval i)).run C.P w=.ok c w) ?_ λr hr=>(let⟨c,I,Y⟩:=hr;fh o Y I)
  refine R.bR _ (R.bf _ _) λ_ Q=>?_
  obtain⟨q,hq2⟩:=uQ Q;obtain⟨n,I,H⟩:=zj l hq2;cases d<;>first|exact R.bg _ _|skip
  rename_i S;refine R.bR _ (c6 O S) λj A=>?_
  refine R.bR _ (R.bf _ _) λ_ T=>?_
  simp only[aM]at T;obtain⟨⟨g1, -⟩,g3⟩:=T;have g1:=bj g1;have g3:=bj g3;subst g1;obtain⟨dd,Y,⟨sa,sn,sc,g,J,rfl⟩,e3'⟩:=ek N;have D:ax E (.a1 .len e)=some (.val (.int .i64 sn)):=by simp only[ax,Y,bn,Go.Proofs.YtokipodjggomfaaGreatDoor.Abs.e1]
  have fin:0<=n/\n<(sn:Int)->∃c,ai E (.cE (.ptr S 0) (.a2 .el e (ea F)))=some c/\(Instr.indexAt ty (a.eval x) (a.eval i)).run C.P w=.ok c w:=by
   intro G;obtain⟨m,rfl⟩:=fK G.1;have hm:m<sn:=by omega
   rcases fL o.rd e _ Y with⟨g4, -⟩|⟨K,⟨ad,n',c',g4, -,g9⟩, -⟩
   .injection g4 with g6 g7 g8;omega
   .injection g4 with g6 g7 g8;subst g6;subst g7;have g5:=(g9 (by omega)).1;obtain⟨ab,ao,asp⟩:=ad;simp only at g5;subst g5;refine⟨.pointer (some ⟨ab,ao+m*g,none⟩),eA (d:=.pt (.pointer (some ⟨ab,ao+m*g,none⟩)) S g J (m*g) 0) ?_ ⟨_,_,_,_,rfl⟩ rfl,?_⟩
    .grind[ax,e2]
    .have U:(0:Int)<=(m:Int)/\(m:Int)<(sn:Int):=G;unfold Instr.indexAt;rw[H,e3'];have hjs:j.size=g:=by rw[g3,K];rfl
     simp only[Dt.v,asIntOf,pure_bind,aS,Z,bw,bE,U,and_self,bc,A.2.size w,addr_add,hjs];simp
  cases L:iW (ea F) (.a1 .len e) s.pc with
  |true=>exact fin (ig (E:=E) (λf hf=>(o.pc f hf).2) L I D)
  |false=>
   refine R.gb o λz=>fin ?_
   rcases EY (0<=n/\n<(sn:Int))with h|h
   .exact h
   .exact absurd ⟨q,n,_,rfl,h⟩ (j6 z (A5 I D))
 |iI b n c=>
  obtain⟨B,k,q,V,W,hc0,hk,hq,X⟩:=ja N;refine R.bR (λr=>∃c,ai E r=some c/\(Instr.indexAt ty (a.eval x) (a.eval i)).run C.P w=.ok c w) ?_ λr hr=>(let⟨c,I,Y⟩:=hr;fh o Y I)
  refine R.bR _ (R.bf _ _) λ_ Q=>?_
  obtain⟨kd,hkd⟩:=uQ Q;obtain⟨m,I,H⟩:=zj l hkd;cases d<;>first|exact R.bg _ _|skip
  rename_i S;refine R.bR _ (c6 O S) λj A=>?_
  have fin:(0<=m/\m<(k:Int))->∃c,ai E (.jn b (ea F) j.size 0)=some c/\(Instr.indexAt ty (a.eval x) (a.eval i)).run C.P w=.ok c w:=by
   intro G;obtain⟨p,rfl⟩:=fK G.1;have hp:p<B.cp:=by omega
   refine⟨.pointer (some ⟨B.aO,B.dl+(p*j.size+0),none⟩),?_,?_⟩
   .grind[ai,Nt]
   .unfold Instr.indexAt;rw[H,X];simp only[asIntOf,pure_bind,aS,Z,bw,bE,G,and_self,bc,A.2.size w,addr_add];simp
  cases L:iW (ea F) n s.pc with
  |true=>exact fin (ig (λf hf=>(o.pc f hf).2) L I W)
  |false=>
   refine R.gb o λz=>?_
   refine fin ?_;rcases EY (0<=m/\m<(k:Int))with h|h
   .exact h
   .exact absurd ⟨kd,m,_,rfl,h⟩ (j6 z (A5 I W))
 |ptr b off=>exact R.bg _ _
 |sl b off len cap=>
  refine p0 _ λn k z l=>?_
  have l:=l.symm;cases d with
  |slice e=>
   simp only[ai,bk]at N;obtain⟨B,V,X⟩:=N;show(match Nat.blt n len with|true=>(do let j <-ti C e;R.ok (Nx.val (.ptr b (Nat.add off (Nat.mul n j.size))) s))|false=>R.bad _).path _;cases M:Nat.blt n len
   .trivial
   .have y:n<len:=by simpa[Nat.blt_eq]using M
    refine R.bR _ (c6 O e) λj A=>?_
    refine fh o (c:=.pointer (some ⟨B.aO,B.dl+(off+n*j.size),none⟩)) ?_ (by simp[ai,V]);have U:(0:Int)<=Int.ofNat n/\Int.ofNat n<(len:Int):=⟨od n,Int.ofNat_lt.2 y⟩;unfold Instr.indexAt;rw[<-l,<-X];simp only[asIntOf,pure_bind,aS,Z,bw,bE,U,and_self,bc,A.2.size w,addr_add];simp[kf]
  |_=>trivial
 |qY b pre e0 len g=>
  refine p0 _ λn k z l=>?_
  have l:=l.symm;cases d with
  |slice e=>
   simp only[ai,bk]at N;obtain⟨B,V,X⟩:=N;show(match Nat.blt n len with|true=>(do let j <-ti C e;cq (oOk s b e (Nat.add e0 len) j.size g) "index size";R.ok (Nx.val (.ptr b (Nat.mul (Nat.add e0 n) g)) s))|false=>R.bad _).path _;cases M:Nat.blt n len
   .trivial
   .have y:n<len:=by simpa[Nat.blt_eq]using M
    refine R.bR _ (c6 O e) λj A=>?_
    refine R.bR _ (R.bf _ _) λ_ Q=>?_
    obtain⟨K,hz,hle⟩:=BD o A.1 V Q;have abi:e0+len<=B.cp:=hle;have hcp:e0<B.cp:=by omega
    refine fh o (c:=.pointer (some ⟨B.aO,B.dl+(e0+n)*g,none⟩)) ?_ (by simp[ai,V]);have U:(0:Int)<=Int.ofNat n/\Int.ofNat n<(len:Int):=⟨od n,Int.ofNat_lt.2 y⟩;unfold Instr.indexAt;rw[<-l,<-X];simp only[asIntOf,pure_bind,aS,Z,bw,bE,U,and_self,bc,A.2.size w,addr_add,hcp,K];simp[kf,eh]
  |_=>trivial
 |_=>exact p0 _ λn k z l=>R.bg _ _
end
section
variable{C:Ctx}{base:Nat}{E:G}{s:S}{w:World}{nt:Nat}{t:Tr AV}{a:Act}
theorem pW(v:AV)(c:Value)(a:ai E v=some c):v.cells.path (λl=>aN E l=some c.cells.toList):=by
 cases v with
 |agg cs=>simp only[ai,bk]at a;obtain⟨r,e,rfl⟩:=a;exact e
 |fO=>trivial
 |raw u=>simp only[ai,aD]at a;subst a;cases u<;>first|trivial|(show aN E _=_;simp[aN,ai,Value.cells])
 |cE k i=>have I:=PU a;cases c<;>first|(cases I;done)|(show aN E [_]=_;rw[aL];exact⟨_,[],a,rfl,rfl⟩)
 |iI b n c'=>have d:=a;obtain⟨_,_,_,_,_,_,_,_,rfl⟩:=ja a;show aN E [_]=_;rw[aL];exact⟨_,[],d,rfl,rfl⟩
 |jn b i g k=>have d:=a;obtain⟨_,_,_,_,_,_,rfl⟩:=tz a;show aN E [_]=_;rw[aL];exact⟨_,[],d,rfl,rfl⟩
 |fn f h j=>have d:=a;simp only[ai]at a;cases m:lD f<;>cases I:aN E h<;>cases Y:aN E j<;>simp only[m,I,Y,reduceCtorEq,aD]at a;subst a;show aN E [_]=_;rw[aL];exact⟨_,[],d,rfl,rfl⟩
 |_=>
  have d:=a;simp only[ai,bk,aD]at a
  first
   |(subst a;show aN E [_]=_;rw[aL];exact⟨_,[],d,rfl,rfl⟩)
   |(obtain⟨l,o,rfl⟩:=a;show aN E [_]=_;rw[aL];exact⟨_,[],d,rfl,rfl⟩)
theorem a3l(e:Good C)(d:Rel C base E s w)(f:aW E nt t a.tmps)(ty:TypeId)(x:Operand)(rt:TypeId):
  (CX ty x rt C t s).path (eY C base E s w ((VS (Instr.loadAt ty (a.eval x))).run C.P w)):=by
 refine R.bR _ (bO d f x) λv g=>?_
 refine R.bR _ (DO e d ty v _ g) λu h=>?_
 obtain⟨ad,c,i, -,j,b⟩:=h;refine fh d (c:=c) ?_ j;rw[i];simp only[Instr.loadAt,Instr.sureAddr,pure_bind];exact b
theorem Wg{v:AV}{c:Value}(h:a7b v=true)(a:ai E v=some c):c.oneCell'=true:=by
 cases v with
 |cE k i=>have I:=PU a;cases c<;>first|(cases I;done)|rfl
 |fn f d e=>simp only[ai]at a;cases j:lD f<;>cases I:aN E d<;>cases Y:aN E e<;>simp only[j,I,Y,reduceCtorEq,aD]at a;subst a;rfl
 |agg _|ji _|fO=>cases h
 |iI b n c'=>obtain⟨_,_,_,_,_,_,_,_,rfl⟩:=ja a;rfl
 |jn b i g k=>obtain⟨_,_,_,_,_,_,rfl⟩:=tz a;rfl
 |raw u=>simp only[ai,aD]at a;subst a;cases u<;>first|rfl|cases h
 |_=>
  simp only[ai,bk,aD]at a
  first
   |(subst a;rfl)
   |(obtain⟨l,m,rfl⟩:=a;rfl)
theorem n5:∀{l:List AV}{r:List Value},ou l=true->aN E l=some r->∀c∈r,c.oneCell'=true
 | [],r,_,b,c,a=>by simp[aN]at b;subst b;simp at a
 |v::l,r,h,b,c,a=>by
  obtain⟨x,y,Z,d,rfl⟩:=aL.1 b;unfold ou at h;cases ho:a7b v
  .rw[ho]at h;cases h
  .rw[ho]at h;rcases cC.1 a with rfl|a
   .exact Wg ho Z
   .exact n5 h d c a
theorem GM{v:Value}(h:v.oneCell'=true):(∀q,v≠.agg q)/\(∀q,v≠.tuple q):=by
 constructor
 .rintro q rfl;cases h
 .rintro q rfl;cases h
def h1:Array Value->Nat->List Value->Array Value
 |arr,_,[]=>arr
 |arr,i,v::l=>h1 (arr.setIfInBounds i v) (i+1) l
theorem dJ:∀(l:List Value)(arr:Array Value)(i:Nat),(h1 arr i l).size=arr.size
 | [],_,_=>rfl
 |v::l,arr,i=>by rw[h1,dJ l];simp
theorem hY:∀(l:List Value)(arr:Array Value)(i j:Nat),i+l.length<=arr.size->
  (h1 arr i l)[j]? =if i<=j/\j<i+l.length then l[j-i]? else arr[j]?
 | [],arr,i,j,_=>by rw[av (by simp only[c7];omega)];rfl
 |v::l,arr,i,j,h=>by
  simp only[cD]at h;rw[h1,hY l _ _ _ (by simp;omega)];by_cases I:i+1<=j/\j<i+1+l.length
  .grind
  .grind
theorem gH{P:Program}(aO:Nat)(elem:TypeId)(lo V:Nat):∀(vs:List Value)(o i:Nat)(arr:Array Value)(w:World),
  w.heap[aO]? =some (.cells arr elem (lo,V))->o+i+vs.length<=arr.size->(∀v∈vs,v.oneCell'=true)->(∀off,o+i<=off->off<o+i+vs.length->¬(lo<=off/\off<V))->
  (storeCells ⟨aO,o,none⟩ vs i).run P w=.ok () { w with heap:=w.heap.setIfInBounds aO (.cells (h1 arr (o+i) vs) elem (lo,V)) }
 | [],o,i,arr,w,b,_,_,_=>by
   have a:aO<w.heap.size:=by
    rcases ed aO w.heap.size with h|h
    .exact h
    .rw[Array.getElem?_eq_none h]at b;cases b
   have:w.heap.setIfInBounds aO (.cells (h1 arr (o+i) []) elem (lo,V))=w.heap:=by
    apply Array.ext_getElem?;intro k;rw[vx];by_cases h:aO=k
    .subst h;simp only[a,bc];exact b.symm
    .simp[h]
   rw[this];rfl
 |v::vs,o,i,arr,w,b,f,c,d=>by
  simp only[cD]at f d;have e:w.cell? ⟨aO,o+i,none⟩=arr[o+i]? :=by simp[World.cell?,b]
  have j:o+i<arr.size:=by omega
  have p:w.cell? ⟨aO,o+i,none⟩=some arr[o+i]:=by rw[e];exact fb j
  have q:w.frozen? ⟨aO,o+i,none⟩=false:=by have:=d (o+i) (by omega) (by omega);simp only[World.frozen?,b];simpa using this
  have a:aO<w.heap.size:=by
   rcases ed aO w.heap.size with h|h
   .exact h
   .rw[Array.getElem?_eq_none h]at b;cases b
  have I:=GM (c v (by simp));have l:(store ⟨aO,o+i,none⟩ v).run P w=.ok () (w.setCell ⟨aO,o+i,none⟩ v):=by unfold store;cases v<;>first|exact absurd rfl (I.1 _)|exact absurd rfl (I.2 _)|(simp only[Sem.run,p,q];rfl)
  have g:w.setCell ⟨aO,o+i,none⟩ v={ w with heap:=w.heap.setIfInBounds aO (.cells (arr.setIfInBounds (o+i) v) elem (lo,V)) }:=by
   unfold World.setCell;congr 1;apply Array.ext_getElem?;intro k;rw[Array.getElem?_modify,vx];by_cases h:aO=k
   .subst h;have m:w.heap[aO]=.cells arr elem (lo,V):=by
     rw[fb a]at b;exact ae b
    simp[a,m]
   .simp[h]
  unfold storeCells;rw[aS,addr_add,l,bw,g];have n:({ w with heap:=w.heap.setIfInBounds aO (.cells (arr.setIfInBounds (o+i) v) elem (lo,V)) }:World).heap[aO]? =some (.cells (arr.setIfInBounds (o+i) v) elem (lo,V)):=by simp[a]
  rw[gH aO elem lo V vs o (i+1) _ _ n (by simp;omega) (λx Z=>c x (by simp[Z])) (λoff I Y=>d off (by omega) (by omega))];congr 2;show(w.heap.setIfInBounds aO _).setIfInBounds aO _=w.heap.setIfInBounds aO _;apply Array.ext_getElem?;intro k;simp only[vx,Array.size_setIfInBounds];by_cases h:aO=k
  .subst h;simp[a,h1];rfl
  .simp[h]
theorem zY:∀(l:List Nat)(h:Tr gn)(i:Nat),(oq l h).get i=if i∈l then none else h.get i
 | [],h,i=>by simp[oq]
 |a::l,h,i=>by
  show(oq l (h.del a)).get i=_;rw[zY l];by_cases I:i∈l
  .simp[I]
  .grind[Tr.xI]
theorem uA(m:Rel C base E s w)(b off:Nat)(vs:List AV)(cs:List Value)(e:aN E vs=some cs)(B:Loc)(g:E b=some B):
  (jm s b off vs).path (λF=>∃M,(storeCells ⟨B.aO,B.dl+off,none⟩ cs).run C.P w=.ok () M/\Step C base E s w E F M):=by
 unfold jm;cases vs with
 |nil=>simp only[aN,aD]at e;subst e;exact⟨w,rfl,Step.refl m⟩
 |cons v d=>
  simp only;cases p:s.h.get b with
  |none=>trivial
  |some x=>
   cases x with
   |cells elem cells n fz gU st sg=>
    simp only;cases S:(!st&&Nat.ble (Nat.add off (v::d).length) n&&Nat.ble fz off&&ou (v::d))with
    |false=>trivial
    |true=>
     simp only[aM,im]at S;obtain⟨⟨⟨D,G⟩,H⟩,r⟩:=S;have X:off+(v::d).length<=n:=bZ G;have adI:fz<=off:=bZ H;subst D;obtain⟨O,o,I,Y,arr,lo,V,rfl,g1,g2,g3,g4,J⟩:=m.aO b _ p;rw[g]at I;obtain rfl:=ae I;have hlen:=bJ e;have t:=gH (P:=C.P) B.aO elem lo V cs (B.dl+off) 0 arr w Y (by omega) (n5 r e) (by
      intro q hq1 hq2 hq;rcases g4 rfl q hq.1 hq.2 with h|⟨_,h⟩<;>omega)
     have K:B.aO<w.heap.size:=by grind
     refine⟨_,t,?_⟩;have f:∀i x,i≠b->((oq gU s.h).set b (.cells elem (Tr.lg (v::d) off cells) n fz [] false sg)).get i=some x->s.h.get i=some x/\i ∉ gU:=by grind[Tr.get_set_other,zY]
     have a:∀i x li,i≠b->((oq gU s.h).set b (.cells elem (Tr.lg (v::d) off cells) n fz [] false sg)).get i=some x->E i=some li->li.aO=B.aO->False:=by
      intro i x li V Z y L;obtain⟨N,hx2⟩:=f i x V Z;rcases m.sep i b x _ li B N p y g V L with h|h
      .cases x<;>simp[gR]at h
      .cases x<;>simp[gR]at h;exact hx2 h.1
     have z:Rel C base E ⟨(oq gU s.h).set b (.cells elem (Tr.lg (v::d) off cells) n fz [] false sg),s.next,s.pc⟩
       { w with heap:=w.heap.setIfInBounds B.aO (.cells (h1 arr (B.dl+off+0) cs) elem (lo,V)) }:=by
      refine m.CN p g g ⟨rfl,rfl,rfl⟩ rfl (λ_ _=>rfl) (λi x V Z=>(f i x V Z).1) (Tr.get_set_same _ _ _)
       (T:=.cells (h1 arr (B.dl+off+0) cs) elem (lo,V)) ?_ ?_ (by simp) ?_ (λi x li V Z W U=>(a i x li V Z W U).elim) (λi x li V Z W U=>(a i x li V Z W U).elim)
      .intro k hk;simp[dt hk]
      .simp[K]
      .refine⟨_,lo,V,rfl,by rw[dJ];exact g1,?_,?_,?_,J⟩
       .intro i u Q A;rw[Tr.wA]at A;by_cases hr:off<=i/\i<off+(v::d).length
        .rw[aJ hr]at A;obtain⟨c,R,j⟩:=mK _ _ e A;refine⟨c,?_,.inr R⟩;rw[hY _ _ _ _ (by omega),aJ (by omega)];rw[show B.dl+i-(B.dl+off+0)=i-off by omega];exact j
        .rw[av hr]at A;obtain⟨c,R,j⟩:=g2 i u Q A;refine⟨c,?_,j⟩;rw[hY _ _ _ _ (by omega),av (by omega)];exact R
       .rw[dJ];exact g3
       .rw[dJ];exact g4
     refine Step.of ⟨Grow.refl E,z,⟨by simp,rfl,rfl,rfl,?_⟩,?_,bD _,λ_ _ h=>m.lt h,λ_ l h=>.inl ⟨l,h⟩,?_⟩
     .intro k ob hk hn;have:k≠B.aO:=λh=>hn ⟨b,_,B,p,rfl,g,h.symm⟩
      simp[dt this,hk]
     .rintro k ⟨i,x,li,W,U,h5,h6⟩ _;by_cases V:i=b
      .subst V;rw[g]at h5;obtain rfl:=ae h5;exact⟨i,_,B,p,rfl,g,h6⟩
      .exact⟨i,x,li,(f i x V W).1,U,h5,h6⟩
     .grind
   |_=>trivial
def tG(E:G)(P:List Kd):Nat->List SE->List Dt->Prop
 |_,[],[]=>True
 |p,x::xs,d::ds=>ax E x=some d/\(∃q,P[p%P.length]? =some q/\q.fits d)/\tG E P (p+1) xs ds
 |_,_,_=>False
theorem Cl{P:List Kd}:∀{p:Nat}{xs:List SE}{ds:List Dt},tG E P p xs ds->xs.length=ds.length
 |_,[],[],_=>rfl
 |_,_::_,_::_,h=>by simp[Cl h.2.2]
 |_,[],_::_,h=>h.elim
 |_,_::_,[],h=>h.elim
theorem yV{P:List Kd}{x:SE}{d:Dt}:∀{p:Nat}{xs:List SE}{ds:List Dt},tG E P p xs ds->ax E x=some d->(∃q,P[(p+ds.length)%P.length]? =some q/\q.fits d)->tG E P p (xs++[x]) (ds++[d])
 |p,[],[],_,I,Y=>⟨I,Y,eI⟩
 |p,_::_,_::ds,h,I,Y=>⟨h.1,h.2.1,yV h.2.2 I (by rw[show p+1+ds.length=p+(ds.length+1) by omega];exact Y)⟩
 |_,[],_::_,h,_,_=>h.elim
 |_,_::_,[],h,_,_=>h.elim
theorem Jh{P:List Kd}:∀(y:SE)(acc:List SE)(J:List Dt),ax E y=some (.ls P J)->
  ∃(pre:List SE)(a ds:List Dt),(qG y acc).2=pre++acc/\ax E (qG y acc).1=some (.ls P a)/\J=a++ds/\tG E P a.length pre ds
 | .var _,_,J,h| .int _ _,_,J,h| .bool _,_,J,h| .str _,_,J,h| .a1 _ _,_,J,h| .a3 _ _ _ _,_,J,h=>⟨[],J,[],rfl,h,by simp,eI⟩
 | .a2 o x y,acc,J,h=>by
   by_cases ho:o=.sn
   .subst ho;simp only[ax,cV]at h;obtain⟨u,c,d,f,h⟩:=h;simp only[e2]at h;cases u<;>first|(cases h;done)|skip
    rename_i g b;simp only at h;split at h
    .next hk=>
     have h:=ae h;injection h with I Y;subst I;subst Y;obtain⟨pre,a,ds,g1,g2,g3,g4⟩:=Jh x (y::acc) b c;refine⟨pre++[y],a,ds++[d],?_,g2,by rw[g3,mw],yV g4 f ?_⟩
     .grind[qG]
     .rw[g3,cg]at hk;exact hk
    .cases h
   .have e:qG (.a2 o x y) acc=(.a2 o x y,acc):=by
      cases o<;>first|rfl|exact absurd rfl ho
    rw[e];exact⟨[],J,[],rfl,h,by simp,eI⟩
theorem OX{a:List Kd}:∀(xs:List SE)(P:List Kd)(e:Nat)(ds:List Dt),tG E a e xs ds->(∃p,P=a.drop p/\p<=a.length/\e%a.length=p%a.length)->
  aN E (rV a xs P)=some (ds.map Dt.v)
 | [],_,_,[],_,_=>rfl
 |x::xs,P,e,d::ds,h,⟨p,r,s,f⟩=>by
  obtain⟨I,⟨w,Y,W⟩,U⟩:=h;have step:∀(q:Kd)(b:List Kd)(p':Nat),a[e%a.length]? =some q->b=a.drop p'->p'<=a.length->(e+1)%a.length=p'%a.length->aN E (.cE q x::rV a xs b)=some ((d::ds).map Dt.v):=by intro q b p' t j g u;rw[t]at Y;obtain rfl:=ae Y;exact aL.2 ⟨d.v,ds.map Dt.v,eA I W rfl,OX xs b (e+1) ds U ⟨p',j,g,u⟩,rfl⟩
  cases P with
  |nil=>
   have k:p=a.length:=by grind[List.length_nil,List.length_drop]
   cases a with
   |nil=>simp at Y
   |cons q b=>
    have n:e%(q::b).length=0:=by rw[f,k,Nat.mod_self]
    refine step q b 1 (by rw[n];rfl) rfl (by simp) ?_;rw[Nat.add_mod,n,eD,Nat.mod_mod]
  |cons q b=>
   have c:p<a.length:=by grind
   have o:=AM c;rw[<-r]at o;injection o with l m;have i:e%a.length=p:=by rw[f,mv c]
   refine step q b (p+1) (by rw[i,dV c,l]) m c ?_;rw[Nat.add_mod,i,Nat.add_mod p 1,mv c]
 | [],_,_,_::_,h,_=>h.elim
 |_::_,_,_,[],h,_=>h.elim
theorem Vy{e:SE}{p:Nat×SE}(h:Yk e=some p):∃x,e=.a2 (.tk p.1) x p.2:=by
 unfold Yk at h;cases e<;>first|(cases h;done)|skip
 rename_i o x y;cases o<;>first|(cases h;done)|skip
 obtain rfl:=ae h;exact⟨x,rfl⟩
theorem II(hR:Rel C base E s w)(b:Nat)(i:SE)(g k:Nat)(c:List AV)(cs:List Value)(Q:aN E c=some cs){B:Loc}(hl:E b=some B){kd:IntKind}{q:Nat}(V:ax E i=some (.val (.int kd (.ofNat q)))):
  (jL C s b i g k c).path (λF=>∃M,(storeCells ⟨B.aO,B.dl+(q*g+k),none⟩ cs).run C.P w=.ok () M/\Step C base E s w E F M):=by
 unfold jL;cases hb:s.h.get b with
 |none=>exact R.bg _ _
 |some x0=>
  cases x0 with
  |vec el y=>
   simp only;obtain⟨O,o,I,Y,vs,lo,H,J,rfl,g1,g2,⟨ii,g3,g4,g5,g6,g7⟩,g8,g9⟩:=hR.aO b _ hb;rw[hl]at I;obtain rfl:=ae I;obtain⟨pre,r,ds,u1,K,u3,u4⟩:=Jh y [] J g1;rw[List.append_nil]at u1;cases ht:Yk (qG y []).1 with
   |none=>exact R.bg _ _
   |some p=>
    simp only;cases hg:((Nat.beq p.1 g&&db p.2 i)&&(Nat.beq g (aA C el).length&&(!Nat.beq g 0&&(Nat.ble (Nat.add k c.length) (qG y []).2.length&&ou c))))with
    |false=>exact R.bg _ _
    |true=>
     simp only[aM,im]at hg;obtain⟨⟨q1,q2⟩,q3,q4,q5,q6⟩:=hg;have q1:=bj q1;have q2:=bh q2;have q3:=bj q3;have q5:k+c.length<=(qG y []).2.length:=bZ q5;obtain⟨x,Z⟩:=Vy ht;rw[Z,q1,q2]at K;simp only[ax,V,cV]at K;obtain⟨dx,hdx,d2,hd2,K⟩:=K;obtain rfl:=ae hd2;simp only[e2]at K;cases dx<;>first|(cases K;done)|skip
     rename_i ksx esx;simp only at K;have f:r.length=q*g/\ax E (qG y []).1=some (.ls (aA C el) r):=by
      split at K
      .grind[ax,e2]
      .cases K
     obtain⟨f,S⟩:=f;have hpl:=Cl u4;have D:=OX pre (aA C el) r.length ds u4 ⟨0,rfl,wY _,by rw[f,<-q3,mT];simp⟩;rw[<-u1]at D;have ac1:=eU (eU (Ae k D) Q) (Af (k+c.length) D);cases hy:sW C (aA C el) ((rV (aA C el) (qG y []).2 (aA C el)).take k++c++(rV (aA C el) (qG y []).2 (aA C el)).drop (Nat.add k c.length)) (aA C el) (qG y []).1 with
     |none=>exact R.bg _ _
     |some y'=>
      obtain⟨L,s1,s2⟩:=uj _ (aA C el) _ y' r _ ac1 S ⟨0,rfl,wY _,by rw[f,<-q3,mT];simp⟩ hy;have hcl:=bJ Q;rw[u1]at q5;have hdl:ds.length=pre.length:=hpl.symm;have hvl:(ds.map Dt.v).length=pre.length:=by rw[k8,hdl]
      have ac9:J.length=q*g+pre.length:=by rw[u3,cg,f,hdl]
      have a7H:L.length=pre.length:=by grind[List.length_map,List.length_append,List.length_take,List.length_drop]
      have a3T:=gH (P:=C.P) B.aO el lo H cs (B.dl+(q*g+k)) 0 vs w Y (by omega) (n5 q6 Q) (by
       intro z hz1 hz2 hz;have:=g8 z hz.1 hz.2;omega)
      have Pv:B.aO<w.heap.size:=by grind
      refine⟨_,a3T,?_⟩;have hno:∀n t li,n≠b->s.h.get n=some t->E n=some li->li.aO=B.aO->False:=by
       intro n t li u G hli hbl;rcases hR.sep n b t _ li B G hb hli hl u hbl with h'|h'
       .cases t<;>simp[gR]at h'
       .simp[gR]at h'
      have A:∀n t,n≠b->(s.h.set b (.vec el y')).get n=some t->s.h.get n=some t:=by grind[Tr.get_set_other]
      have a0v:Rel C base E ⟨s.h.set b (.vec el y'),s.next,s.pc⟩ { w with heap:=w.heap.setIfInBounds B.aO (.cells (h1 vs (B.dl+(q*g+k)+0) cs) el (lo,H)) }:=by
       refine hR.CN hb hl hl ⟨rfl,rfl,rfl⟩ rfl (λ_ _=>rfl) A (Tr.get_set_same _ _ _) (T:=.cells (h1 vs (B.dl+(q*g+k)+0) cs) el (lo,H)) (λk' X=>by simp[dt X]) (by simp[Pv]) (by simp) ?_
        (λn t li u G W U=>(hno n t li u (A n t u G) W U).elim) (λn t li u G W U=>(hno n t li u (A n t u G) W U).elim)
       refine⟨_,lo,H,r++L,rfl,s1,λj d hj=>?_,⟨ii,g3,g4,by rw[cg,f,a7H,<-ac9];exact g5,by rw[dJ];exact g6,g7⟩,(λoff a b=>by rw[dJ];exact g8 off a b),g9⟩;have adK:cs.length=c.length:=hcl;rw[hY _ _ _ _ (by omega)];rw[pA]at hj;split at hj
       .grind
       .next hge=>
        have N:(L.map Dt.v)[j-r.length]? =some d.v:=by rw[kh,hj];rfl
        rw[s2]at N;have hjl:j-r.length<L.length:=(my.1 hj).1;have abf:∀m:Nat,m<ds.length->(ds.map Dt.v)[m]? =vs[B.dl+(q*g+m)]? :=by intro m hm;rw[kh,dV hm];have:=g2 (q*g+m) ds[m] (by rw[u3,CD (by omega),show q*g+m-r.length=m by omega,dV hm]);rw[this];rfl
        rw[mw,pA]at N;split at N
        .grind
        .next h5=>
         rw[c8]at h5 N;rw[pA]at N;split at N
         .grind
         .next h6=>
          rw[tX,abf _ (by omega)]at N;rw[av (by omega),<-N];congr 1;omega
      refine Step.of ⟨Grow.refl E,a0v,⟨by simp,rfl,rfl,rfl,?_⟩,?_,bD _,λ_ _ h=>hR.lt h,λ_ l h=>.inl ⟨l,h⟩,?_⟩
      .intro k' ob X hn;have:k'≠B.aO:=λh=>hn ⟨b,_,B,hb,rfl,hl,h.symm⟩
       simp[dt this,X]
      .rintro k' ⟨n,t,li,W,U,h5,h6⟩ _;by_cases e:n=b
       .subst e;exact⟨n,_,li,hb,rfl,h5,h6⟩
       .exact⟨n,t,li,A n t e W,U,h5,h6⟩
      .grind
  |_=>exact R.bg _ _
theorem ZH(r:Good C)(j:Rel C base E s w)(z:aW E nt t a.tmps)(ty:TypeId)(x y:Operand)(rt:TypeId):
  (uE ty x y rt C t s).path (eY C base E s w ((US (Instr.storeAt ty (a.eval x) (a.eval y))).run C.P w)):=by
 refine R.bR _ (bO j z x) λv l=>?_
 refine R.bR _ (bO j z y) λu A=>?_
 refine R.bR (λF=>∃M,(Instr.storeAt ty (a.eval x) (a.eval y)).run C.P w=.ok () M/\Step C base E s w E F M) ?_ λF m=>?_
 .cases v with
  |ptr b off=>
   refine R.bR _ (c6 r ty) λi V=>?_
   refine R.bR _ (pW u _ A) λc h=>?_
   show(match Nat.beq c.length i.size with|true=>jm s b off c|false=>R.bad _).path _;cases d:Nat.beq c.length i.size
   .trivial
   .have e:c.length=i.size:=bj d;simp only[ai,bk]at l;obtain⟨B,n,o⟩:=l;refine R.aZ ?_ (uA j b off c _ h B n);rintro F ⟨M,I,Y⟩;refine⟨M,?_,Y⟩;have f:(a.eval y).cells.size=i.size:=by
     have:=bJ h;simp at this;omega
    rw[<-o];simp only[Instr.storeAt,Instr.sureAddr,pure_bind,storeVar,aS,V.2.size w,bw,f,ne_eq,kW,br];exact I
  |jn b k g q=>
   refine R.bR _ (c6 r ty) λi V=>?_
   refine R.bR _ (pW u _ A) λc h=>?_
   show(match Nat.beq c.length i.size with|true=>jL C s b k g q c|false=>R.bad _).path _;cases d:Nat.beq c.length i.size
   .trivial
   .have e:c.length=i.size:=bj d;obtain⟨B,p,G,n,D,H,o⟩:=tz l;refine R.aZ ?_ (II j b k g q c _ h n D);rintro F ⟨M,I,Y⟩;refine⟨M,?_,Y⟩;have f:(a.eval y).cells.size=i.size:=by
     have:=bJ h;simp at this;omega
    rw[o];simp only[Instr.storeAt,Instr.sureAddr,pure_bind,storeVar,aS,V.2.size w,bw,f,ne_eq,kW,br];exact I
  |_=>trivial
 .obtain⟨M,I,Y⟩:=m;exact⟨E,M,by simp[US,I],Y⟩
end
end Go.Proofs.YtokipodjggomfaaGreatDoor.Abs
