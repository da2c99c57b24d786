/- Part 1 of the plain laws of the texts that the statement speaks of, and of the contracts of its functions. Conditions: those of each theorem. -/
import Derived.Test.YtokipodjggomfaaGreatDoorAbs8
import Derived.Lib.ItoaNum
import Derived.Lib.AtoiAll
import Derived.Lib.IndexMore
import Derived.Lib.IndexLaws
noncomputable section
set_option linter.unusedVariables false
set_option linter.unusedSimpArgs false
namespace Go.Proofs.YtokipodjggomfaaGreatDoor.Txt
open Go.Lib
abbrev B:=List UInt8
inductive Tm where
 |mk (k n:Int) (s:B) (l:List Tm)
 deriving Inhabited
def Tm.k:Tm->Int| .mk k _ _ _=>k
def Tm.l:Tm->List Tm| .mk _ _ _ l=>l
def small(c:UInt8):Bool:=decide (97<=c.toNat/\c.toNat<=122)
def digit(c:UInt8):Bool:=decide (48<=c.toNat/\c.toNat<=57)
def letter(c:UInt8):Bool:=small c||decide (65<=c.toNat/\c.toNat<=90)||digit c||decide (c.toNat=95)||decide (c.toNat=64)
def words:List B:=[[97,102,116,101,114],[97,110,100],[97,110,100,97,108,115,111],[98,101,103,105,110],[99,97,115,101],[99,97,116,99,104],[100,105,118],[101,110,100],[102,117,110],[110,111,116],[111,102],[111,114],
 [111,114,101,108,115,101],[114,101,99,101,105,118,101],[114,101,109],[116,114,121],[119,104,101,110]]
def dz:B->Bool
 | []=>false
 |c::_=>small c
def plain(s:B):Bool:=dz s&&decide (s.length<=64)&&s.all letter && !words.contains s
def ll(n:Nat):UInt8:=UInt8.ofNat (if n<10 then 48+n else 87+n)
def uN(c:UInt8):B:=
 if c.toNat=39\/c.toNat=92 then [92,c]
 else if c.toNat<32\/126<c.toNat then [92,120,ll (c.toNat/16),ll (c.toNat%16)]
 else [c]
def mh(s:B):B:=s.flatMap uN
def quote(s:B):B:=39::(mh s++[39])
def unhex(c:UInt8):Option Nat:=
 if digit c then some (c.toNat-48)else if 97<=c.toNat/\c.toNat<=102 then some (c.toNat-87)else none
def sV:B->Option (B×B)
 | []=>none
 |c::r=>
  if c.toNat=39 then some ([],r)
  else if c.toNat≠92 then(sV r).map λx=>(c::x.1,x.2)
  else match r with
   | []=>none
   |d::r2=>
    if d.toNat=39\/d.toNat=92 then(sV r2).map λx=>(d::x.1,x.2)
    else if d.toNat≠120 then none
    else match r2 with
     |h::l::e=>match unhex h,unhex l with
      |some a,some b=>(sV e).map λx=>(UInt8.ofNat (16*a+b)::x.1,x.2)
      |_,_=>none
     |_=>none
def run:B->Nat
 | []=>0
 |c::r=>if c.toNat=45 then 1+(r.takeWhile digit).length else((c::r).takeWhile digit).length
def dt(least most:Int)(s:B):Option (Int×B):=
 match atoiAll (s.take (run s))with
 | .ok n=>if itoa n=s.take (run s)/\least<=n/\n<=most then some (n,s.drop (run s))else none
 |_=>none
def gb(s:B):Option (Tm×B):=if plain (s.takeWhile letter)then some (.mk 2 0 (s.takeWhile letter) [],s.drop (s.takeWhile letter).length)else none
def bI(s:B):Option (Tm×B):=
 match sV (s.drop 1)with
 |some (a,r)=>if a.length<=64/\plain a=false/\quote a=s.take (s.length-r.length)then some (.mk 2 0 a [],r)else none
 |none=>none
def must(p:B)(s:B):Option B:=if p.isPrefixOf s then some (s.drop p.length)else none
def aZ:Int:=1073741824
def iu(k:Int)(e s:B):Option (Tm×B):=
 match dt 0 aZ s with
 |some (n,r)=>(must e r).map λr2=>(.mk k n [] [],r2)
 |none=>none
def bJ:List Tm->Tm->Tm
 | [],e=>e
 |t::l,e=>.mk 9 0 [] [t,bJ l e]
def gy(one:B->Option (Tm×B))(rest:B->Option (List Tm×B))(s:B):Option (List Tm×B):=
 match one s with
 |some (t,r)=>(rest r).map λx=>(t::x.1,x.2)
 |none=>none
def jC(a8:Bool)(l:List Tm):Bool:= !a8||decide (l.length<=64)
def gA(a8:Bool)(one:B->Option (Tm×B))(rest:B->Option (List Tm×B))(e s:B):Option (List Tm×B):=
 match must e s with
 |some r=>some ([],r)
 |none=>match gy one rest s with
  |some (l,r)=>match must e r with
   |some r2=>if jC a8 l then some (l,r2)else none
   |none=>none
  |none=>none
def hW(one:B->Option (Tm×B))(s:B):Option (Tm×B):=
 match must [124] s with
 |some r=>match one r with
  |some (t,r2)=>if t.k=9\/t.k=8 then none else some (t,r2)
  |none=>none
 |none=>some (.mk 8 0 [] [],s)
def e7(one:B->Option (Tm×B))(rest:B->Option (List Tm×B))(s:B):Option (Tm×B):=
 match must [93] s with
 |some r=>some (.mk 8 0 [] [],r)
 |none=>match gy one rest s with
  |some (l,r)=>match hW one r with
   |some (t,r2)=>(must [93] r2).map λa=>(bJ l t,a)
   |none=>none
  |none=>none
def gT(a8:Bool)(rest:B->Option (List Tm×B))(s:B):Option (Tm×B):=
 match dt 0 aZ s with
 |some (n,r)=>match rest r with
  |some (l,r2)=>match must [62] r2 with
   |some a=>if jC a8 l then some (.mk 5 n [] l,a)else none
   |none=>none
  |none=>none
 |none=>none
def ng:B:=[35,82,101,102,60]
def oS:B:=[35,84,105,100,60]
def uh:B:=[60,48,46]
def Ef:B:=[46,48,62]
def lG:B:=[35,70,117,110,60]
def cM:Int:= -576460752303423488
def dS:Int:=576460752303423487
def nn(a8:Bool)(one:B->Option (Tm×B))(rest:B->Option (List Tm×B))(s:B):Option (Tm×B):=
 match must [123] s with
 |some r=>(gA a8 one rest [125] r).map λx=>(.mk 7 0 [] x.1,x.2)
 |none=>match must [91] s with
  |some r=>e7 one rest r
  |none=>match must [39] s with
   |some _=>bI s
   |none=>match must ng s with
    |some r=>iu 3 [62] r
    |none=>match must oS s with
     |some r=>iu 4 [62] r
     |none=>match must uh s with
      |some r=>iu 6 Ef r
      |none=>match must lG s with
       |some r=>gT a8 rest r
       |none=>if dz s then gb s else(dt cM dS s).map λx=>(.mk 1 x.1 [] [],x.2)
mutual
def pT(a8:Bool):Nat->B->Option (Tm×B)
 |0,_=>none
 |n+1,s=>nn a8 (pT a8 n) (hk a8 n) s
def hk(a8:Bool):Nat->B->Option (List Tm×B)
 |0,s=>match must [44] s with
  |some _=>none
  |none=>some ([],s)
 |n+1,s=>match must [44] s with
  |some r=>gy (pT a8 n) (hk a8 n) r
  |none=>some ([],s)
end
mutual
def Tm.size:Tm->Nat
 | .mk _ _ _ l=>1+sizes l
def sizes:List Tm->Nat
 | []=>0
 |t::l=>t.size+sizes l
end
mutual
def Tm.fits:Tm->Bool
 | .mk k _ _ l=>(decide (k=9)||decide (l.length<=64))&&dQ l
def dQ:List Tm->Bool
 | []=>true
 |t::l=>t.fits&&dQ l
end
theorem n5{p s r:B}(h:must p s=some r):s=p++r:=by
 unfold must at h;split at h
 .next a=>
  obtain⟨t,rfl⟩:=Fh.1 a;rw[List.drop_left]at h;exact dX _ (ae h)
 .cases h
theorem bF{p s r:B}(h:must p s=some r):s.length=p.length+r.length:=by rw[n5 h,bL]
end Go.Proofs.YtokipodjggomfaaGreatDoor.Txt
namespace Go.Proofs.YtokipodjggomfaaGreatDoor.Txt
open Go.Lib
def eN{α:Type}(p:α->Bool):Option (α×B)->Option (α×B)
 |some (a,r)=>if p a then some (a,r)else none
 |none=>none
theorem oe(k n:Int)(s:B):(Tm.mk k n s []).fits=true:=by simp[Tm.fits,dQ]
theorem mQ:∀(l:List Tm)(e:Tm),(bJ l e).fits=(dQ l&&e.fits)
 | [],e=>by simp[bJ,dQ]
 |t::l,e=>by simp[bJ,Tm.fits,dQ,mQ l e,Bool.and_assoc]
section
variable{RN x8:B->Option (Tm×B)}{BA nQ:B->Option (List Tm×B)}(A:∀s,RN s=eN Tm.fits (x8 s))(I:∀s,BA s=eN dQ (nQ s))
include A I
theorem CI(s:B):gy RN BA s=eN dQ (gy x8 nQ s):=by
 unfold gy;rw[A];cases h:x8 s with
 |none=>rfl
 |some x=>
  obtain⟨t,r⟩:=x;simp only[eN];cases a:t.fits with
  |false=>
   simp only[dY,aQ];cases nQ r with
   |none=>rfl
   |some y=>simp[eN,dQ,a]
  |true=>
   simp only[aH,I];cases nQ r with
   |none=>rfl
   |some y=>simp only[eN,bX,dQ,a,Bool.true_and];cases dQ y.1<;>simp
theorem Wa(e s:B):gA true RN BA e s=eN (λl=>decide (l.length<=64)&&dQ l) (gA false x8 nQ e s):=by
 unfold gA;cases must e s with
 |some r=>simp[eN,dQ]
 |none=>
  simp only;rw[CI A I];cases gy x8 nQ s with
  |none=>rfl
  |some x=>
   obtain⟨l,r⟩:=x;simp only[eN];cases a:dQ l with
   |false=>
    simp only[dY,aQ];cases must e r with
    |none=>rfl
    |some r2=>simp[jC,eN,a]
   |true=>
    simp only[aH];cases must e r with
    |none=>rfl
    |some r2=>simp[jC,eN,a]
omit I in
theorem So(s:B):hW RN s=eN Tm.fits (hW x8 s):=by
 unfold hW;cases must [124] s with
 |none=>simp[eN,oe]
 |some r=>
  simp only;rw[A];cases x8 r with
  |none=>rfl
  |some x=>
   obtain⟨t,r2⟩:=x;simp only[eN];cases a:t.fits with
   |false=>by_cases Z:t.k=9\/t.k=8<;>simp[Z,eN,a]
   |true=>by_cases Z:t.k=9\/t.k=8<;>simp[Z,eN,a]
theorem Sp(s:B):e7 RN BA s=eN Tm.fits (e7 x8 nQ s):=by
 unfold e7;cases must [93] s with
 |some r=>simp[eN,oe]
 |none=>
  simp only;rw[CI A I];cases gy x8 nQ s with
  |none=>rfl
  |some x=>
   obtain⟨l,r⟩:=x;simp only[eN];cases a:dQ l with
   |false=>
    simp only[dY,aQ];cases hW x8 r with
    |none=>rfl
    |some y=>simp only;cases must [93] y.2<;>simp[eN,mQ,a]
   |true=>
    simp only[aH];rw[So A];cases hW x8 r with
    |none=>rfl
    |some y=>
     obtain⟨t,r2⟩:=y;simp only[eN];cases c:t.fits with
     |false=>cases b:must [93] r2<;>simp[eN,mQ,a,c,b]
     |true=>cases b:must [93] r2<;>simp[eN,mQ,a,c,b]
omit A in
theorem V9(s:B):gT true BA s=eN Tm.fits (gT false nQ s):=by
 unfold gT;cases dt 0 aZ s with
 |none=>rfl
 |some x=>
  obtain⟨n,r⟩:=x;simp only;rw[I];cases nQ r with
  |none=>rfl
  |some y=>
   obtain⟨l,r2⟩:=y;simp only[eN];cases b:dQ l with
   |false=>cases a:must [62] r2<;>simp[jC,eN,Tm.fits,b,a]
   |true=>cases a:must [62] r2<;>simp[jC,eN,Tm.fits,b,a]
theorem V8(s:B):nn true RN BA s=eN Tm.fits (nn false x8 nQ s):=by
 have num:∀(k:Int)(e s:B),iu k e s=eN Tm.fits (iu k e s):=by
  intro k e s;unfold iu;cases dt 0 aZ s with
  |none=>rfl
  |some x=>simp only;cases must e x.2<;>simp[eN,oe]
 unfold nn;cases must [123] s with
 |some r=>
  simp only;rw[Wa A I];cases gA false x8 nQ [125] r with
  |none=>rfl
  |some x=>obtain⟨l,r2⟩:=x;by_cases a:l.length<=64<;>cases b:dQ l<;>simp[eN,Tm.fits,a,b]
 |none=>
  cases must [91] s with
  |some r=>exact Sp A I r
  |none=>
   cases must [39] s with
   |some r=>
    simp only;unfold bI;cases sV (s.drop 1)with
    |none=>rfl
    |some x=>simp only;split<;>simp[eN,oe]
   |none=>
    cases must ng s with
    |some r=>exact num _ _ _
    |none=>
     cases must oS s with
     |some r=>exact num _ _ _
     |none=>
      cases must uh s with
      |some r=>exact num _ _ _
      |none=>
       cases must lG s with
       |some r=>exact V9 I r
       |none=>
        simp only;split
        .grind[gb,eN,oe]
        .cases dt cM dS s<;>simp[eN,oe]
end
theorem ER:∀n,(∀s,pT true n s=eN Tm.fits (pT false n s))/\∀s,hk true n s=eN dQ (hk false n s)
 |0=>by grind[pT,eN,hk,must,dQ]
 |n+1=>by
  obtain⟨A,I⟩:=ER n;refine⟨λs=>?_,λs=>?_⟩
  .rw[pT,pT];exact V8 A I s
  .rw[hk,hk];cases must [44] s with
   |none=>simp[eN,dQ]
   |some r=>exact CI A I r
end Go.Proofs.YtokipodjggomfaaGreatDoor.Txt
namespace Go.Proofs.YtokipodjggomfaaGreatDoor.Txt
open Go.Lib
theorem MV{n:Nat}(h:n<16):(ll n).toNat=if n<10 then 48+n else 87+n:=by unfold ll;split<;>simp[UInt8.toNat_ofNat]<;>omega
theorem oL{n:Nat}(h:n<16):unhex (ll n)=some n:=by grind[MV,unhex,digit]
theorem eU(c:UInt8)(r:B):sV (c::r)=if c.toNat=39 then some ([],r)
 else if c.toNat≠92 then(sV r).map λx=>(c::x.1,x.2)
 else match r with
  | []=>none
  |d::r2=>
   if d.toNat=39\/d.toNat=92 then(sV r2).map λx=>(d::x.1,x.2)
   else if d.toNat≠120 then none
   else match r2 with
    |h::l::e=>match unhex h,unhex l with
     |some a,some b=>(sV e).map λx=>(UInt8.ofNat (16*a+b)::x.1,x.2)
     |_,_=>none
    |_=>none:=by rw[sV.eq_def]<;>rfl
theorem T0(c:UInt8)(s:B):sV (uN c++s)=(sV s).map λx=>(c::x.1,x.2):=by
 unfold uN;have a:c.toNat<256:=c.toNat_lt;split
 .grind[sV,eU]
 .next h=>
  split
  .show sV (92::120::ll (c.toNat/16)::ll (c.toNat%16)::s)=_;rw[eU];rw[ai (by decide),ai (by decide)];simp only;rw[ai (by decide),ai (by decide)];simp only[oL (show c.toNat/16<16 by omega),oL (show c.toNat%16<16 by omega)];rw[show UInt8.ofNat (16*(c.toNat/16)+c.toNat%16)=c by
    rw[Nat.div_add_mod];exact vq]
  .grind[sV,eU]
theorem N4:∀(a r:B),sV (mh a++39::r)=some (a,r)
 | [],r=>by
   show sV (39::r)=_;rw[eU,az (by decide)]
 |c::a,r=>by
  have e:mh (c::a)++39::r=uN c++(mh a++39::r):=by simp[mh]
  rw[e,T0,N4 a r]<;>rfl
theorem oK:∀(n:Nat)(s a r:B),s.length<=n->sV s=some (a,r)->∃p,s=p++39::r
 |_,[],a,r,_,h=>by simp[sV]at h
 |0,_::_,_,_,h,_=>by simp at h
 |n+1,c::s,a,r,j,h=>by
  have b:s.length<=n:=by simpa using j
  rw[eU]at h;split at h
  .next k=>
   simp only[ar,bK]at h;have:c=39:=fX.1 k;exact⟨[],by rw[this,h.2]<;>rfl⟩
  .split at h
   .obtain⟨x,Y,I⟩:=aN.1 h;simp only[bK]at I;obtain⟨p,e⟩:=oK n s x.1 x.2 b Y;exact⟨c::p,by rw[e,I.2]<;>rfl⟩
   .split at h
    .cases h
    .rename_i d r2;have f:r2.length<=n:=by simp at b;omega
     split at h
     .obtain⟨x,Y,I⟩:=aN.1 h;simp only[bK]at I;obtain⟨p,e⟩:=oK n r2 x.1 x.2 f Y;exact⟨c::d::p,by rw[e,I.2]<;>rfl⟩
     .split at h
      .cases h
      .split at h
       .rename_i l l0 i;have g:i.length<=n:=by simp at f;omega
        split at h
        .obtain⟨x,Y,I⟩:=aN.1 h;simp only[bK]at I;obtain⟨p,e⟩:=oK n i x.1 x.2 g Y;exact⟨c::d::l::l0::p,by rw[e,I.2]<;>rfl⟩
        .cases h
       .cases h
theorem mL{s:B}{t:Tm}{r:B}:bI s=some (t,r)↔∃a,t=.mk 2 0 a []/\a.length<=64/\plain a=false/\s=quote a++r:=by
 constructor
 .intro h;unfold bI at h;split at h
  .rename_i a b d;split at h
   .next f=>
    simp only[ar,bK]at h;obtain⟨rfl,rfl⟩:=h;obtain⟨A,I,W⟩:=f;refine⟨a,rfl,A,I,?_⟩;rw[W];obtain⟨p,e⟩:=oK _ _ _ _ (aX _) d;cases s with
    |nil=>simp at e
    |cons c s=>
     simp only[List.drop_succ_cons,rN]at e;subst e;have:(c::(p++39::b)).length-b.length=(c::(p++[39])).length:=by simp;omega
     rw[this,show c::(p++39::b)=(c::(p++[39]))++b by simp,List.take_left]
   .cases h
  .cases h
 .rintro⟨a,rfl,A,I,rfl⟩;have d:sV ((quote a++r).drop 1)=some (a,r):=by
   show sV ((mh a++[39])++r)=_;rw[jI];exact N4 a r
  unfold bI;rw[d];simp only;rw[az ⟨A,I,by rw[bL,Nat.add_sub_cancel,List.take_left]⟩]
end Go.Proofs.YtokipodjggomfaaGreatDoor.Txt
namespace Go.Proofs.YtokipodjggomfaaGreatDoor.Txt
open Go.Lib
theorem BS:∀(l:B)(acc a:Nat)(c:UInt8),parseUint10 acc l=.ok a->48<=c.toNat->c.toNat<=57->a*10+(c.toNat-48)<18446744073709551616->parseUint10 acc (l++[c])=.ok (a*10+(c.toNat-48))
 | [],acc,a,c,h,A,I,W=>by
   simp only[parseUint10]at h;injection h with h;subst h;simp only[ij,parseUint10];rw[az ⟨A,I⟩,ai (by omega),ai (by omega)]
 |d::l,acc,a,c,h,A,I,W=>by
  simp only[parseUint10]at h;simp only[jG,parseUint10];split at h
  .next b=>
   rw[az b];split at h
   .cases h
   .next D=>
    rw[ai D];split at h
    .cases h
    .next h5=>
     rw[ai h5];exact BS l _ a c h A I W
  .cases h
theorem gB{n:Nat}(h:n<10):(UInt8.ofNat (48+n)).toNat=48+n:=by simp;omega
theorem decDigits_eq(u:Nat):decDigits u=if u<10 then [UInt8.ofNat (48+u)]else decDigits (u/10)++[UInt8.ofNat (48+u%10)]:=by rw[decDigits];split<;>rfl
theorem Er(u:Nat)(h:u<18446744073709551616):parseUint10 0 (decDigits u)=.ok u:=by
 induction u using Nat.strongRecOn with
 |ind u b=>
  rw[decDigits_eq];split
  .next a=>
   simp only[parseUint10,gB a];rw[az (by omega),ai (by omega),ai (by omega)];congr 1;omega
  .next a=>
   have e:=gB (show u%10<10 by omega);have:=BS _ 0 (u/10) (UInt8.ofNat (48+u%10)) (b (u/10) (by omega) (by omega)) (by omega) (by omega) (by omega);rw[this,e];congr 1;omega
theorem CU(u:Nat):∀c∈decDigits u,digit c=true:=by
 induction u using Nat.strongRecOn with
 |ind u b=>
  rw[decDigits_eq];intro c a;split at a
  .grind[digit,gB]
  .grind[digit,gB]
theorem yt(u:Nat):decDigits u≠[]:=by rw[decDigits_eq];split<;>simp
theorem xo(u:Nat):∃c r,decDigits u=c::r/\48<=c.toNat/\c.toNat<=57:=by
 cases h:decDigits u with
 |nil=>exact absurd h (yt u)
 |cons c r=>have:=CU u c (by rw[h];exact aV);unfold digit at this;exact⟨c,r,rfl,by simpa using this⟩
theorem sJ{n:Int}(A: -9223372036854775808<=n)(I:n<=9223372036854775807):atoiAll (itoa n)=.ok n:=by
 unfold itoa;split
 .next e=>
  have a:=Er n.natAbs (by omega);have b:=yt n.natAbs;unfold atoiAll;simp only;rw[az (.inr (by decide))];unfold parseMag;rw[ai b,a];simp only;rw[ai (λh=>h.1 (by decide)),ai (by omega),az (by decide)];congr 1;omega
 .next e=>
  obtain⟨c,r,d,f,g⟩:=xo n.toNat;have a:=Er n.toNat (by omega);unfold atoiAll;rw[d];simp only;rw[ai (by omega),<-d];unfold parseMag;rw[ai (yt _),a];simp only;rw[ai (λh=>by omega),ai (λh=>by omega),ai (by omega)];congr 1;omega
theorem jO{least most n:Int}{s r:B}(h:dt least most s=some (n,r)):s=itoa n++r/\least<=n/\n<=most/\run s=(itoa n).length:=by
 unfold dt at h;split at h
 .split at h
  .next a=>
   simp only[ar,bK]at h;obtain⟨rfl,rfl⟩:=h;refine⟨by rw[a.1,zX],a.2.1,a.2.2,?_⟩;rw[a.1,cG];have:run s<=s.length:=by
    unfold run;split
    .exact j0 _
    .split
     .have:=(Fu digit (l:=‹B›)).length_le;simp only[bZ];omega
     .exact(Fu digit).length_le
   omega
  .cases h
 .cases h
end Go.Proofs.YtokipodjggomfaaGreatDoor.Txt
namespace Go.Proofs.YtokipodjggomfaaGreatDoor.Txt
open Go.Lib
def cX:B:=32::words.flatMap λw=>w++[32]
theorem Bg{s t:B}(a:∀c∈s,c≠32):(s++32::t).takeWhile (λc=>c != 32)=s:=by
 induction s with
 |nil=>simp
 |cons c s b=>
  have d:(c != 32)=true:=by simpa using a c aV
  rw[jG,List.takeWhile_cons,az d,b λx Y=>a x (bk _ Y)]
def FA(i:Nat):B:=(cX.drop (i+1)).takeWhile (λc=>c != 32)
theorem Ls:(List.range 110).all (λi=>(FA i).isEmpty||cX[i]? != some 32||words.contains (FA i))=true:=by decide+kernel
theorem TS:words.all (λw=>contains cX (32::(w++[32])))=true:=by decide+kernel
theorem tp{s:B}(f:∀c∈s,c≠32)(b:s≠[]):contains cX (32::(s++[32]))=words.contains s:=by
 have A:contains cX (32::(s++[32]))=true->words.contains s=true:=by
  intro h;unfold contains at h;have h:=bq h;rcases index_spec cX (32::(s++[32]))with⟨I, -⟩|⟨i,I,W,D, -⟩
  .rw[I]at h;omega
  .unfold occAt at D;obtain⟨t,d⟩:=Fh.1 D;have V:i<cX.length:=by grind
   have g:cX.drop (i+1)=s++32::t:=by rw[<-zM,<-d];simp
   have j:cX[i]? =some 32:=by have:=List.head?_drop (l:=cX) (i:=i);rw[<-d]at this;simpa using this.symm
   have a:FA i=s:=by unfold FA;rw[g];exact Bg f
   have e:cX.length<=110:=by decide+kernel
   have:=qj.1 Ls i (List.mem_range.2 (by omega));rw[a,j]at this;simp only[fW,bne_self_eq_false,dY,er]at this;rcases this with h|h
   .exact absurd (List.isEmpty_iff.1 h) b
   .exact h
 cases a:words.contains s with
 |true=>have:=qj.1 TS s (by simpa using a);exact this
 |false=>
  cases k:contains cX (32::(s++[32]))with
  |false=>rfl
  |true=>rw[A k]at a;cases a
end Go.Proofs.YtokipodjggomfaaGreatDoor.Txt
namespace Go.Proofs.YtokipodjggomfaaGreatDoor.Txt
open Go.Lib
theorem Cq(n:Int):0<(itoa n).length:=by
 unfold itoa;split
 .simp
 .exact Fo.2 (yt _)
theorem ka{a b:Int}{s r:B}{n:Int}(h:dt a b s=some (n,r)):r.length<s.length:=by obtain⟨A, -⟩:=jO h;have:=Cq n;rw[A,bL];omega
theorem FM(p:UInt8->Bool)(s:B):(s.takeWhile p).length<=s.length:=(Fu p).length_le
theorem Rx{w:B}(h:plain w=true):0<w.length:=by grind[plain,dz]
theorem BU{s r:B}{t:Tm}(h:gb s=some (t,r)):r.length<s.length:=by grind[gb,Rx,FM,letter]
theorem yV{s r:B}{t:Tm}(h:bI s=some (t,r)):r.length<s.length:=by obtain⟨a, -, -, -,rfl⟩:=mL.1 h;simp only[quote,bL,bZ];omega
theorem o5{k:Int}{e s r:B}{t:Tm}(h:iu k e s=some (t,r)):r.length<s.length:=by
 unfold iu at h;cases A:dt 0 aZ s with
 |none=>rw[A]at h;cases h
 |some x=>rw[A]at h;simp only[aN,bK]at h;obtain⟨r2,I, -,rfl⟩:=h;have:=bF I;have:=ka (n:=x.1) (r:=x.2) A;omega
section
variable{a8:Bool}{one Ml:B->Option (Tm×B)}{rest eo:B->Option (List Tm×B)}
theorem wE(A:∀s t r,one s=some (t,r)->r.length<s.length)(I:∀s l r,rest s=some (l,r)->r.length<=s.length){s r:B}{l:List Tm}(h:gy one rest s=some (l,r)):r.length<s.length:=by grind[gy,Option.map_eq_some_iff,Prod.mk.injEq]
theorem U3(A:∀s t r,one s=some (t,r)->r.length<s.length)(I:∀s l r,rest s=some (l,r)->r.length<=s.length){e s r:B}{l:List Tm}(h:gA a8 one rest e s=some (l,r)):r.length<=s.length:=by
 unfold gA at h;cases e1:must e s with
 |some x=>rw[e1]at h;simp only[ar,bK]at h;obtain⟨-,rfl⟩:=h;have:=bF e1;omega
 |none=>
  rw[e1]at h;simp only at h;cases e2:gy one rest s with
  |none=>rw[e2]at h;cases h
  |some x=>
   rw[e2]at h;simp only at h;cases e3:must e x.2 with
   |none=>rw[e3]at h;cases h
   |some y=>
    rw[e3]at h;simp only at h;split at h
    .simp only[ar,bK]at h;obtain⟨-,rfl⟩:=h;have:=bF e3;have:=wE A I (l:=x.1) (r:=x.2) e2;omega
    .cases h
theorem RF(A:∀s t r,one s=some (t,r)->r.length<s.length){s r:B}{t:Tm}(h:hW one s=some (t,r)):r.length<=s.length:=by
 unfold hW at h;cases e1:must [124] s with
 |none=>rw[e1]at h;simp only[ar,bK]at h;obtain⟨-,rfl⟩:=h;exact aX _
 |some x=>
  rw[e1]at h;simp only at h;cases e2:one x with
  |none=>rw[e2]at h;cases h
  |some y=>
   rw[e2]at h;simp only at h;split at h
   .cases h
   .simp only[ar,bK]at h;obtain⟨-,rfl⟩:=h;have:=bF e1;have:=A x y.1 y.2 e2;omega
theorem RH(A:∀s t r,one s=some (t,r)->r.length<s.length)(I:∀s l r,rest s=some (l,r)->r.length<=s.length){s r:B}{t:Tm}(h:e7 one rest s=some (t,r)):r.length<=s.length:=by
 unfold e7 at h;cases e1:must [93] s with
 |some x=>rw[e1]at h;simp only[ar,bK]at h;obtain⟨-,rfl⟩:=h;have:=bF e1;omega
 |none=>
  rw[e1]at h;simp only at h;cases e2:gy one rest s with
  |none=>rw[e2]at h;cases h
  |some x=>
   rw[e2]at h;simp only at h;cases e3:hW one x.2 with
   |none=>rw[e3]at h;cases h
   |some y=>rw[e3]at h;simp only[aN,bK]at h;obtain⟨b,a, -,rfl⟩:=h;have:=bF a;have:=RF A (t:=y.1) (r:=y.2) e3;have:=wE A I (l:=x.1) (r:=x.2) e2;omega
theorem U2(I:∀s l r,rest s=some (l,r)->r.length<=s.length){s r:B}{t:Tm}(h:gT a8 rest s=some (t,r)):r.length<=s.length:=by
 unfold gT at h;cases e1:dt 0 aZ s with
 |none=>rw[e1]at h;cases h
 |some x=>
  rw[e1]at h;simp only at h;cases e2:rest x.2 with
  |none=>rw[e2]at h;cases h
  |some y=>
   rw[e2]at h;simp only at h;cases e3:must [62] y.2 with
   |none=>rw[e3]at h;cases h
   |some z=>
    rw[e3]at h;simp only at h;split at h
    .simp only[ar,bK]at h;obtain⟨-,rfl⟩:=h;have:=bF e3;have:=I x.2 y.1 y.2 e2;have:=ka (n:=x.1) (r:=x.2) e1;omega
    .cases h
theorem U0(A:∀s t r,one s=some (t,r)->r.length<s.length)(I:∀s l r,rest s=some (l,r)->r.length<=s.length){s r:B}{t:Tm}(h:nn a8 one rest s=some (t,r)):r.length<s.length:=by
 unfold nn at h;cases e1:must [123] s with
 |some x=>rw[e1]at h;simp only[aN,bK]at h;obtain⟨y,e2, -,rfl⟩:=h;have:=bF e1;have:=U3 A I (l:=y.1) (r:=y.2) e2;simp only[bZ,dv]at *;omega
 |none=>
 rw[e1]at h;simp only at h;cases e2:must [91] s with
 |some x=>rw[e2]at h;have:=bF e2;have:=RH A I h;simp only[bZ,dv]at *;omega
 |none=>
 rw[e2]at h;simp only at h;cases e3:must [39] s with
 |some x=>rw[e3]at h;exact yV h
 |none=>
 rw[e3]at h;simp only at h;cases a:must ng s with
 |some x=>rw[a]at h;have:=bF a;have:=o5 h;omega
 |none=>
 rw[a]at h;simp only at h;cases b:must oS s with
 |some x=>rw[b]at h;have:=bF b;have:=o5 h;omega
 |none=>
 rw[b]at h;simp only at h;cases c:must uh s with
 |some x=>rw[c]at h;have:=bF c;have:=o5 h;omega
 |none=>
 rw[c]at h;simp only at h;cases d:must lG s with
 |some x=>rw[d]at h;have:=bF d;have:=U2 I h;have:lG.length=5:=rfl;omega
 |none=>
 rw[d]at h;simp only at h;split at h
 .exact BU h
 .simp only[aN,bK]at h;obtain⟨y,e2, -,rfl⟩:=h;exact ka (n:=y.1) (r:=y.2) e2
theorem uw{s:B}(A:one s=Ml s)(I:∀t r,one s=some (t,r)->rest r=eo r):gy one rest s=gy Ml eo s:=by grind[gy]
theorem JG{s:B}(h:∀r,r.length<s.length->one r=Ml r):hW one s=hW Ml s:=by
 unfold hW;cases e:must [124] s with
 |none=>rfl
 |some x=>have:=bF e;simp only[bZ,dv]at this;simp only[h x (by omega)]
theorem BV{s:B}(b:∀s t r,one s=some (t,r)->r.length<s.length)(c:∀s l r,rest s=some (l,r)->r.length<=s.length)(A:∀r,r.length<s.length->one r=Ml r)(I:∀r,r.length<s.length->rest r=eo r):
  nn a8 one rest s=nn a8 Ml eo s:=by
 have a:∀r,r.length<s.length->gy one rest r=gy Ml eo r:=λr d=>
  uw (A r d) λt f e=>I f (by have:=b r t f e;omega)
 unfold nn;cases e1:must [123] s with
 |some x=>have:=bF e1;simp only[bZ,dv]at this;simp only[gA,a x (by omega)]
 |none=>
 simp only;cases e2:must [91] s with
 |some x=>
  have:=bF e2;simp only[bZ,dv]at this;simp only[e7,<-a x (by omega)];cases must [93] x with
  |some _=>rfl
  |none=>
   simp only;cases e3:gy one rest x with
   |none=>rfl
   |some y=>have:=wE b c (l:=y.1) (r:=y.2) e3;simp only[JG (s:=y.2) λr d=>A r (by omega)]
 |none=>
 simp only;cases e3:must [39] s with
 |some x=>rfl
 |none=>
 simp only;cases i:must ng s with
 |some x=>rfl
 |none=>
 simp only;cases j:must oS s with
 |some x=>rfl
 |none=>
 simp only;cases k:must uh s with
 |some x=>rfl
 |none=>
 simp only;cases g:must lG s with
 |some x=>
  have h7:=bF g;simp only[gT];cases h:dt 0 aZ x with
  |none=>rfl
  |some y=>have:=ka (n:=y.1) (r:=y.2) h;simp only[I y.2 (by omega)]
 |none=>rfl
end
theorem rz(a8:Bool):∀n,(∀s t r,pT a8 n s=some (t,r)->r.length<s.length)/\∀s l r,hk a8 n s=some (l,r)->r.length<=s.length
 |0=>by grind[pT,hk]
 |n+1=>by
  obtain⟨A,I⟩:=rz a8 n;refine⟨λs t r h=>U0 A I (by rw[pT]at h;exact h),λs l r h=>?_⟩;unfold hk at h;split at h
  .next x e=>
   have:=bF e;have:=wE A I h;omega
  .grind
def PT(a8:Bool)(s:B):Option (Tm×B):=pT a8 (s.length+1) s
def PR(a8:Bool)(s:B):Option (List Tm×B):=hk a8 (s.length+1) s
theorem Da(a8:Bool):∀(k:Nat)(s:B),s.length<=k->∀n,s.length<n->pT a8 n s=PT a8 s/\hk a8 n s=PR a8 s
 |k,s,Z,0,h=>by omega
 |k,s,Z,n+1,h=>by
  have d:∀m,s.length<=m->∀r:B,r.length<s.length->pT a8 m r=PT a8 r/\hk a8 m r=PR a8 r:=λm c r g=>by
   cases k with
   |zero=>omega
   |succ k=>exact Da a8 k r (by omega) m (by omega)
  have key:∀m,s.length<=m->pT a8 (m+1) s=nn a8 (PT a8) (PR a8) s/\hk a8 (m+1) s=(match must [44] s with|some r=>gy (PT a8) (PR a8) r|none=>some ([],s)):=λm c=>by
   obtain⟨f,i⟩:=rz a8 m;refine⟨?_,?_⟩
   .grind[pT,BV]
   .rw[hk];cases e:must [44] s with
    |none=>rfl
    |some x=>have:=bF e;simp only[bZ,dv]at this;exact uw (d m c x (by omega)).1 λt r e=>(d m c r (by have:=f x t r e;omega)).2
  have a:=key n (by omega);have b:=key s.length (aX _);exact⟨a.1.trans b.1.symm,a.2.trans b.2.symm⟩
theorem zn(a8:Bool)(s:B):PT a8 s=nn a8 (PT a8) (PR a8) s:=by
 obtain⟨c,d⟩:=rz a8 s.length;have b:∀r:B,r.length<s.length->pT a8 s.length r=PT a8 r/\hk a8 s.length r=PR a8 r:=λr a=>Da a8 r.length r (aX _) _ a
 show pT a8 (s.length+1) s=_;rw[pT];exact BV c d (λr a=>(b r a).1) λr a=>(b r a).2
theorem a1O(a8:Bool)(s:B):PR a8 s=match must [44] s with|some r=>gy (PT a8) (PR a8) r|none=>some ([],s):=by
 obtain⟨b,d⟩:=rz a8 s.length;have a:∀r:B,r.length<s.length->pT a8 s.length r=PT a8 r/\hk a8 s.length r=PR a8 r:=λr c=>Da a8 r.length r (aX _) _ c
 show hk a8 (s.length+1) s=_;rw[hk];cases e:must [44] s with
 |none=>rfl
 |some x=>have:=bF e;simp only[bZ,dv]at this;exact uw (a x (by omega)).1 λt r e=>(a r (by have:=b x t r e;omega)).2
theorem a4K{a8:Bool}{s r:B}{t:Tm}(h:PT a8 s=some (t,r)):r.length<s.length:=(rz a8 _).1 s t r h
theorem AZ(s:B):PT true s=eN Tm.fits (PT false s):=(ER _).1 s
end Go.Proofs.YtokipodjggomfaaGreatDoor.Txt
namespace Go.Proofs.YtokipodjggomfaaGreatDoor.Txt
open Go.Lib
theorem Rk(r:B):run (45::r)=1+(r.takeWhile digit).length:=by simp[run]
theorem Rj{X:B}(h:∀c r,X=c::r->c≠45):run X=(X.takeWhile digit).length:=by
 cases X with
 |nil=>rfl
 |cons c r=>
  have A:=h c r rfl;have I:¬c.toNat=45:=λe=>A (fX.1 e)
  simp only[run,ai I]
theorem bO{l:B}{p:Nat}{c:UInt8}(h:l[p]? =some c):l.drop p=c::l.drop (p+1):=by obtain⟨a,rfl⟩:=jK.1 h;exact Fx a
theorem jE{l:B}{p:Nat}{c:UInt8}(h:l[p]? =some c):p<l.length:=(jK.1 h).1
theorem oj{l:B}{p:Nat}(h:l.length<=p):l.drop p=[]:=ql h
def h2(l:B)(f p:Nat):Prop:=f<=p/\p<=l.length/\run (l.drop f)=(p-f)+((l.drop p).takeWhile digit).length
variable{l:B}{f p:Nat}{c:UInt8}{n least most:Int}
theorem JY(h:l[p]? ≠some 45)(a:p<=l.length):h2 l p p:=by
 refine⟨aX _,a,?_⟩;rw[Nat.sub_self,du];refine Rj λc r e b=>h ?_
 have:(l.drop p)[0]? =some 45:=by rw[e,b]<;>rfl
 rwa [oD,hx]at this
theorem JX(h:l[p]? =some 45):h2 l p (p+1):=by refine⟨oG _,jE h,?_⟩;rw[bO h,Rk];omega
theorem RV(h:h2 l f p)(a:l[p]? =some c)(b:digit c=true):h2 l f (p+1):=by obtain⟨A,I,W⟩:=h;have:=jE a;refine⟨by omega,by omega,?_⟩;rw[W,bO a,List.takeWhile_cons_of_pos b,bZ];omega
theorem B6(h:h2 l f p)(a:∀c,l[p]? =some c->digit c=false):(l.drop f).take (run (l.drop f))=(l.take p).drop f/\(l.drop f).drop (run (l.drop f))=l.drop p:=by
 obtain⟨A,I,W⟩:=h;have e:(l.drop p).takeWhile digit=[]:=by
  cases Y:l.drop p with
  |nil=>rfl
  |cons c r=>
   have:(l.drop p)[0]? =some c:=by rw[Y]<;>rfl
   rw[oD,hx]at this;rw[List.takeWhile_cons_of_neg];rw[a c this];exact Fk
 rw[e,dv,hx]at W;rw[W];refine⟨?_,?_⟩
 .rw[vi]
 .rw[zM];congr 1;omega
theorem ya(h:h2 l f p)(a:∀c,l[p]? =some c->digit c=false)(b:atoiAll ((l.take p).drop f)=.ok n)(V:itoa n=(l.take p).drop f)(A:least<=n)(I:n<=most):dt least most (l.drop f)=some (n,l.drop p):=by grind[B6,dt]
theorem a2P(h:h2 l f p)(a:∀c,l[p]? =some c->digit c=false)(b:∀n,atoiAll ((l.take p).drop f)=.ok n->itoa n=(l.take p).drop f->least<=n->n<=most->False):dt least most (l.drop f)=none:=by grind[B6,dt]
def zJ(l:B)(f p:Nat):Prop:=f<=p/\p<=l.length/\(l.drop f).takeWhile letter=(l.take p).drop f++(l.drop p).takeWhile letter
theorem MH(a:p<=l.length):zJ l p p:=by refine⟨aX _,a,?_⟩;rw[show(l.take p).drop p=[]from ql (by rw[cG];omega),ij]
theorem nL(a:l[p]? =some c):l.take (p+1)=l.take p++[c]:=by grind[List.take_add_one]
theorem oi(a:f<=p)(b:l[p]? =some c):(l.take (p+1)).drop f=(l.take p).drop f++[c]:=by grind[jE,nL]
theorem R5(h:zJ l f p)(a:l[p]? =some c)(b:letter c=true):zJ l f (p+1):=by obtain⟨A,I,W⟩:=h;have:=jE a;refine⟨by omega,by omega,?_⟩;rw[W,bO a,List.takeWhile_cons_of_pos b,oi A a,jI]<;>rfl
theorem Kc(h:zJ l f p)(a:∀c,l[p]? =some c->letter c=false):(l.drop f).takeWhile letter=(l.take p).drop f:=by
 obtain⟨A,I,W⟩:=h;have e:(l.drop p).takeWhile letter=[]:=by
  cases Y:l.drop p with
  |nil=>rfl
  |cons c r=>
   have:(l.drop p)[0]? =some c:=by rw[Y]<;>rfl
   rw[oD,hx]at this;rw[List.takeWhile_cons_of_neg];rw[a c this];exact Fk
 rw[W,e,zP]
theorem UW(h:zJ l f p)(a:∀c,l[p]? =some c->letter c=false)(b:plain ((l.take p).drop f)=true):gb (l.drop f)=some (.mk 2 0 ((l.take p).drop f) [],l.drop p):=by
 have e:=Kc h a;unfold gb;rw[e,az b,zM];have:((l.take p).drop f).length=p-f:=by obtain⟨A,I, -⟩:=h;rw[eT,cG];omega
 obtain⟨A,I, -⟩:=h;rw[this,show f+(p-f)=p by omega]
theorem UX(h:zJ l f p)(a:∀c,l[p]? =some c->letter c=false)(b:plain ((l.take p).drop f)=false):gb (l.drop f)=none:=by grind[Kc,gb]
theorem r8{s:B}:plain s=true↔dz s=true/\s.length<=64/\s.all letter=true/\words.contains s=false:=by grind[plain]
theorem EC{c:UInt8}(h:letter c=true):c≠32:=by rintro rfl;revert h;decide
theorem Jv{s:B}(h:contains cX (32::(s++[32]))=true)(a:s≠[]):plain s=false:=by grind[plain,tp,EC]
theorem Rv{s:B}(A:dz s=true)(I:s.length<=64)(W:s.all letter=true)(h:contains cX (32::(s++[32]))=false)(a:s≠[]):plain s=true:=by rw[tp (λc b=>EC (qj.1 W c b)) a]at h;exact r8.2 ⟨A,I,W,h⟩
end Go.Proofs.YtokipodjggomfaaGreatDoor.Txt
namespace Go.Proofs.YtokipodjggomfaaGreatDoor.Txt
open Go.Lib
variable{l acc:B}{f p:Nat}{c d h k:UInt8}{a b:Nat}
def ek(l:B)(f p:Nat)(acc:B):Prop:=f+1<=p/\p<=l.length/\sV (l.drop (f+1))=(sV (l.drop p)).map λx=>(acc++x.1,x.2)
theorem Rs(a:f<l.length):ek l f (f+1) []:=by refine⟨aX _,a,?_⟩;simp
theorem Gj{x:Option (B×B)}{u v:B}:((x.map λy=>(v++y.1,y.2)).map λy=>(u++y.1,y.2))=x.map λy=>((u++v)++y.1,y.2):=by cases x<;>simp
theorem YI(q:ek l f p acc)(a:l[p]? =some c)(A:c.toNat≠39)(I:c.toNat≠92):ek l f (p+1) (acc++[c]):=by obtain⟨d,e,b⟩:=q;have:=jE a;refine⟨by omega,by omega,?_⟩;rw[b,bO a,eU,ai A,az I,<-Gj]<;>rfl
theorem YH(q:ek l f p acc)(b:l[p]? =some c)(A:c.toNat=92)(a:l[p+1]? =some d)(I:d.toNat=39\/d.toNat=92):ek l f (p+2) (acc++[d]):=by obtain⟨g,h,e⟩:=q;have:=jE a;refine⟨by omega,by omega,?_⟩;rw[e,bO b,bO a,eU,ai (by omega),ai (by omega)];simp only[az I];rw[<-Gj]<;>rfl
theorem YK(q:ek l f p acc)(e:l[p]? =some c)(A:c.toNat=92)(g:l[p+1]? =some d)(I:d.toNat=120)(hh:l[p+2]? =some h)(Z:l[p+3]? =some k)(i:unhex h=some a)(j:unhex k=some b):ek l f (p+4) (acc++[UInt8.ofNat (16*a+b)]):=by obtain⟨n,o,m⟩:=q;have:=jE Z;refine⟨by omega,by omega,?_⟩;rw[m,bO e,bO g,bO hh,bO Z,eU,ai (by omega),ai (by omega)];simp only[ai (show¬(d.toNat=39\/d.toNat=92) by omega),ai (show¬d.toNat≠120 by omega),i,j];rw[<-Gj]<;>rfl
theorem OL(q:ek l f p acc)(a:l[p]? =some c)(A:c.toNat=39):sV (l.drop (f+1))=some (acc,l.drop (p+1)):=by obtain⟨d,e,b⟩:=q;rw[b,bO a,eU,az A];simp
theorem UM(q:ek l f p acc)(a:l.length<=p):sV (l.drop (f+1))=none:=by obtain⟨c,d,b⟩:=q;rw[b,oj a]<;>rfl
theorem Rr(q:ek l f p acc)(a:l[p]? =some c)(A:c.toNat=92)(b:l.length<=p+1):sV (l.drop (f+1))=none:=by obtain⟨e,g,d⟩:=q;rw[d,bO a,oj b,eU,ai (by omega),ai (by omega)]<;>rfl
theorem YL(q:ek l f p acc)(a:l[p]? =some c)(A:c.toNat=92)(b:l[p+1]? =some d)(I:d.toNat≠39)(W:d.toNat≠92)(D:d.toNat≠120):sV (l.drop (f+1))=none:=by obtain⟨g,h,e⟩:=q;rw[e,bO a,bO b,eU,ai (by omega),ai (by omega)];simp only[ai (show¬(d.toNat=39\/d.toNat=92) by omega),az D];rfl
theorem Rt(q:ek l f p acc)(a:l[p]? =some c)(A:c.toNat=92)(b:l[p+1]? =some d)(I:d.toNat=120)(h:l.length<p+4):sV (l.drop (f+1))=none:=by
 obtain⟨i,j,e⟩:=q;rw[e,bO a,bO b,eU,ai (by omega),ai (by omega)];simp only[ai (show¬(d.toNat=39\/d.toNat=92) by omega),ai (show¬d.toNat≠120 by omega)];have g:(l.drop (p+1+1)).length<=1:=by rw[eT];omega
 match Y:l.drop (p+1+1),g with
 | [],_=>rfl
 | [_],_=>rfl
theorem Ru(q:ek l f p acc)(b:l[p]? =some c)(A:c.toNat=92)(g:l[p+1]? =some d)(I:d.toNat=120)(hh:l[p+2]? =some h)(Z:l[p+3]? =some k)(a:unhex h=none\/unhex k=none):sV (l.drop (f+1))=none:=by
 obtain⟨j,m,i⟩:=q;rw[i,bO b,bO g,bO hh,bO Z,eU,ai (by omega),ai (by omega)];simp only[ai (show¬(d.toNat=39\/d.toNat=92) by omega),ai (show¬d.toNat≠120 by omega)];rcases a with e|e
 .rw[e]<;>rfl
 .rw[e];cases unhex h<;>rfl
theorem OM(a:f<=p)(b:p<=l.length):(l.drop f).take ((l.drop f).length-(l.drop p).length)=(l.take p).drop f:=by grind[List.length_drop,List.drop_take]
theorem Gh(a:f+1<=p)(b:p<=l.length)(c:sV (l.drop (f+1))=some (acc,l.drop p))(A:acc.length<=64)(I:plain acc=false)(W:quote acc=(l.take p).drop f):bI (l.drop f)=some (.mk 2 0 acc [],l.drop p):=by grind[bI,OM,List.drop_drop]
theorem Gi(a:sV (l.drop (f+1))=none):bI (l.drop f)=none:=by grind[bI,List.drop_drop]
theorem YJ(a:f+1<=p)(b:p<=l.length)(c:sV (l.drop (f+1))=some (acc,l.drop p))(d:acc.length<=64->plain acc=false->quote acc=(l.take p).drop f->False):bI (l.drop f)=none:=by grind[bI,OM,List.drop_drop]
theorem Wk{s:B}{i:Nat}(a:s[i]? =some c):mh (s.take (i+1))=mh (s.take i)++uN c:=by rw[nL a];simp[mh]
theorem Wl(c:UInt8):(uN c).length<=4:=by
 unfold uN;split
 .simp
 .split<;>simp
theorem Qa:∀s:B,(mh s).length<=4*s.length
 | []=>by simp[mh]
 |c::s=>by
  have A:=Wl c;have I:=Qa s;have:mh (c::s)=uN c++mh s:=by simp[mh]
  rw[this,bL,bZ];omega
def en:B:=[48,49,50,51,52,53,54,55,56,57,97,98,99,100,101,102]
theorem LO{n:Nat}(h:n<16):(en.take (n+1)).drop n=[ll n]:=by
 have:∀n:Fin 16,(en.take (n.val+1)).drop n.val=[ll n.val]:=by decide
 exact this ⟨n,h⟩
theorem Q5:∀c:Fin 256,unhex (UInt8.ofNat c.val)=if 0<=indexByte en (UInt8.ofNat c.val)then some (indexByte en (UInt8.ofNat c.val)).toNat else none:=by decide+kernel
theorem vI(c:UInt8):unhex c=if 0<=indexByte en c then some (indexByte en c).toNat else none:=by have:=Q5 ⟨c.toNat,c.toNat_lt⟩;simpa using this
theorem IG{c:UInt8}(h:unhex c=some a):a<16:=by
 have:∀c:Fin 256,(unhex (UInt8.ofNat c.val)).all (λa=>decide (a<16))=true:=by decide+kernel
 have:=this ⟨c.toNat,c.toNat_lt⟩;simp only[vq,h,Option.all_some,nc]at this;exact this
end Go.Proofs.YtokipodjggomfaaGreatDoor.Txt
namespace Go.Proofs.YtokipodjggomfaaGreatDoor.Txt
open Go.Lib
theorem Ez(c:UInt8)(r:B):must [c] (c::r)=some r:=by simp[must]
theorem Zd{c:UInt8}{X:B}(h:∀d r,X=d::r->d≠c):must [c] X=none:=by
 cases X with
 |nil=>rfl
 |cons d r=>have A:=h d r rfl;unfold must;rw[ai];intro e;rw[List.isPrefixOf_cons_cons]at e;simp only[aw,beq_iff_eq]at e;exact A e.1.symm
theorem RX{p X:B}(h:X.take p.length=p):must p X=some (X.drop p.length):=by grind[must]
theorem sw{p X:B}(h:X.take p.length≠p):must p X=none:=by unfold must;rw[ai];intro e;obtain⟨t,rfl⟩:=Fh.1 e;exact h (List.take_left' rfl)
section
variable{a8:Bool}{ts:List Tm}{t:Tm}{e X r r2:B}{n:Int}
theorem Il(h:must [44] X=none):PR a8 X=some ([],X):=by rw[a1O,h]
theorem E8(r:B):PR a8 (44::r)=gy (PT a8) (PR a8) r:=by rw[a1O,Ez]
def bU(a8:Bool)(ts:List Tm)(e X:B):Option (List Tm×B):=
 match PR a8 X with
 |some (a,r)=>match must e r with
  |some r2=>if jC a8 (ts++a)then some (ts++a,r2)else none
  |none=>none
 |none=>none
theorem pg(h:must [44] X=none):bU a8 ts e X=match must e X with|some r2=>if jC a8 ts then some (ts,r2)else none|none=>none:=by grind[bU,Il]
theorem MG(a:PT a8 r=some (t,r2)):bU a8 ts e (44::r)=bU a8 (ts++[t]) e r2:=by unfold bU;rw[E8];unfold gy;simp only[a];cases PR a8 r2<;>simp
theorem MF(a:PT a8 r=none):bU a8 ts e (44::r)=none:=by grind[bU,E8,gy]
theorem wG(h:must e X=some r):gA a8 (PT a8) (PR a8) e X=some ([],r):=by unfold gA;rw[h]
theorem x3(h:must e X=none)(a:PT a8 X=some (t,r)):gA a8 (PT a8) (PR a8) e X=bU a8 [t] e r:=by
 unfold gA bU gy;simp only[h,a];cases PR a8 r with
 |none=>rfl
 |some y=>rfl
theorem GG(h:must e X=none)(a:PT a8 X=none):gA a8 (PT a8) (PR a8) e X=none:=by grind[gA,gy]
def bo(a8:Bool)(ts:List Tm)(X:B):Option (Tm×B):=
 match PR a8 X with
 |some (a,r)=>match hW (PT a8) r with
  |some (e,r2)=>(must [93] r2).map λb=>(bJ (ts++a) e,b)
  |none=>none
 |none=>none
theorem fR(h:must [44] X=none):bo a8 ts X=match hW (PT a8) X with|some (e,r2)=>(must [93] r2).map λa=>(bJ ts e,a)|none=>none:=by grind[bo,Il]
theorem J8(a:PT a8 r=some (t,r2)):bo a8 ts (44::r)=bo a8 (ts++[t]) r2:=by unfold bo;rw[E8];unfold gy;simp only[a];cases PR a8 r2<;>simp
theorem J7(a:PT a8 r=none):bo a8 ts (44::r)=none:=by grind[bo,E8,gy]
theorem Es(h:must [93] X=some r):e7 (PT a8) (PR a8) X=some (.mk 8 0 [] [],r):=by unfold e7;rw[h]
theorem BW(h:must [93] X=none)(a:PT a8 X=some (t,r)):e7 (PT a8) (PR a8) X=bo a8 [t] r:=by
 unfold e7 bo gy;simp only[h,a];cases PR a8 r with
 |none=>rfl
 |some y=>rfl
theorem JH(h:must [93] X=none)(a:PT a8 X=none):e7 (PT a8) (PR a8) X=none:=by grind[e7,gy]
theorem sj(h:must [124] X=some r):hW (PT a8) X=match PT a8 r with|some (t,r2)=>if t.k=9\/t.k=8 then none else some (t,r2)|none=>none:=by unfold hW;rw[h]<;>rfl
theorem BT(h:must [124] X=none):hW (PT a8) X=some (.mk 8 0 [] [],X):=by unfold hW;rw[h]
def dH(a8:Bool)(n:Int)(ts:List Tm)(X:B):Option (Tm×B):=
 match PR a8 X with
 |some (a,r)=>match must [62] r with
  |some b=>if jC a8 (ts++a)then some (.mk 5 n [] (ts++a),b)else none
  |none=>none
 |none=>none
theorem pf(h:must [44] X=none):dH a8 n ts X=match must [62] X with|some a=>if jC a8 ts then some (.mk 5 n [] ts,a)else none|none=>none:=by grind[dH,Il]
theorem MD(a:PT a8 r=some (t,r2)):dH a8 n ts (44::r)=dH a8 n (ts++[t]) r2:=by unfold dH;rw[E8];unfold gy;simp only[a];cases PR a8 r2<;>simp
theorem MC(a:PT a8 r=none):dH a8 n ts (44::r)=none:=by grind[dH,E8,gy]
theorem nZ(h:dt 0 aZ X=some (n,r)):gT a8 (PR a8) X=dH a8 n [] r:=by
 unfold gT dH;simp only[h];cases PR a8 r with
 |none=>rfl
 |some y=>rfl
theorem OU(h:dt 0 aZ X=none):gT a8 (PR a8) X=none:=by unfold gT;rw[h]
theorem Dk(h:must [123] X=some r):PT a8 X=(gA a8 (PT a8) (PR a8) [125] r).map λx=>(.mk 7 0 [] x.1,x.2):=by rw[zn,nn,h]
theorem a0D(A:must [123] X=none)(h:must [91] X=some r):PT a8 X=e7 (PT a8) (PR a8) r:=by rw[zn,nn,A,h]
theorem a4J(A:must [123] X=none)(I:must [91] X=none)(h:must [39] X=some r):PT a8 X=bI X:=by rw[zn,nn,A,I,h]
theorem NC(A:must [123] X=none)(I:must [91] X=none)(W:must [39] X=none)(h:must ng X=some r):PT a8 X=iu 3 [62] r:=by rw[zn,nn,A,I,W,h]
theorem NB(A:must [123] X=none)(I:must [91] X=none)(W:must [39] X=none)(D:must ng X=none)(h:must oS X=some r):PT a8 X=iu 4 [62] r:=by rw[zn,nn,A,I,W,D,h]
theorem ND(A:must [123] X=none)(I:must [91] X=none)(W:must [39] X=none)(D:must ng X=none)(h5:must oS X=none)(h:must uh X=some r):PT a8 X=iu 6 Ef r:=by rw[zn,nn,A,I,W,D,h5,h]
theorem Xq(A:must [123] X=none)(I:must [91] X=none)(W:must [39] X=none)(D:must ng X=none)(h5:must oS X=none)(h6:must uh X=none)(h:must lG X=some r):PT a8 X=gT a8 (PR a8) r:=by rw[zn,nn,A,I,W,D,h5,h6,h]
theorem QX(A:must [123] X=none)(I:must [91] X=none)(W:must [39] X=none)(D:must ng X=none)(h5:must oS X=none)(h6:must uh X=none)(h7:must lG X=none):PT a8 X=if dz X then gb X else(dt cM dS X).map λx=>(.mk 1 x.1 [] [],x.2):=by rw[zn,nn,A,I,W,D,h5,h6,h7]
end
def wf1(k n:Int)(s:B)(m:Nat):Prop:=
 (k=1/\cM<=n/\n<=dS/\s=[]/\m=0)\/(k=2/\n=0/\s.length<=64/\m=0)\/((k=3\/k=4\/k=6)/\0<=n/\n<=aZ/\s=[]/\m=0)\/
 (k=5/\0<=n/\n<=aZ/\s=[])\/(k=7/\n=0/\s=[])\/(k=8/\n=0/\s=[]/\m=0)\/(k=9/\n=0/\s=[]/\m=2)
mutual
def Tm.wf:Tm->Prop
 | .mk k n s l=>wf1 k n s l.length/\jx l
def jx:List Tm->Prop
 | []=>True
 |t::l=>t.wf/\jx l
end
mutual
def Tm.words:Tm->Nat
 | .mk k _ _ l=>(if k=7\/k=5 then 2 else 1)+cA l
def cA:List Tm->Nat
 | []=>0
 |t::l=>t.words+cA l
end
theorem DV:∀{l:List Tm}{e:Tm},jx l->e.wf->(bJ l e).wf
 | [],e,_,h=>h
 |t::l,e,A,h=>by
  unfold jx at A;unfold bJ Tm.wf;refine⟨.inr (.inr (.inr (.inr (.inr (.inr ⟨rfl,rfl,rfl,rfl⟩))))),?_⟩;unfold jx jx jx;exact⟨A.1,DV A.2 h,dB⟩
theorem oI:∀(l:List Tm)(e:Tm),(bJ l e).words=l.length+cA l+e.words
 | [],e=>by simp[bJ,cA]
 |t::l,e=>by
  simp only[bJ,Tm.words,cA,oI l e,bZ];rw[ai (by decide)];omega
def Q(t:Tm)(s r:B):Prop:=t.wf/\t.words+2*r.length<=2*s.length
def QL(l:List Tm)(s r:B):Prop:=jx l/\cA l+l.length+2*r.length<=2*s.length
theorem rW{k n:Int}{s:B}(h:wf1 k n s 0):(Tm.mk k n s []).wf:=by unfold Tm.wf jx;exact⟨h,dB⟩
theorem im{k n:Int}{s:B}(h:k≠7/\k≠5):(Tm.mk k n s []).words=1:=by unfold Tm.words cA;rw[ai (by omega)]
section
variable{a8:Bool}{one:B->Option (Tm×B)}{rest:B->Option (List Tm×B)}(A:∀s t r,one s=some (t,r)->Q t s r)(I:∀s l r,rest s=some (l,r)->QL l s r)
include A I
theorem UN{s r:B}{l:List Tm}(h:gy one rest s=some (l,r)):jx l/\cA l+l.length+2*r.length<=2*s.length+1:=by
 unfold gy at h;cases e1:one s with
 |none=>rw[e1]at h;cases h
 |some x=>rw[e1]at h;simp only[aN,bK]at h;obtain⟨y,e2,rfl,rfl⟩:=h;obtain⟨a1,a2⟩:=A s x.1 x.2 e1;obtain⟨a,b⟩:=I x.2 y.1 y.2 e2;refine⟨by unfold jx;exact⟨a1,a⟩,?_⟩;simp only[cA,bZ];omega
theorem a5M{e s r:B}{l:List Tm}(a:0<e.length)(h:gA a8 one rest e s=some (l,r)):jx l/\cA l+2*r.length<=2*s.length:=by
 unfold gA at h;cases e1:must e s with
 |some x=>rw[e1]at h;simp only[ar,bK]at h;obtain⟨rfl,rfl⟩:=h;have:=bF e1;refine⟨by unfold jx;trivial,?_⟩;simp only[cA];omega
 |none=>
  rw[e1]at h;simp only at h;cases e2:gy one rest s with
  |none=>rw[e2]at h;cases h
  |some x=>
   rw[e2]at h;simp only at h;cases e3:must e x.2 with
   |none=>rw[e3]at h;cases h
   |some y=>
    rw[e3]at h;simp only at h;split at h
    .simp only[ar,bK]at h;obtain⟨rfl,rfl⟩:=h;have:=bF e3;obtain⟨a1,a2⟩:=UN A I (l:=x.1) (r:=x.2) e2;exact⟨a1,by omega⟩
    .cases h
omit I in
theorem a2B{s r:B}{t:Tm}(h:hW one s=some (t,r)):t.wf/\t.words+2*r.length<=2*s.length+1:=by
 unfold hW at h;cases e1:must [124] s with
 |none=>rw[e1]at h;simp only[ar,bK]at h;obtain⟨rfl,rfl⟩:=h;exact⟨rW (.inr (.inr (.inr (.inr (.inr (.inl ⟨rfl,rfl,rfl,rfl⟩)))))),by rw[im (by decide)];omega⟩
 |some x=>
  rw[e1]at h;simp only at h;cases e2:one x with
  |none=>rw[e2]at h;cases h
  |some y=>
   rw[e2]at h;simp only at h;split at h
   .cases h
   .simp only[ar,bK]at h;obtain⟨rfl,rfl⟩:=h;have:=bF e1;obtain⟨a1,a2⟩:=A x y.1 y.2 e2;exact⟨a1,by omega⟩
theorem a2C{s r:B}{t:Tm}(h:e7 one rest s=some (t,r)):t.wf/\t.words+2*r.length<=2*s.length:=by
 unfold e7 at h;cases e1:must [93] s with
 |some x=>rw[e1]at h;simp only[ar,bK]at h;obtain⟨rfl,rfl⟩:=h;have:=bF e1;simp only[bZ,dv]at this;exact⟨rW (.inr (.inr (.inr (.inr (.inr (.inl ⟨rfl,rfl,rfl,rfl⟩)))))),by rw[im (by decide)];omega⟩
 |none=>
  rw[e1]at h;simp only at h;cases e2:gy one rest s with
  |none=>rw[e2]at h;cases h
  |some x=>
   rw[e2]at h;simp only at h;cases e3:hW one x.2 with
   |none=>rw[e3]at h;cases h
   |some y=>rw[e3]at h;simp only[aN,bK]at h;obtain⟨c,a,rfl,rfl⟩:=h;have:=bF a;simp only[bZ,dv]at this;obtain⟨a1,a2⟩:=UN A I (l:=x.1) (r:=x.2) e2;obtain⟨b,d⟩:=a2B A (t:=y.1) (r:=y.2) e3;exact⟨DV a1 b,by rw[oI];omega⟩
omit A in
theorem a5L{s r:B}{t:Tm}(h:gT a8 rest s=some (t,r)):t.wf/\t.words+2*r.length<=2*s.length:=by
 unfold gT at h;cases e1:dt 0 aZ s with
 |none=>rw[e1]at h;cases h
 |some x=>
  rw[e1]at h;simp only at h;cases e2:rest x.2 with
  |none=>rw[e2]at h;cases h
  |some y=>
   rw[e2]at h;simp only at h;cases e3:must [62] y.2 with
   |none=>rw[e3]at h;cases h
   |some z=>
    rw[e3]at h;simp only at h;split at h
    .simp only[ar,bK]at h;obtain⟨rfl,rfl⟩:=h;have:=bF e3;obtain⟨a1,a2⟩:=I x.2 y.1 y.2 e2;have a:=ka (n:=x.1) (r:=x.2) e1;obtain⟨-,c1,c2, -⟩:=jO (n:=x.1) (r:=x.2) e1;refine⟨?_,?_⟩
     .unfold Tm.wf;exact⟨.inr (.inr (.inr (.inl ⟨rfl,c1,c2,rfl⟩))),a1⟩
     .grind[Tm.words]
    .cases h
omit A I in
theorem Gm{k:Int}{e s r:B}{t:Tm}(Z:k=3\/k=4\/k=6)(h:iu k e s=some (t,r)):Q t s r:=by
 have a:=o5 h;unfold iu at h;cases e1:dt 0 aZ s with
 |none=>rw[e1]at h;cases h
 |some x=>rw[e1]at h;simp only[aN,bK]at h;obtain⟨r2, -,rfl,rfl⟩:=h;obtain⟨-,c1,c2, -⟩:=jO (n:=x.1) (r:=x.2) e1;exact⟨rW (.inr (.inr (.inl ⟨Z,c1,c2,rfl,rfl⟩))),by rw[im (by omega)];omega⟩
omit A I in
theorem UO{s r:B}{t:Tm}(h:bI s=some (t,r)):Q t s r:=by have c:=yV h;obtain⟨a,rfl,b, -, -⟩:=mL.1 h;exact⟨rW (.inr (.inl ⟨rfl,rfl,b,rfl⟩)),by rw[im (by decide)];omega⟩
omit A I in
theorem YM{s r:B}{t:Tm}(h:gb s=some (t,r)):Q t s r:=by
 have b:=BU h;unfold gb at h;split at h
 .next a=>
  simp only[ar,bK]at h;obtain⟨rfl,rfl⟩:=h;exact⟨rW (.inr (.inl ⟨rfl,rfl,(r8.1 a).2.1,rfl⟩)),by rw[im (by decide)];omega⟩
 .cases h
theorem a5K{s r:B}{t:Tm}(h:nn a8 one rest s=some (t,r)):Q t s r:=by
 unfold nn at h;cases e1:must [123] s with
 |some x=>rw[e1]at h;simp only[aN,bK]at h;obtain⟨y,e2,rfl,rfl⟩:=h;have:=bF e1;simp only[bZ,dv]at this;obtain⟨a1,a2⟩:=a5M A I (by decide) (l:=y.1) (r:=y.2) e2;refine⟨by unfold Tm.wf;exact⟨.inr (.inr (.inr (.inr (.inl ⟨rfl,rfl,rfl⟩)))),a1⟩,?_⟩;unfold Tm.words;rw[az (.inl rfl)];omega
 |none=>
 rw[e1]at h;simp only at h;cases e2:must [91] s with
 |some x=>rw[e2]at h;have:=bF e2;obtain⟨a1,a2⟩:=a2C A I h;exact⟨a1,by omega⟩
 |none=>
 rw[e2]at h;simp only at h;cases e3:must [39] s with
 |some x=>rw[e3]at h;exact UO h
 |none=>
 rw[e3]at h;simp only at h;have lift:∀{x:B},x.length<=s.length->Q t x r->Q t s r:=λY h=>⟨h.1,by have:=h.2;omega⟩
 cases a:must ng s with
 |some x=>rw[a]at h;exact lift (by have:=bF a;omega) (Gm (.inl rfl) h)
 |none=>
 rw[a]at h;simp only at h;cases b:must oS s with
 |some x=>rw[b]at h;exact lift (by have:=bF b;omega) (Gm (.inr (.inl rfl)) h)
 |none=>
 rw[b]at h;simp only at h;cases c:must uh s with
 |some x=>rw[c]at h;exact lift (by have:=bF c;omega) (Gm (.inr (.inr rfl)) h)
 |none=>
 rw[c]at h;simp only at h;cases d:must lG s with
 |some x=>rw[d]at h;have:=bF d;obtain⟨a1,a2⟩:=a5L I h;exact⟨a1,by omega⟩
 |none=>
 rw[d]at h;simp only at h;split at h
 .exact YM h
 .simp only[aN,bK]at h;obtain⟨y,e2,rfl,rfl⟩:=h;have:=ka (n:=y.1) (r:=y.2) e2;obtain⟨-,c1,c2, -⟩:=jO (n:=y.1) (r:=y.2) e2;exact⟨rW (.inl ⟨rfl,c1,c2,rfl,rfl⟩),by rw[im (by decide)];omega⟩
end
theorem W2(a8:Bool):∀n,(∀s t r,pT a8 n s=some (t,r)->Q t s r)/\∀s l r,hk a8 n s=some (l,r)->QL l s r
 |0=>by
  refine⟨λs t r h=>by simp[pT]at h,λs l r h=>?_⟩;unfold hk at h;split at h
  .cases h
  .simp only[ar,bK]at h;obtain⟨rfl,rfl⟩:=h;exact⟨by unfold jx;trivial,by simp[cA]⟩
 |n+1=>by
  obtain⟨A,I⟩:=W2 a8 n;refine⟨λs t r h=>a5K A I (by rw[pT]at h;exact h),λs l r h=>?_⟩;unfold hk at h;split at h
  .next x e=>
   have:=bF e;simp only[bZ,dv]at this;obtain⟨a1,a2⟩:=UN A I h;exact⟨a1,by omega⟩
  .simp only[ar,bK]at h;obtain⟨rfl,rfl⟩:=h;exact⟨by unfold jx;trivial,by simp[cA]⟩
theorem Xp{a8:Bool}{s r:B}{t:Tm}(h:PT a8 s=some (t,r)):t.wf/\t.words+2*r.length<=2*s.length:=(W2 a8 _).1 s t r h
end Go.Proofs.YtokipodjggomfaaGreatDoor.Txt
namespace Go.Proofs.YtokipodjggomfaaGreatDoor.Txt
open Go.Lib
def Im(l:B)(p:Nat):Prop:=∀i,i<p->l[i]? ≠some 32
theorem a1m{l:B}{j:Nat}:occAt l [32] j=true↔l[j]? =some 32:=by
 unfold occAt;constructor
 .intro h;obtain⟨t,a⟩:=Fh.1 h;have:(l.drop j)[0]? =some 32:=by rw[<-a]<;>rfl
  rwa [oD,hx]at this
 .intro h;rw[bO h];simp
theorem J1{l:B}{p:Nat}(h:Im l p):NoOcc l [32] p:=λj a=>by
 cases e:occAt l [32] j with
 |false=>rfl
 |true=>exact absurd (a1m.1 e) (h j a)
theorem a3B{l:B}{p:Nat}(h:Im l p)(a:l[p]? =some 32):cut l [32]=(l.take p,l.drop (p+1),true):=by have b:=jE a;have e:index l [32]=p:=index_hit (J1 h) (by omega) (a1m.2 a);unfold cut;rw[e,az (by omega)];simp
theorem WA{l:B}(h:Im l l.length):cut l [32]=(l,[],false):=by have e:index l [32]= -1:=index_past (by simp) (J1 h) (by simp);unfold cut;rw[e,ai (by decide)]
def rd(u:B):Option Tm:=
 match PT true u with
 |some (t,r)=>if r=[]then some t else none
 |none=>none
theorem a5G{u:B}{t:Tm}(h:PT true u=some (t,[])):rd u=some t:=by unfold rd;rw[h]<;>rfl
theorem a5H{u:B}(h:PT true u=none):rd u=none:=by unfold rd;rw[h]
theorem a2z{u r:B}{t:Tm}(h:PT true u=some (t,r))(a:r≠[]):rd u=none:=by unfold rd;rw[h];simp only[ai a]
theorem Oz{u:B}{t:Tm}(h:rd u=some t):t.wf/\t.words<=2*u.length:=by
 unfold rd at h;cases e:PT true u with
 |none=>rw[e]at h;cases h
 |some x=>
  rw[e]at h;simp only at h;split at h
  .obtain rfl:=ae h;obtain⟨a,b⟩:=Xp (t:=x.1) (r:=x.2) e;exact⟨a,by omega⟩
  .cases h
theorem Jp{u:B}{t:Tm}(h:PT false u=some (t,[])):rd u=if t.fits then some t else none:=by grind[rd,AZ,eN]
theorem Jo{u:B}(h:PT false u=none):rd u=none:=by unfold rd;rw[AZ,h]<;>rfl
theorem Ge{u r:B}{t:Tm}(h:PT false u=some (t,r))(a:r≠[]):rd u=none:=by grind[rd,AZ,eN]
def qe(s:B):Option Int:=
 match atoiAll s with
 | .ok n=>if 0<=n/\n<=aZ/\itoa n=s then some n else none
 |_=>none
theorem wF{s:B}{n:Int}:qe s=some n↔0<=n/\n<=aZ/\itoa n=s:=by grind[qe,sJ,aZ]
def val:B->Nat:=List.foldl (λa c=>a*10+(c.toNat-48)) 0
theorem vH(l:B)(c:UInt8):val (l++[c])=val l*10+(c.toNat-48):=by simp[val]
theorem FE:∀(k n:Nat),n<=k->val (decDigits n)=n
 |k,n,h=>by
  rw[decDigits_eq];split
  .next a=>
   show 0*10+((UInt8.ofNat (48+n)).toNat-48)=n;rw[gB a];omega
  .next a=>
   cases k with
   |zero=>omega
   |succ k=>rw[vH,FE k (n/10) (by omega),gB (Nat.mod_lt _ (by decide))];omega
theorem ey{c:UInt8}:digit c=true↔48<=c.toNat/\c.toNat<=57:=by simp[digit]
theorem zc{c:UInt8}(h:digit c=true):UInt8.ofNat (48+(c.toNat-48))=c:=by have:=ey.1 h;rw[show 48+(c.toNat-48)=c.toNat by omega];exact vq
theorem N3{c:UInt8}:∀(l:B),digit c=true->c≠48->1<=val (c::l):=by
 intro l b f;have g:c.toNat≠48:=λe=>f (fX.1 e)
 have:=ey.1 b;have key:∀(l:B)(a:Nat),1<=a->1<=l.foldl (λa c=>a*10+(c.toNat-48)) a:=by
  intro l;induction l with
  |nil=>intro a h;exact h
  |cons d l i=>intro a h;exact i (a*10+(d.toNat-48)) (by omega)
 exact key l (0*10+(c.toNat-48)) (by omega)
theorem Qe:∀(k:Nat)(l:B),l.length=k+1->(∀c∈l,digit c=true)->(k=0\/l[0]? ≠some 48)->decDigits (val l)=l
 |0,l,h,a,_=>by
  match l,h with
  | [c],_=>
    have d:=a c aV;have:=ey.1 d;have e:val [c]=c.toNat-48:=by simp[val]
    rw[e,decDigits_eq,az (by omega),zc d]
 |k+1,l,h,a,b=>by
  rcases List.eq_nil_or_concat l with rfl|⟨O,c,rfl⟩
  .simp at h
  .rw[List.concat_eq_append]at h a b ⊢;have f:O.length=k+1:=by simpa using h
   have d:=a c (by simp);have i:=ey.1 d;have b:(O++[c])[0]? ≠some 48:=b.resolve_left (by omega);rw[Aa (by omega)]at b;have j:=Qe k O f (λx Y=>a x (by simp[Y])) (.inr b);have g:1<=val O:=by
    match O,f with
    |x::r,_=>exact N3 r (a x (by simp)) (λe=>b (by simp[e]))
   rw[vH,decDigits_eq,ai (by omega)];rw[show(val O*10+(c.toNat-48))/10=val O by omega,show(val O*10+(c.toNat-48))%10=c.toNat-48 by omega,j,zc d]
theorem YV{s:B}(A:s≠[])(I:∀c∈s,digit c=true)(W:s.length=1\/s[0]? ≠some 48)(D:(val s:Int)<=aZ):qe s=some (val s):=by
 have a:s.length=(s.length-1)+1:=by have:=Fo.2 A;omega
 refine wF.2 ⟨by omega,D,?_⟩;unfold itoa;rw[ai (by omega),tQ];exact Qe (s.length-1) s a I (W.imp (λh=>by omega) id)
theorem nY{s:B}{n:Int}(h:qe s=some n):s≠[]/\(∀c∈s,digit c=true)/\(s.length=1\/s[0]? ≠some 48)/\(val s:Int)=n/\n<=aZ:=by
 obtain⟨A,I,W⟩:=wF.1 h;obtain⟨m,rfl⟩:=et A;unfold itoa at W;rw[ai (by omega),tQ]at W;refine⟨by rw[<-W];exact yt m,by rw[<-W];exact CU m,?_,by rw[<-W,FE m m (aX _)],I⟩;rcases cV m 10 with d|d
 .grind[decDigits_eq]
 .right;intro b;have f:∀(k m:Nat),m<=k->1<=m->(decDigits m)[0]? ≠some 48:=by
   intro k;induction k with
   |zero=>intro m A I;omega
   |succ k g=>
    intro m A I e;rw[decDigits_eq]at e;split at e
    .next a=>
     simp only[cr,ar]at e;have:=dX UInt8.toNat e;rw[gB a]at this;simp at this;omega
    .grind[yt]
  rw[<-W]at b;exact f m m (aX _) (by omega) b
def pd:Tm:=.mk 8 0 [] []
def Ij(u:B)(i:Nat)(nm:B)(l:List Tm):Prop:=u[i]? =some 32/\rd (u.take i)=some (.mk 2 0 nm [])/\rd (u.drop (i+1))=some (bJ l pd)
def da(u:B)(p:Nat):Prop:=∀i,i<p->∀nm l,¬Ij u i nm l
def jZ(u nm:B)(l:List Tm):Prop:=∃p,da u p/\Ij u p nm l
theorem Cg:∀{a b:List Tm},bJ a pd=bJ b pd->a=b
 | [],[],_=>rfl
 | [],t::b,h=>by simp[bJ,pd]at h
 |t::a,[],h=>by simp[bJ,pd]at h
 |t::a,u::b,h=>by
  simp only[bJ,Tm.mk.injEq,nb,gP,fw]at h;rw[h.1,Cg h.2]
theorem Bl{u nm a:B}{l O:List Tm}(h:jZ u nm l)(d:jZ u a O):nm=a/\l=O:=by
 obtain⟨p,A,I⟩:=h;obtain⟨q,W,D⟩:=d;have e:p=q:=by
  rcases Nat.lt_trichotomy p q with h|h|h
  .exact absurd I (W p h nm l)
  .exact h
  .exact absurd D (A q h a O)
 subst e;obtain⟨-,a1,a2⟩:=I;obtain⟨-,b,c⟩:=D;rw[a1]at b;rw[a2]at c;have b:=ae b;injection b with _ _ b _;exact⟨b,Cg (ae c)⟩
theorem Rg{u nm:B}{l:List Tm}(h:da u u.length)(a:jZ u nm l):False:=by obtain⟨p, -,I⟩:=a;exact h p (jE I.1) nm l I
theorem wO{u:B}{p:Nat}(h:da u p)(a:∀nm l,¬Ij u p nm l):da u (p+1):=λi V nm l=>by
 rcases cV i p with A|A
 .exact h i A nm l
 .obtain rfl:i=p:=by omega
  exact a nm l
end Go.Proofs.YtokipodjggomfaaGreatDoor.Txt
namespace Go.Proofs.YtokipodjggomfaaGreatDoor.Txt
open Go.Lib
def MW(c:UInt8):Int:=if digit c then(c.toNat:Int)-48 else if 97<=c.toNat/\c.toNat<=102 then(c.toNat:Int)-87 else -1
def C8(h l:UInt8):UInt8:=UInt8.ofNat ((16*MW h+MW l)%256).toNat
def rq:B->B×Option B
 | []=>([],some [])
 |c::r=>
  if c.toNat=39 then([],some (c::r))
  else if c.toNat≠92 then(c::(rq r).1,(rq r).2)
  else match r with
   | []=>([0],none)
   |d::r2=>
    if d.toNat≠120 then(d::(rq r2).1,(rq r2).2)
    else match r2 with
     |h::l::a=>(C8 h l::(rq a).1,(rq a).2)
     |x=>(d::(rq x).1,(rq x).2)
theorem lb(c:UInt8)(r:B):rq (c::r)=if c.toNat=39 then([],some (c::r))
  else if c.toNat≠92 then(c::(rq r).1,(rq r).2)
  else match r with
   | []=>([0],none)
   |d::r2=>
    if d.toNat≠120 then(d::(rq r2).1,(rq r2).2)
    else match r2 with
     |h::l::a=>(C8 h l::(rq a).1,(rq a).2)
     |x=>(d::(rq x).1,(rq x).2):=by
 rw[rq.eq_def]<;>rfl
theorem Cv{c:UInt8}{n:Nat}(h:unhex c=some n):MW c=n:=by
 unfold unhex at h;unfold MW;split at h
 .next a=>
  rw[az a];have:=ey.1 a;have:=ae h;omega
 .grind
theorem Nq(c:UInt8):C8 (ll (c.toNat/16)) (ll (c.toNat%16))=c:=by
 have a:c.toNat<256:=c.toNat_lt;unfold C8;rw[Cv (oL (show c.toNat/16<16 by omega)),Cv (oL (show c.toNat%16<16 by omega))];have e:((16*((c.toNat/16:Nat):Int)+((c.toNat%16:Nat):Int))%256).toNat=c.toNat:=by omega
 rw[e];exact vq
theorem Yt(c:UInt8)(s:B):rq (uN c++s)=(c::(rq s).1,(rq s).2):=by
 unfold uN;split
 .grind[rq,lb]
 .next h=>
  split
  .show rq (92::120::ll (c.toNat/16)::ll (c.toNat%16)::s)=_;rw[lb];rw[ai (by decide),ai (by decide)];simp only;rw[ai (by decide),Nq]
  .grind[rq,lb]
theorem Uv:∀(a r:B),rq (mh a++39::r)=(a,some (39::r))
 | [],r=>by
   show rq (39::r)=_;rw[lb,az (by decide)]
 |c::a,r=>by
  have e:mh (c::a)++39::r=uN c++(mh a++39::r):=by simp[mh]
  rw[e,Yt,Uv a r]
section
variable{l:B}{f p:Nat}{c d h k:UInt8}{acc:B}
def rF(l:B)(f p:Nat)(acc:B):Prop:=f+1<=p/\((p<=l.length/\rq (l.drop (f+1))=(acc++(rq (l.drop p)).1,(rq (l.drop p)).2))\/(p=l.length+1/\(rq (l.drop (f+1))).2=none))
theorem Rl(a:f<l.length):rF l f (f+1) []:=⟨aX _,.inl ⟨a,by simp⟩⟩
theorem Bt(q:rF l f p acc)(a:l[p]? =some c):rq (l.drop (f+1))=(acc++(rq (l.drop p)).1,(rq (l.drop p)).2):=by
 obtain⟨-,h|h⟩:=q
 .exact h.2
 .have:=jE a;omega
theorem Yv(q:rF l f p acc)(a:l[p]? =some c)(A:c.toNat≠39)(I:c.toNat≠92):rF l f (p+1) (acc++[c]):=by refine⟨by have:=q.1;omega,.inl ⟨jE a,?_⟩⟩;rw[Bt q a,bO a,lb,ai A,az I];simp
theorem Yu(q:rF l f p acc)(a:l[p]? =some c)(A:c.toNat=92)(b:l[p+1]? =some d)(I:d.toNat≠120\/l.length<p+4):rF l f (p+2) (acc++[d]):=by
 refine⟨by have:=q.1;omega,.inl ⟨jE b,?_⟩⟩;rw[Bt q a,bO a,lb,ai (by omega),ai (by omega),bO b];simp only;by_cases W:d.toNat≠120
 .rw[az W];simp
 .grind[C8,rq,List.length_drop]
theorem Yw(q:rF l f p acc)(a:l[p]? =some c)(A:c.toNat=92)(b:l[p+1]? =some d)(I:d.toNat=120)(hh:l[p+2]? =some h)(Z:l[p+3]? =some k):rF l f (p+4) (acc++[C8 h k]):=by refine⟨by have:=q.1;omega,.inl ⟨jE Z,?_⟩⟩;rw[Bt q a,bO a,lb,ai (by omega),ai (by omega),bO b];simp only;rw[ai (by omega),bO (show l[p+1+1]? =some h from hh),bO (show l[p+1+1+1]? =some k from Z)];simp
theorem Ux(q:rF l f p acc)(a:l[p]? =some c)(A:c.toNat=92)(b:l.length<=p+1):rF l f (p+2) (acc++[0]):=by have:=jE a;refine⟨by have:=q.1;omega,.inr ⟨by omega,?_⟩⟩;rw[Bt q a,bO a,lb,ai (by omega),ai (by omega),oj b]
theorem Yx(q:rF l f p acc)(a:l[p]? =some c)(A:c.toNat=39):rq (l.drop (f+1))=(acc,some (l.drop p)):=by rw[Bt q a,bO a,lb,az A];simp
theorem Uw(q:rF l f p acc)(b:l.length<=p):∀a c r,rq (l.drop (f+1))≠(a,some (c::r)):=λa c r e=>by
 obtain⟨-,h|h⟩:=q
 .rw[h.2,oj b]at e;simp[rq]at e
 .rw[e]at h;cases h.2
theorem Ou(b:∀a r,rq (l.drop (f+1))=(a,some (39::r))->a.length<=64->plain a=false->l.drop f=quote a++r->False):bI (l.drop f)=none:=by
 cases Y:bI (l.drop f)with
 |none=>rfl
 |some x=>
  obtain⟨t,r⟩:=x;obtain⟨a,rfl,A,I,W⟩:=mL.1 Y;refine(b a r ?_ A I W).elim;have e:l.drop (f+1)=(l.drop f).drop 1:=by rw[zM]
  rw[e,W];simp only[quote,jG,List.drop_succ_cons,rN,jI,ij];exact Uv a r
theorem a5y(q:rF l f p acc)(a:l[p]? =some c)(A:c.toNat=39)(I:acc.length<=64)(W:plain acc=false)(D:quote acc=(l.take (p+1)).drop f):bI (l.drop f)=some (.mk 2 0 acc [],l.drop (p+1)):=by have b:=jE a;refine mL.2 ⟨acc,rfl,I,W,?_⟩;rw[D];have:=q.1;rw[<-Fy (by rw[cG];omega),zX]
theorem a5z(q:rF l f p acc)(b:l[p]? =some c)(A:c.toNat=39)(d:acc.length<=64->plain acc=false->quote acc=(l.take (p+1)).drop f->False):bI (l.drop f)=none:=by
 have g:=jE b;refine Ou λa r e I W D=>?_
 rw[Yx q b A]at e;simp only[bK,ar]at e;obtain⟨rfl,e⟩:=e;rw[bO b]at e;simp only[nb]at e;obtain⟨-,rfl⟩:=e;refine d I W ?_;have:=q.1;have h5:l.drop f=(l.take (p+1)).drop f++l.drop (p+1):=by rw[<-Fy (by rw[cG];omega),zX]
 rw[h5]at D;exact(List.append_cancel_right D).symm
theorem Ys(q:rF l f p acc)(b:l.length<=p):bI (l.drop f)=none:=Ou λa r e _ _ _=>Uw q b a 39 r e
end
theorem Rw:∀c:Fin 256,plain [97,UInt8.ofNat c.val]=letter (UInt8.ofNat c.val):=by decide+kernel
theorem OS(c:UInt8):plain [97,c]=letter c:=by
 have h:=Rw ⟨c.toNat,c.toNat_lt⟩
 rwa [show UInt8.ofNat c.toNat=c from vq]at h
end Go.Proofs.YtokipodjggomfaaGreatDoor.Txt
namespace Go.Proofs.YtokipodjggomfaaGreatDoor.Txt
open Go Go.Proofs.YtokipodjggomfaaGreatDoor.Abs Go.Lib
def iO:Option Dt->Int
 |some (.val (.int _ n))=>n
 |_=>0
def sO:Option Dt->B
 |some (.val (.string s))=>s.data.toList
 |_=>[]
def cO:Option Dt->B
 |some (.ls _ J)=>(jq J).getD []
 |_=>[]
def dO:Option Dt->Dt
 |some d=>d
 |none=>.val .nilFunc
def tI(o:Option Dt):Prop:=o=some (iv (iO o))
def tU(o:Option Dt):Prop:=o=some (uv (iO o))
def tS(o:Option Dt):Prop:=o=some (sv (sO o))
def tC(o:Option Dt):Prop:=o=some (bd (cO o))
def tD(o:Option Dt):Prop:=o=some (dO o)
theorem Sj{k:IntKind}{n:Int}:iO (some (.val (.int k n)))=n:=rfl
theorem Ri{s:B}:sO (some (sv s))=s:=rfl
theorem KS{s:B}:cO (some (bd s))=s:=by simp only[cO,kI,fu]
theorem sP{d:Dt}:dO (some d)=d:=rfl
theorem LB{n:Int}:tI (some (iv n))=True:=by simp[tI,iO]
theorem Lz{n:Int}:tU (some (uv n))=True:=by simp[tU,iO]
theorem LA{s:B}:tS (some (sv s))=True:=by simp[tS,sO]
theorem T7{s:B}:tC (some (bd s))=True:=by simp[tC,KS]
theorem qc{d:Dt}:tD (some d)=True:=by simp[tD,dO]
def gi(E:G)(n:Nat):Int:=iO (aj E (.var n))
def gs(E:G)(n:Nat):B:=sO (aj E (.var n))
def gc(E:G)(n:Nat):B:=cO (aj E (.var n))
def gd(E:G)(n:Nat):Dt:=dO (aj E (.var n))
section
variable{E:G}{n:Nat}
theorem v_i:iO (aj E (.var n))=gi E n:=rfl
theorem v_s:sO (aj E (.var n))=gs E n:=rfl
theorem v_c:cO (aj E (.var n))=gc E n:=rfl
theorem v_d:dO (aj E (.var n))=gd E n:=rfl
theorem w_i:tI (aj E (.var n))=(aj E (.var n)=some (iv (gi E n))):=rfl
theorem w_u:tU (aj E (.var n))=(aj E (.var n)=some (uv (gi E n))):=rfl
theorem w_s:tS (aj E (.var n))=(aj E (.var n)=some (sv (gs E n))):=rfl
theorem w_c:tC (aj E (.var n))=(aj E (.var n)=some (bd (gc E n))):=rfl
theorem w_d:tD (aj E (.var n))=(aj E (.var n)=some (gd E n)):=rfl
end
def Nw(E:G):List Fact->Prop
 | []=>True
 |f::l=>f.holds E/\Nw E l
def sM(E:G):List Fact->Prop
 | []=>True
 | .rel nm false p a::l=>(Fact.rel nm false p a).holds E/\sM E l
 |_::l=>sM E l
theorem Ih{E:G}:∀{l:List Fact},(∀f∈l,f.holds E)->Nw E l
 | [],_=>trivial
 |f::l,h=>⟨h f aV,Ih λg a=>h g (bk _ a)⟩
theorem Ga{E:G}:∀{l:List Fact},(∀f∈l,f.holds E)->sM E l
 | [],_=>trivial
 |f::l,h=>by
  have c:=Ga λg d=>h g (bk _ d)
  cases f with
  |rel nm b p a=>
   cases b with
   |true=>exact c
   |false=>exact⟨h _ aV,c⟩
  |_=>exact c
section
variable{E:G}{f:Fact}{l:List Fact}{nm:String}{p:List Dt->Prop}{a:List SE}{e n:SE}
theorem a1M:Nw E []=True:=rfl
theorem Xm:Nw E (f::l)=(f.holds E/\Nw E l):=rfl
theorem a1h:sM E []=True:=rfl
theorem a1f:sM E (.rel nm false p a::l)=((Fact.rel nm false p a).holds E/\sM E l):=rfl
theorem a1g:sM E (.rel nm true p a::l)=sM E l:=rfl
theorem a5I:sM E (.tr e::l)=sM E l:=rfl
theorem a5J:sM E (.fl e::l)=sM E l:=rfl
theorem a1i:sM E (.inr e n::l)=sM E l:=rfl
def inO:Option Dt->Option Dt->Prop
 |some (.val (.int _ a)),some (.val (.int .i64 m))=>0<=a/\a<m
 |_,_=>False
theorem Ko{k:IntKind}{a m:Int}:inO (some (.val (.int k a))) (some (iv m))=(0<=a/\a<m):=rfl
theorem Wb:Fact.holds E (.inr e n)=inO (aj E e) (aj E n):=by
 apply propext;show(∃k a m,aj E e=some (.val (.int k a))/\aj E n=some (.val (.int .i64 m))/\0<=a/\a<m)↔_;constructor
 .rintro⟨k,a,m,A,I,W⟩;rw[A,I];exact W
 .intro h;unfold inO at h;split at h
  .rename_i A I;exact⟨_,_,_,A,I,h⟩
  .exact h.elim
theorem a1v{nm:String}:Fact.holds E (.rel nm true dk [e])=¬aj E e=some (.val (.bool true)):=propext (not_congr Gb)
theorem a1x{nm:String}:Fact.holds E (.rel nm true pFl [e])=¬aj E e=some (.val (.bool false)):=propext (not_congr LX)
theorem a1w{nm:String}:Fact.holds E (.rel nm true ee [e,n])=¬inO (aj E e) (aj E n):=by have:Fact.holds E (.rel nm true ee [e,n])=¬(Fact.inr e n).holds E:=propext (not_congr BE);rw[this,Wb]
end
section
variable{E:G}{nm:String}{e:SE}{k:IntKind}
theorem Pu{k:Kd}:Fact.holds E (.rel nm false (bM k) [e])=∃d,aj E e=some d/\k.fits d:=by
 apply propext;constructor
 .rintro⟨l,h,d,rfl,A⟩;have h:(aj E e).bind (λd=>(some []).map λr=>d::r)=some [d]:=h;cases a:aj E e with
  |none=>rw[a]at h;cases h
  |some x=>rw[a]at h;injection h with h;injection h with h;exact⟨x,rfl,h▸A⟩
 .rintro⟨d,h,A⟩;refine⟨[d],?_,d,rfl,A⟩;show(aj E e).bind (λd=>(some []).map λr=>d::r)=some [d];rw[h]<;>rfl
theorem k_i:Fact.holds E (.rel nm false (bM (.int .i64)) [e])=tI (aj E e):=by
 rw[Pu];apply propext;constructor
 .rintro⟨d,h,n,rfl⟩;rw[h,LB];trivial
 .intro h;exact⟨_,h,_,rfl⟩
theorem k_u:Fact.holds E (.rel nm false (bM (.int .u8)) [e])=tU (aj E e):=by
 rw[Pu];apply propext;constructor
 .rintro⟨d,h,n,rfl⟩;rw[h,Lz];trivial
 .intro h;exact⟨_,h,_,rfl⟩
theorem k_s:Fact.holds E (.rel nm false (bM .str) [e])=tS (aj E e):=by
 rw[Pu];apply propext;constructor
 .rintro⟨d,h,s,rfl⟩;rw[h];exact(LA (s:=s.data.toList)).mpr trivial
 .intro h;exact⟨_,h,_,rfl⟩
theorem Zq{t:TypeId}:Fact.holds E (.rel nm false (bM (.sl t)) [e])=(tD (aj E e)/\Kd.fits (.sl t) (dO (aj E e))):=by
 rw[Pu];apply propext;constructor
 .rintro⟨d,h,A⟩;rw[h];exact⟨rfl,A⟩
 .intro h;exact⟨_,h.1,h.2⟩
end
def Q1(p:Prop):Prop:=p
theorem bR{E:G}{x:SE}{l:List SE}{ds:List Dt}:gZ E (x::l)=some ds↔∃d r,aj E x=some d/\gZ E l=some r/\ds=d::r:=by show(aj E x).bind (λd=>(gZ E l).map λr=>d::r)=some ds↔_;cases aj E x<;>cases gZ E l<;>simp[eq_comm]
theorem dJ{E:G}{ds:List Dt}:gZ E []=some ds↔ds=[]:=by show some []=some ds↔_;simp[eq_comm]
inductive Sh|i|u|s|c|d
abbrev Sh.T:Sh->Type| .i=>Int| .u=>Int| .s=>B| .c=>B| .d=>Dt
def Sh.mk:(k:Sh)->k.T->Dt| .i,a=>iv a| .u,a=>uv a| .s,a=>sv a| .c,a=>bd a| .d,a=>a
def Sh.ok:Sh->Option Dt->Prop| .i=>tI| .u=>tU| .s=>tS| .c=>tC| .d=>tD
def Sh.rd:(k:Sh)->Option Dt->k.T| .i,o=>iO o| .u,o=>iO o| .s,o=>sO o| .c,o=>cO o| .d,o=>dO o
abbrev E9:List Sh->Type| []=>Prop| .i::l=>Int->E9 l| .u::l=>Int->E9 l| .s::l=>B->E9 l| .c::l=>B->E9 l| .d::l=>Dt->E9 l
def XC{l:List Sh}:(k:Sh)->E9 (k::l)->k.T->E9 l| .i,q,a=>q a| .u,q,a=>q a| .s,q,a=>q a| .c,q,a=>q a| .d,q,a=>q a
def pS:(l:List Sh)->E9 l->PD| [],q,L=>L=[]/\q|k::l,q,L=>∃a r,L=k.mk a::r/\pS l (XC k q a) r
def oks(E:G):List Sh->List SE->Prop| [],[]=>True|k::l,e::J=>k.ok (aj E e)/\oks E l J|_,_=>False
def dc(E:G):(l:List Sh)->E9 l->List SE->Prop| [],q,[]=>q|k::l,q,e::J=>k.ok (aj E e)/\dc E l (XC k q (k.rd (aj E e))) J|_,_,_=>False
theorem a1b{k:Sh}{a:k.T}:k.ok (some (k.mk a))/\k.rd (some (k.mk a))=a:=by
 cases k with
 |c=>exact⟨T7.mpr trivial,KS⟩
 |_=>exact⟨by simp[Sh.ok,Sh.mk,tI,tU,tS,tD,iO,sO,dO],rfl⟩
theorem a5r{k:Sh}{o:Option Dt}(h:k.ok o):o=some (k.mk (k.rd o)):=by cases k<;>exact h
theorem a3m{E:G}:∀(l:List Sh)(q:E9 l)(J:List SE),(∃ds,gZ E J=some ds/\pS l q ds)↔dc E l q J
 | [],q,[]=>⟨λ⟨_,_,_,h⟩=>h,λh=>⟨[],rfl,rfl,h⟩⟩
 | [],q,e::J=>⟨λ⟨ds,h,A,_⟩=>(by obtain⟨_,_,_,_,h⟩:=bR.1 h;rw[h]at A;cases A),λh=>False.elim h⟩
 |k::l,q,[]=>⟨λ⟨ds,h,a,r,A,_⟩=>(by rw[dJ.1 h]at A;cases A),λh=>False.elim h⟩
 |k::l,q,e::J=>by
  constructor
  .rintro⟨ds,h,a,r,rfl,A⟩;obtain⟨d,c,g,h,b⟩:=bR.1 h;injection b with e1 e2;subst e1;subst e2;refine⟨by rw[g];exact a1b.1,?_⟩;rw[g,a1b.2];exact(a3m l (XC k q a) J).1 ⟨_,h,A⟩
  .rintro⟨h,A⟩;obtain⟨r,I,W⟩:=(a3m l (XC k q (k.rd (aj E e))) J).2 A;exact⟨_,bR.2 ⟨_,_,a5r h,I,rfl⟩,_,_,rfl,W⟩
theorem h_S{E:G}{nm:String}{l:List Sh}{q:E9 l}{J:List SE}:Fact.holds E (.rel nm false (pS l q) J)=dc E l q J:=propext (a3m l q J)
theorem Va{E:G}:∀{l:List Sh}{q:E9 l}{J:List SE},dc E l q J->oks E l J
 | [],_,[],_=>trivial
 |_::_,_,_::_,h=>⟨h.1,Va h.2⟩
theorem x_S{E:G}{nm:String}{l:List Sh}{q:E9 l}{J:List SE}:Fact.holds E (.rel nm false (pS l q) J)=(oks E l J/\Q1 (dc E l q J)):=h_S.trans (propext ⟨λh=>⟨Va h,h⟩,λh=>h.2⟩)
theorem n_S{E:G}{nm:String}{l:List Sh}{q:E9 l}{J:List SE}:Fact.holds E (.rel nm true (pS l q) J)=¬dc E l q J:=by rw[<-h_S (nm:=nm)]<;>rfl
section
variable{E:G}{k:Sh}{l:List Sh}{e:SE}{J:List SE}{o:Option Dt}
theorem a6x{q:Prop}:dc E [] q []=q:=rfl
theorem a6y{q:E9 (k::l)}:dc E (k::l) q (e::J)=(k.ok (aj E e)/\dc E l (XC k q (k.rd (aj E e))) J):=rfl
theorem a5Q:oks E [] []=True:=rfl
theorem a5R:oks E (k::l) (e::J)=(k.ok (aj E e)/\oks E l J):=rfl
theorem Yg:Sh.ok .i o=tI o:=rfl
theorem Ye:Sh.ok .u o=tU o:=rfl
theorem Yf:Sh.ok .s o=tS o:=rfl
theorem Yi:Sh.ok .c o=tC o:=rfl
theorem Yh:Sh.ok .d o=tD o:=rfl
theorem a7a{q:Int->E9 l}{a:Int}:XC .i q a=q a:=rfl
theorem a68{q:Int->E9 l}{a:Int}:XC .u q a=q a:=rfl
theorem a69{q:B->E9 l}{a:B}:XC .s q a=q a:=rfl
theorem a7c{q:B->E9 l}{a:B}:XC .c q a=q a:=rfl
theorem a7b{q:Dt->E9 l}{a:Dt}:XC .d q a=q a:=rfl
theorem a5n:(Sh.rd .i o:Int)=iO o:=rfl
theorem a5l:(Sh.rd .u o:Int)=iO o:=rfl
theorem a5m:(Sh.rd .s o:B)=sO o:=rfl
theorem a5p:(Sh.rd .c o:B)=cO o:=rfl
theorem a5o:(Sh.rd .d o:Dt)=dO o:=rfl
end
end Go.Proofs.YtokipodjggomfaaGreatDoor.Txt
namespace Go.Proofs.YtokipodjggomfaaGreatDoor.Txt
open Go Go.Proofs.YtokipodjggomfaaGreatDoor.Abs
mutual
def rep(T:TypeId):Tm->List Dt->Prop
 | .mk k n s l,ds=>∃(a:Option Addr)(c:Nat)(J:List Dt),ds=[iv k,iv n,sv s,.sl (.slice a l.length c) T 4 J]/\(a=none->l.length=0/\c=0)/\eF T l J
def eF(T:TypeId):List Tm->List Dt->Prop
 | [],J=>J=[]
 |t::l,J=>∃c r,J=c++r/\rep T t c/\eF T l r
end
variable{T:TypeId}
theorem lf{t:Tm}{c:List Dt}(h:rep T t c):c.length=4:=by
 cases t with
 |mk k n s l=>unfold rep at h;obtain⟨a,c,J,rfl, -⟩:=h;rfl
theorem jb:∀{l:List Tm}{J:List Dt},eF T l J->J.length=l.length*4
 | [],J,h=>by unfold eF at h;subst h;rfl
 |t::l,J,h=>by
  unfold eF at h;obtain⟨c,r,rfl,A,I⟩:=h;rw[bL,lf A,jb I,bZ];omega
theorem qF:∀{l m:List Tm}{a b:List Dt},eF T l a->eF T m b->eF T (l++m) (a++b)
 | [],m,a,b,A,I=>by unfold eF at A;subst A;exact I
 |t::l,m,a,b,A,I=>by
  unfold eF at A;obtain⟨c,r,rfl,W,D⟩:=A;show eF T (t::(l++m)) (c++r++b);unfold eF;exact⟨c,r++b,by rw[jI],W,qF D I⟩
theorem vY{t:Tm}{c:List Dt}(h:rep T t c):eF T [t] c:=by unfold eF;exact⟨c,[],by simp,h,by unfold eF;rfl⟩
theorem Rn{l:List Tm}{t:Tm}{a c:List Dt}(A:eF T l a)(I:rep T t c):eF T (l++[t]) (a++c):=qF A (vY I)
theorem BD:∀{l:List Tm}{J:List Dt},eF T l J->∀(i:Nat)(t:Tm),l[i]? =some t->∃c,rep T t c/\∀j d,c[j]? =some d->J[i*4+j]? =some d
 | [],J,h,i,t,V=>by cases V
 |u::l,J,h,i,t,V=>by
  unfold eF at h;obtain⟨c,r,rfl,A,I⟩:=h;have f:=lf A;cases i with
  |zero=>
   simp only[cr,ar]at V;subst V;refine⟨c,A,λj d a=>?_⟩;have b:j<c.length:=by grind
   rw[kx,du,Aa b];exact a
  |succ i=>
   obtain⟨c',W,D⟩:=BD I i t (by simpa using V);refine⟨c',W,λj d a=>?_⟩;rw[A4 (by omega),f];have e:(i+1)*4+j-4=i*4+j:=by omega
   rw[e];exact D j d a
end Go.Proofs.YtokipodjggomfaaGreatDoor.Txt
namespace Go.Proofs.YtokipodjggomfaaGreatDoor.Txt
open Go.Lib
def dg(s:B):B:=match s with
 | []=>[]
 |c::r=>if c=45 then r else c::r
theorem ZY{u:B}{c:UInt8}(h:c≠45\/u≠[]):dg (u++[c])=dg u++[c]:=by
 cases u with
 |nil=>have h:c≠45:=h.resolve_right (λh=>h rfl);simp[dg,h]
 |cons x r=>simp only[dg,jG];split<;>simp
theorem Sy{u v:B}(h:u≠[]):dg (u++v)=dg u++v:=by
 cases u with
 |nil=>exact absurd rfl h
 |cons x r=>simp only[dg,jG];split<;>simp
theorem TX(a b:B):val a<=val (a++b):=by
 have key:∀(b:B)(n:Nat),n<=b.foldl (λa c=>a*10+(c.toNat-48)) n:=by
  intro b;induction b with
  |nil=>intro n;exact aX _
  |cons c b d=>intro n;exact gn (by omega) (d (n*10+(c.toNat-48)))
 unfold val;rw[List.foldl_append];exact key b _
theorem ZZ(m:Int):dg (itoa m)=decDigits m.natAbs:=by
 unfold itoa;split
 .simp[dg]
 .next h=>
  obtain⟨c,q,b,a,d⟩:=xo m.toNat;have e:m.toNat=m.natAbs:=by omega
  rw[e]at b ⊢;rw[b];have:c≠45:=λe=>by rw[e]at a;exact absurd a (by decide)
  simp[dg,this]
theorem ID(m:Int):val (dg (itoa m))=m.natAbs:=by rw[ZZ];exact FE _ _ (aX _)
theorem Qf:∀(j k:Nat),k<10^(j+1)->(decDigits k).length<=j+1
 |j,k,h=>by
  rw[decDigits_eq];split
  .simp
  .next Z=>
   cases j with
   |zero=>simp at h;omega
   |succ j=>rw[bL];have:=Qf j (k/10) (by rw[Nat.pow_succ]at h;omega);simp only[bZ,dv];omega
theorem Cr{m:Int}(h:m.natAbs<=576460752303423488):(itoa m).length<=19:=by
 have A:=Qf 17 m.natAbs (Nat.lt_of_le_of_lt h (by decide));unfold itoa;split
 .simp only[bZ];omega
 .grind
theorem Lw:∀(l:B)(c:UInt8),c∈l.takeWhile digit->digit c=true
 | [],c,h=>by cases h
 |x::l,c,h=>by
  rw[List.takeWhile_cons]at h;split at h
  .next Y=>
   cases h with
   |head=>exact Y
   |tail _ h=>exact Lw l c h
  .cases h
theorem Oj(l:B):l.take (l.takeWhile digit).length=l.takeWhile digit:=(List.prefix_iff_eq_take.1 (List.takeWhile_prefix digit)).symm
theorem run_shape(X:B):∃ds:B,(∀c∈ds,digit c=true)/\(X.take (run X)=ds\/X.take (run X)=45::ds):=by
 cases X with
 |nil=>exact⟨[],(λc h=>nomatch h),.inl rfl⟩
 |cons c r=>
  unfold run;simp only;split
  .next h=>
   refine⟨r.takeWhile digit,Lw r,.inr ?_⟩;rw[Nat.add_comm,Fm,Oj];congr 1;exact fX.1 h
  .exact⟨(c::r).takeWhile digit,Lw _,.inl (Oj _)⟩
section
variable{l:B}{f p i:Nat}{c:UInt8}{n least most:Int}
theorem a09(h:h2 l f p)(V:i<=p):(l.take i).drop f=((l.drop f).take (run (l.drop f))).take (i-f):=by obtain⟨A,I,W⟩:=h;rw[vi,List.take_take,vl (by omega)]
theorem N1(h:h2 l f p):∃ds:B,(∀c∈ds,digit c=true)/\((l.take p).drop f=ds\/(l.take p).drop f=45::ds)/\((l.take p).drop f).length=p-f:=by
 have b:((l.take p).drop f).length=p-f:=by obtain⟨A,I, -⟩:=h;rw[eT,cG];omega
 obtain⟨ds,d,D⟩:=run_shape (l.drop f);have e:=a09 h (aX p);rcases D with D|D
 .rw[D]at e;exact⟨ds.take (p-f),λc a=>d c (List.mem_of_mem_take a),.inl e,b⟩
 .rw[D]at e;cases Z:p-f with
  |zero=>rw[Z]at e;exact⟨[],(λc a=>nomatch a),.inl (by rw[e]<;>rfl),by rw[e]<;>rfl⟩
  |succ k=>rw[Z,Fm]at e;exact⟨ds.take k,λc a=>d c (List.mem_of_mem_take a),.inr e,by rw[<-Z];exact b⟩
theorem a5j(h:h2 l f p)(a:f<=i)(V:i<p)(b:l[i]? =some c):(c=45/\i=f)\/digit c=true:=by
 have d:((l.take p).drop f)[i-f]? =some c:=by grind
 obtain⟨ds,e,D|D, -⟩:=N1 h
 .grind
 .grind
def ks(l:B)(f p i:Nat)(n:Int):Prop:=h2 l f p/\p<=f+20/\f<=i/\i<=p/\n= -(val (dg ((l.take i).drop f)):Int)/\cM<=n
theorem Uq(h:h2 l f p)(a:p<=f+20):ks l f p f 0:=by refine⟨h,a,aX _,h.1,?_,by decide⟩;rw[show(l.take f).drop f=[]from ql (by rw[cG];omega)];rfl
theorem Ur(h:ks l f p i n)(V:i<p)(a:l[i]? =some 45):ks l f p (i+1) n:=by
 obtain⟨A,I,W,D,h5,h6⟩:=h;rcases a5j A W V a with⟨-,rfl⟩|b
 .refine⟨A,I,by omega,by omega,?_,h6⟩;have e:(l.take i).drop i=[]:=ql (by rw[cG];omega);rw[e]at h5;rw[oi (aX _) a,e,h5]<;>rfl
 .exact absurd b (by decide)
theorem Ot(h:ks l f p i n)(b:l[i]? =some c)(a:c≠45):(val (dg ((l.take (i+1)).drop f)):Int)= -(10*n-(c.toNat-48:Nat)):=by obtain⟨A,I,W,D,h5,h6⟩:=h;rw[oi W b,ZY (.inl a),vH];omega
theorem Ut(h:ks l f p i n)(V:i<p)(b:l[i]? =some c)(a:c≠45)(d:cM<=10*n-(c.toNat-48:Nat)):ks l f p (i+1) (10*n-(c.toNat-48:Nat)):=by have e:=Ot h b a;obtain⟨A,I,W,D,h5,h6⟩:=h;exact⟨A,I,by omega,by omega,by omega,d⟩
theorem Yo(h:ks l f p i n)(V:i<p)(b:l[i]? =some c)(a:c≠45)(j:cM<=least)(k:most<=dS)(o:10*n-(c.toNat-48:Nat)<cM):dt least most (l.drop f)=none:=by
 have e:=Ot h b a;obtain⟨A,I,W,D,h5,h6⟩:=h;cases Y:dt least most (l.drop f)with
 |none=>rfl
 |some x=>
  obtain⟨m,r⟩:=x;obtain⟨g1,g2,g3,g4⟩:=jO Y;have q:(l.take (i+1)).drop f=(itoa m).take (i+1-f):=by grind[a09]
  have d:(l.take (i+1)).drop f≠[]:=by rw[oi W b];simp
  have g:val (dg ((l.take (i+1)).drop f))<=val (dg (itoa m)):=by grind[Sy,TX,List.take_append_drop]
  rw[ID]at g;unfold cM at *;unfold dS at *;omega
def zH(l:B)(f p:Nat):Prop:=(∀c,l[p]? =some c->digit c=false)\/p=f+20
def a8w(l:B)(f p:Nat)(n m:Int):Prop:=(f<p/\l[f]? =some 45/\m=n)\/((f=p\/l[f]? ≠some 45)/\m= -n)
theorem a5v{m:Int}(h:ks l f p p n)(a:zH l f p)(b:itoa m=(l.take p).drop f)(A:least<=m)(I:m<=most)(d:cM<=least)(e:most<=dS):dt least most (l.drop f)=some (m,l.drop p):=by
 obtain⟨g1,g2,g3,g4,g5,g6⟩:=h;unfold cM at *;unfold dS at *;have c:atoiAll ((l.take p).drop f)=.ok m:=by rw[<-b];exact sJ (by omega) (by omega)
 rcases a with a|a
 .exact ya g1 a c b A I
 .grind[N1,Cr]
theorem a5w{m:Int}(h:ks l f p p n)(j:zH l f p)(t:a8w l f p n m)(u:cM<=least)(v:most<=dS)(w:itoa m=(l.take p).drop f->least<=m->m<=most->False):dt least most (l.drop f)=none:=by
 obtain⟨g1,g2,g3,g4,g5,g6⟩:=h;cases Y:dt least most (l.drop f)with
 |none=>rfl
 |some x=>
  obtain⟨q,r⟩:=x;obtain⟨y,z,A,B⟩:=jO Y;have C:q.natAbs<=576460752303423488:=by unfold cM at u;unfold dS at v;omega
  have s:=Cr C;have k:(l.take p).drop f=itoa q:=by
   rcases j with j|j
   .rw[<-(B6 g1 j).1,B,y,List.take_left]
   .have:=g1.2.2;omega
  have F:(val (dg ((l.take p).drop f)):Int)=q.natAbs:=by rw[k,ID]
  have e:(f<p/\l[f]? =some 45)↔q<0:=by
   have b:f<p->l[f]? =(itoa q)[0]? :=λd=>by
    rw[<-k,oD,qk,az (by omega),hx]
   constructor
   .rintro⟨d,a⟩;rw[b d]at a;unfold itoa at a;split at a
    .assumption
    .obtain⟨c,G,D,g,E⟩:=xo q.toNat;rw[D]at a;simp only[cr,ar]at a;rw[a]at g;exact absurd g (by decide)
   .intro i;have d:f<p:=by grind[Cq]
    refine⟨d,?_⟩;rw[b d];unfold itoa;rw[az i]<;>rfl
  have o:m=q:=by
   rcases t with⟨s1,s2,rfl⟩|⟨s1,rfl⟩
   .have:=e.1 ⟨s1,s2⟩;omega
   .grind
  subst o;exact(w k.symm z A).elim
end
end Go.Proofs.YtokipodjggomfaaGreatDoor.Txt
namespace Go.Proofs.YtokipodjggomfaaGreatDoor.Txt
open Go Go.Proofs.YtokipodjggomfaaGreatDoor.Abs
variable{T:TypeId}{K:TypeId->List Kd}
theorem Q4{k n:Int}{s:B}{m:Nat}(h:wf1 k n s m)(a:k=9\/m<=64):b4 k n s.length m:=by
 unfold wf1 cM dS aZ at h;unfold b4;rcases h with⟨rfl,A,I,rfl,rfl⟩|⟨rfl,rfl,A,rfl⟩|⟨b,A,I,rfl,rfl⟩|⟨rfl,A,I,rfl⟩|⟨rfl,rfl,rfl⟩|⟨rfl,rfl,rfl,rfl⟩|⟨rfl,rfl,rfl,rfl⟩
 .exact .inl ⟨rfl,A,I,rfl,rfl⟩
 .exact .inr (.inl ⟨rfl,rfl,A,rfl⟩)
 .grind
 .grind
 .grind
 .grind
 .grind
mutual
theorem Ow:∀{t:Tm}{d0 d1 d2 d3:Dt},rep T t [d0,d1,d2,d3]->t.wf->t.fits=true->xF d0 d1 d2 d3
 | .mk k n s l,d0,d1,d2,d3,h,d,b=>by
   unfold rep at h;obtain⟨a,c,J,e, -,f⟩:=h;injection e with e0 e;injection e with e1 e;injection e with e2 e;injection e with e3 _;subst e0;subst e1;subst e2;subst e3;unfold Tm.wf at d;unfold Tm.fits at b;simp only[aw,fW,nc]at b;exact xF.iff.2 ⟨Q4 d.1 b.1,Jg f d.2 b.2⟩
theorem Jg:∀{l:List Tm}{J:List Dt},eF T l J->jx l->dQ l=true->fe J
 | [],J,h,_,_=>by unfold eF at h;subst h;exact fe.nil
 |t::l,J,h,b,a=>by
  unfold eF at h;obtain⟨c,r,rfl,A,I⟩:=h;unfold jx at b;unfold dQ at a;simp only[aw]at a;have D:=lf A
  match c,D,A with
  | [d,e,f,g],_,A=>exact fe.append (m:=1) rfl (fe.one.2 (Ow A b.1 a.1)) (Jg I b.2 a.2)
end
mutual
theorem Rm:∀{t:Tm}{a b:List Dt},rep T t a->rep T t b->hI a b
 | .mk k n s l,a,b,h,e=>by
   unfold rep at h e;obtain⟨x,c,J,rfl, -,f⟩:=h;obtain⟨g,c',j7,rfl, -,d⟩:=e;exact .cons _ _ _ _ (.val _) (.cons _ _ _ _ (.val _) (.cons _ _ _ _ (.val _) (.cons _ _ _ _ (.sl _ _ _ _ _ _ _ _ _ _ _ (uk f d)) .nil)))
theorem uk:∀{l:List Tm}{a b:List Dt},eF T l a->eF T l b->hI a b
 | [],a,b,h,d=>by unfold eF at h d;subst h;subst d;exact .nil
 |t::l,a,b,h,d=>by
  unfold eF at h d;obtain⟨c,r,rfl,A,I⟩:=h;obtain⟨c',g,rfl,e,f⟩:=d;exact(Rm A e).append (uk I f)
end
mutual
theorem Ox:∀{t:Tm}{a:List Dt},rep T t a->ca a=4*t.size
 | .mk k n s l,a,h=>by
   unfold rep at h;obtain⟨x,c,J,rfl, -,b⟩:=h;have:=BC b;simp only[ca,Lc,Tm.size];omega
theorem BC:∀{l:List Tm}{a:List Dt},eF T l a->ca a=4*sizes l
 | [],a,h=>by unfold eF at h;subst h;rfl
 |t::l,a,h=>by
  unfold eF at h;obtain⟨c,r,rfl,A,I⟩:=h;have:=Ox A;have:=BC I;rw[dA];simp only[sizes];omega
end
mutual
theorem gv:∀t:Tm,t.size<=t.words
 | .mk k n s l=>by
   have:=qv l;unfold Tm.size Tm.words;split<;>omega
theorem qv:∀l:List Tm,sizes l<=cA l
 | []=>aX _
 |t::l=>by
  have:=gv t;have:=qv l;simp only[sizes,cA];omega
end
theorem UD{t:Tm}{ds:List Dt}{B:Nat}(h:rep T t ds)(a:Dt.jx K (K T) 0 ds)(b:4*t.words<B):kO K T B ds:=by refine⟨lf h,a,?_⟩;rw[Ox h];have:=gv t;omega
mutual
theorem Oy:∀{t u:Tm}{a:List Dt},rep T t a->rep T u a->t=u
 | .mk k n s l,.mk k' g U O,a,h,d=>by
   unfold rep at h d;obtain⟨x,c,J,rfl, -,f⟩:=h;obtain⟨i,c',j7,e, -,b⟩:=d;injection e with e0 e;injection e with e1 e;injection e with e2 e;injection e with e3 _;simp only[Dt.val.injEq,iS,fw]at e0 e1;have e2:=e2;simp only[Dt.val.injEq,tX]at e2;injection e2 with e2;injection e2 with e2;injection e3 with _ _ _ e3;subst e0;subst e1;subst e2;subst e3;rw[vZ f b]
theorem vZ:∀{l m:List Tm}{a:List Dt},eF T l a->eF T m a->l=m
 | [],[],_,_,_=>rfl
 | [],u::m,a,h,d=>by grind[eF,lf,List.length_nil,List.length_append]
 |t::l,[],a,h,d=>by grind[eF,lf,List.length_nil,List.length_append]
 |t::l,u::m,a,h,d=>by
  unfold eF at h d;obtain⟨c,r,rfl,A,I⟩:=h;obtain⟨c',g,e,b,f⟩:=d;obtain⟨rfl,rfl⟩:=List.append_inj e (by rw[lf A,lf b]);rw[Oy A b,vZ I f]
end
end Go.Proofs.YtokipodjggomfaaGreatDoor.Txt
