/- Part 1 of the plain laws of the texts of the statement. Conditions: those of each theorem. -/
import Derived.Test.YtokipodjggomfaaGreatDoorAbs8
import Derived.Lib.ItoaNum
import Derived.Lib.AtoiAll
import Derived.Lib.IndexMore
import Derived.Lib.IndexLaws
noncomputable section
set_option linter.unusedVariables false
set_option linter.unusedSimpArgs false
namespace Go.Proofs.YtokipodjggomfaaGreatDoor.Txt
open Go.Lib
abbrev B:=List UInt8
inductive Tm where
 |mk (k n:Int) (s:B) (l:List Tm)
 deriving Inhabited
def Tm.k:Tm->Int| .mk k _ _ _=>k
def Tm.l:Tm->List Tm| .mk _ _ _ l=>l
def small(c:UInt8):Bool:=decide (97<=c.toNat/\c.toNat<=122)
def digit(c:UInt8):Bool:=decide (48<=c.toNat/\c.toNat<=57)
def letter(c:UInt8):Bool:=small c||decide (65<=c.toNat/\c.toNat<=90)||digit c||decide (c.toNat=95)||decide (c.toNat=64)
def words:List B:=[[97,102,116,101,114],[97,110,100],[97,110,100,97,108,115,111],[98,101,103,105,110],[99,97,115,101],[99,97,116,99,104],[100,105,118],[101,110,100],[102,117,110],[110,111,116],[111,102],[111,114],
 [111,114,101,108,115,101],[114,101,99,101,105,118,101],[114,101,109],[116,114,121],[119,104,101,110]]
def eG:B->Bool
 | []=>false
 |c::_=>small c
def plain(s:B):Bool:=eG s&&decide (s.length<=64)&&s.all letter && !words.contains s
def o0(n:Nat):UInt8:=UInt8.ofNat (if n<10 then 48+n else 87+n)
def zU(c:UInt8):B:=
 if c.toNat=39\/c.toNat=92 then [92,c]
 else if c.toNat<32\/126<c.toNat then [92,120,o0 (c.toNat/16),o0 (c.toNat%16)]
 else [c]
def qs(s:B):B:=s.flatMap zU
def quote(s:B):B:=39::(qs s++[39])
def unhex(c:UInt8):Option Nat:=
 if digit c then some (c.toNat-48)else if 97<=c.toNat/\c.toNat<=102 then some (c.toNat-87)else none
def x3:B->Option (B×B)
 | []=>none
 |c::r=>
  if c.toNat=39 then some ([],r)
  else if c.toNat≠92 then(x3 r).map λx=>(c::x.1,x.2)
  else match r with
   | []=>none
   |d::r2=>
    if d.toNat=39\/d.toNat=92 then(x3 r2).map λx=>(d::x.1,x.2)
    else if d.toNat≠120 then none
    else match r2 with
     |h::l::e=>match unhex h,unhex l with
      |some a,some b=>(x3 e).map λx=>(UInt8.ofNat (16*a+b)::x.1,x.2)
      |_,_=>none
     |_=>none
def run:B->Nat
 | []=>0
 |c::r=>if c.toNat=45 then 1+(r.takeWhile digit).length else((c::r).takeWhile digit).length
def eE(least most:Int)(s:B):Option (Int×B):=
 match atoiAll (s.take (run s))with
 | .ok n=>if itoa n=s.take (run s)/\least<=n/\n<=most then some (n,s.drop (run s))else none
 |_=>none
def iA(s:B):Option (Tm×B):=if plain (s.takeWhile letter)then some (.mk 2 0 (s.takeWhile letter) [],s.drop (s.takeWhile letter).length)else none
def cy(s:B):Option (Tm×B):=
 match x3 (s.drop 1)with
 |some (a,r)=>if a.length<=64/\plain a=false/\quote a=s.take (s.length-r.length)then some (.mk 2 0 a [],r)else none
 |none=>none
def must(p:B)(s:B):Option B:=if p.isPrefixOf s then some (s.drop p.length)else none
def bF:Int:=1073741824
def kn(k:Int)(e s:B):Option (Tm×B):=
 match eE 0 bF s with
 |some (n,r)=>(must e r).map λr2=>(.mk k n [] [],r2)
 |none=>none
def cz:List Tm->Tm->Tm
 | [],e=>e
 |t::l,e=>.mk 9 0 [] [t,cz l e]
def iQ(one:B->Option (Tm×B))(rest:B->Option (List Tm×B))(s:B):Option (List Tm×B):=
 match one s with
 |some (t,r)=>(rest r).map λx=>(t::x.1,x.2)
 |none=>none
def ml(bH:Bool)(l:List Tm):Bool:= !bH||decide (l.length<=64)
def iS(bH:Bool)(one:B->Option (Tm×B))(rest:B->Option (List Tm×B))(e s:B):Option (List Tm×B):=
 match must e s with
 |some r=>some ([],r)
 |none=>match iQ one rest s with
  |some (l,r)=>match must e r with
   |some r2=>if ml bH l then some (l,r2)else none
   |none=>none
  |none=>none
def jU(one:B->Option (Tm×B))(s:B):Option (Tm×B):=
 match must [124] s with
 |some r=>match one r with
  |some (t,r2)=>if t.k=9\/t.k=8 then none else some (t,r2)
  |none=>none
 |none=>some (.mk 8 0 [] [],s)
def gJ(one:B->Option (Tm×B))(rest:B->Option (List Tm×B))(s:B):Option (Tm×B):=
 match must [93] s with
 |some r=>some (.mk 8 0 [] [],r)
 |none=>match iQ one rest s with
  |some (l,r)=>match jU one r with
   |some (t,r2)=>(must [93] r2).map λa=>(cz l t,a)
   |none=>none
  |none=>none
def jr(bH:Bool)(rest:B->Option (List Tm×B))(s:B):Option (Tm×B):=
 match eE 0 bF s with
 |some (n,r)=>match rest r with
  |some (l,r2)=>match must [62] r2 with
   |some a=>if ml bH l then some (.mk 5 n [] l,a)else none
   |none=>none
  |none=>none
 |none=>none
def rI:B:=[35,82,101,102,60]
def uq:B:=[35,84,105,100,60]
def zk:B:=[60,48,46]
def JC:B:=[46,48,62]
def pH:B:=[35,70,117,110,60]
def dX:Int:= -576460752303423488
def fc:Int:=576460752303423487
def rS(bH:Bool)(one:B->Option (Tm×B))(rest:B->Option (List Tm×B))(s:B):Option (Tm×B):=
 match must [123] s with
 |some r=>(iS bH one rest [125] r).map λx=>(.mk 7 0 [] x.1,x.2)
 |none=>match must [91] s with
  |some r=>gJ one rest r
  |none=>match must [39] s with
   |some _=>cy s
   |none=>match must rI s with
    |some r=>kn 3 [62] r
    |none=>match must uq s with
     |some r=>kn 4 [62] r
     |none=>match must zk s with
      |some r=>kn 6 JC r
      |none=>match must pH s with
       |some r=>jr bH rest r
       |none=>if eG s then iA s else(eE dX fc s).map λx=>(.mk 1 x.1 [] [],x.2)
mutual
def pT(bH:Bool):Nat->B->Option (Tm×B)
 |0,_=>none
 |n+1,s=>rS bH (pT bH n) (jC bH n) s
def jC(bH:Bool):Nat->B->Option (List Tm×B)
 |0,s=>match must [44] s with
  |some _=>none
  |none=>some ([],s)
 |n+1,s=>match must [44] s with
  |some r=>iQ (pT bH n) (jC bH n) r
  |none=>some ([],s)
end
mutual
def Tm.size:Tm->Nat
 | .mk _ _ _ l=>1+sizes l
def sizes:List Tm->Nat
 | []=>0
 |t::l=>t.size+sizes l
end
mutual
def Tm.fits:Tm->Bool
 | .mk k _ _ l=>(decide (k=9)||decide (l.length<=64))&&e9 l
def e9:List Tm->Bool
 | []=>true
 |t::l=>t.fits&&e9 l
end
theorem td{p s r:B}(h:must p s=some r):s=p++r:=by
 unfold must at h;split at h
 .next a=>
  obtain⟨t,rfl⟩:=List.isPrefixOf_iff_prefix.1 a;rw[List.drop_left]at h;exact fo _ (ae h)
 .cases h
theorem ct{p s r:B}(h:must p s=some r):s.length=p.length+r.length:=by rw[td h,cg]
def gz{α:Type}(p:α->Bool):Option (α×B)->Option (α×B)
 |some (a,r)=>if p a then some (a,r)else none
 |none=>none
theorem tq(k n:Int)(s:B):(Tm.mk k n s []).fits=true:=by simp[Tm.fits,e9]
theorem rm:∀(l:List Tm)(e:Tm),(cz l e).fits=(e9 l&&e.fits)
 | [],e=>by simp[cz,e9]
 |t::l,e=>by simp[cz,Tm.fits,e9,rm l e,Bool.and_assoc]
section
variable{Wh C0:B->Option (Tm×B)}{Gn sZ:B->Option (List Tm×B)}(I:∀s,Wh s=gz Tm.fits (C0 s))(Y:∀s,Gn s=gz e9 (sZ s))
include I Y
theorem Hy(s:B):iQ Wh Gn s=gz e9 (iQ C0 sZ s):=by
 unfold iQ;rw[I];cases h:C0 s with
 |none=>rfl
 |some x=>
  obtain⟨t,r⟩:=x;simp only[gz];cases a:t.fits with
  |false=>
   simp only[fa,br];cases sZ r with
   |none=>rfl
   |some y=>simp[gz,e9,a]
  |true=>
   simp only[bc,Y];cases sZ r with
   |none=>rfl
   |some y=>simp only[gz,cM,e9,a,Bool.true_and];cases e9 y.1<;>simp
theorem a0N(e s:B):iS true Wh Gn e s=gz (λl=>decide (l.length<=64)&&e9 l) (iS false C0 sZ e s):=by
 unfold iS;cases must e s with
 |some r=>simp[gz,e9]
 |none=>
  simp only;rw[Hy I Y];cases iQ C0 sZ s with
  |none=>rfl
  |some x=>
   obtain⟨l,r⟩:=x;simp only[gz];cases a:e9 l with
   |false=>
    simp only[fa,br];cases must e r with
    |none=>rfl
    |some r2=>simp[ml,gz,a]
   |true=>
    simp only[bc];cases must e r with
    |none=>rfl
    |some r2=>simp[ml,gz,a]
omit Y in
theorem WN(s:B):jU Wh s=gz Tm.fits (jU C0 s):=by
 unfold jU;cases must [124] s with
 |none=>simp[gz,tq]
 |some r=>
  simp only;rw[I];cases C0 r with
  |none=>rfl
  |some x=>
   obtain⟨t,r2⟩:=x;simp only[gz];cases a:t.fits with
   |false=>by_cases hk:t.k=9\/t.k=8<;>simp[hk,gz,a]
   |true=>by_cases hk:t.k=9\/t.k=8<;>simp[hk,gz,a]
theorem WO(s:B):gJ Wh Gn s=gz Tm.fits (gJ C0 sZ s):=by
 unfold gJ;cases must [93] s with
 |some r=>simp[gz,tq]
 |none=>
  simp only;rw[Hy I Y];cases iQ C0 sZ s with
  |none=>rfl
  |some x=>
   obtain⟨l,r⟩:=x;simp only[gz];cases a:e9 l with
   |false=>
    simp only[fa,br];cases jU C0 r with
    |none=>rfl
    |some y=>simp only;cases must [93] y.2<;>simp[gz,rm,a]
   |true=>
    simp only[bc];rw[WN I];cases jU C0 r with
    |none=>rfl
    |some y=>
     obtain⟨t,r2⟩:=y;simp only[gz];cases c:t.fits with
     |false=>cases b:must [93] r2<;>simp[gz,rm,a,c,b]
     |true=>cases b:must [93] r2<;>simp[gz,rm,a,c,b]
omit I in
theorem a0M(s:B):jr true Gn s=gz Tm.fits (jr false sZ s):=by
 unfold jr;cases eE 0 bF s with
 |none=>rfl
 |some x=>
  obtain⟨n,r⟩:=x;simp only;rw[Y];cases sZ r with
  |none=>rfl
  |some y=>
   obtain⟨l,r2⟩:=y;simp only[gz];cases b:e9 l with
   |false=>cases a:must [62] r2<;>simp[ml,gz,Tm.fits,b,a]
   |true=>cases a:must [62] r2<;>simp[ml,gz,Tm.fits,b,a]
theorem a0L(s:B):rS true Wh Gn s=gz Tm.fits (rS false C0 sZ s):=by
 have num:∀(k:Int)(e s:B),kn k e s=gz Tm.fits (kn k e s):=by
  intro k e s;unfold kn;cases eE 0 bF s with
  |none=>rfl
  |some x=>simp only;cases must e x.2<;>simp[gz,tq]
 unfold rS;cases must [123] s with
 |some r=>
  simp only;rw[a0N I Y];cases iS false C0 sZ [125] r with
  |none=>rfl
  |some x=>obtain⟨l,r2⟩:=x;by_cases a:l.length<=64<;>cases b:e9 l<;>simp[gz,Tm.fits,a,b]
 |none=>
  cases must [91] s with
  |some r=>exact WO I Y r
  |none=>
   cases must [39] s with
   |some r=>
    simp only;unfold cy;cases x3 (s.drop 1)with
    |none=>rfl
    |some x=>simp only;split<;>simp[gz,tq]
   |none=>
    cases must rI s with
    |some r=>exact num _ _ _
    |none=>
     cases must uq s with
     |some r=>exact num _ _ _
     |none=>
      cases must zk s with
      |some r=>exact num _ _ _
      |none=>
       cases must pH s with
       |some r=>exact a0M Y r
       |none=>
        simp only;split
        .grind[iA,gz,tq]
        .cases eE dX fc s<;>simp[gz,tq]
end
theorem Kf:∀n,(∀s,pT true n s=gz Tm.fits (pT false n s))/\∀s,jC true n s=gz e9 (jC false n s)
 |0=>by grind[pT,gz,jC,must,e9]
 |n+1=>by
  obtain⟨I,Y⟩:=Kf n;refine⟨λs=>?_,λs=>?_⟩
  .rw[pT,pT];exact a0L I Y s
  .rw[jC,jC];cases must [44] s with
   |none=>simp[gz,e9]
   |some r=>exact Hy I Y r
theorem Sg{n:Nat}(h:n<16):(o0 n).toNat=if n<10 then 48+n else 87+n:=by unfold o0;split<;>simp[UInt8.toNat_ofNat]<;>omega
theorem ug{n:Nat}(h:n<16):unhex (o0 n)=some n:=by grind[Sg,unhex,digit]
theorem gF(c:UInt8)(r:B):x3 (c::r)=if c.toNat=39 then some ([],r)
 else if c.toNat≠92 then(x3 r).map λx=>(c::x.1,x.2)
 else match r with
  | []=>none
  |d::r2=>
   if d.toNat=39\/d.toNat=92 then(x3 r2).map λx=>(d::x.1,x.2)
   else if d.toNat≠120 then none
   else match r2 with
    |h::l::e=>match unhex h,unhex l with
     |some a,some b=>(x3 e).map λx=>(UInt8.ofNat (16*a+b)::x.1,x.2)
     |_,_=>none
    |_=>none:=by rw[x3.eq_def]<;>rfl
theorem Yh(c:UInt8)(s:B):x3 (zU c++s)=(x3 s).map λx=>(c::x.1,x.2):=by
 unfold zU;have a:c.toNat<256:=c.toNat_lt;split
 .grind[x3,gF]
 .next h=>
  split
  .show x3 (92::120::o0 (c.toNat/16)::o0 (c.toNat%16)::s)=_;rw[gF];rw[av (by decide),av (by decide)];simp only;rw[av (by decide),av (by decide)];simp only[ug (show c.toNat/16<16 by omega),ug (show c.toNat%16<16 by omega)];rw[show UInt8.ofNat (16*(c.toNat/16)+c.toNat%16)=c by
    rw[Nat.div_add_mod];exact UInt8.ofNat_toNat]
  .grind[x3,gF]
theorem Ts:∀(a r:B),x3 (qs a++39::r)=some (a,r)
 | [],r=>by
   show x3 (39::r)=_;rw[gF,aJ (by decide)]
 |c::a,r=>by
  have e:qs (c::a)++39::r=zU c++(qs a++39::r):=by simp[qs]
  rw[e,Yh,Ts a r]<;>rfl
theorem uf:∀(n:Nat)(s a r:B),s.length<=n->x3 s=some (a,r)->∃p,s=p++39::r
 |_,[],a,r,_,h=>by simp[x3]at h
 |0,_::_,_,_,h,_=>by simp at h
 |n+1,c::s,a,r,j,h=>by
  have b:s.length<=n:=by simpa using j
  rw[gF]at h;split at h
  .next k=>
   simp only[aD,cB]at h;have:c=39:=hD.1 k;exact⟨[],by rw[this,h.2]<;>rfl⟩
  .split at h
   .obtain⟨x,Z,Y⟩:=bk.1 h;simp only[cB]at Y;obtain⟨p,e⟩:=uf n s x.1 x.2 b Z;exact⟨c::p,by rw[e,Y.2]<;>rfl⟩
   .split at h
    .cases h
    .rename_i d r2;have f:r2.length<=n:=by simp at b;omega
     split at h
     .obtain⟨x,Z,Y⟩:=bk.1 h;simp only[cB]at Y;obtain⟨p,e⟩:=uf n r2 x.1 x.2 f Z;exact⟨c::d::p,by rw[e,Y.2]<;>rfl⟩
     .split at h
      .cases h
      .split at h
       .rename_i l l0 i;have g:i.length<=n:=by simp at f;omega
        split at h
        .obtain⟨x,Z,Y⟩:=bk.1 h;simp only[cB]at Y;obtain⟨p,e⟩:=uf n i x.1 x.2 g Z;exact⟨c::d::l::l0::p,by rw[e,Y.2]<;>rfl⟩
        .cases h
       .cases h
theorem qX{s:B}{t:Tm}{r:B}:cy s=some (t,r)↔∃a,t=.mk 2 0 a []/\a.length<=64/\plain a=false/\s=quote a++r:=by
 constructor
 .intro h;unfold cy at h;split at h
  .rename_i a r' b;split at h
   .next e=>
    simp only[aD,cB]at h;obtain⟨rfl,rfl⟩:=h;obtain⟨I,Y,W⟩:=e;refine⟨a,rfl,I,Y,?_⟩;rw[W];obtain⟨p,d⟩:=uf _ _ _ _ (bD _) b;cases s with
    |nil=>simp at d
    |cons c s=>
     simp only[List.drop_succ_cons,oa]at d;subst d;have:(c::(p++39::r')).length-r'.length=(c::(p++[39])).length:=by simp;omega
     rw[this,show c::(p++39::r')=(c::(p++[39]))++r' by simp,List.take_left]
   .cases h
  .cases h
 .rintro⟨a,rfl,I,Y,rfl⟩;have b:x3 ((quote a++r).drop 1)=some (a,r):=by
   show x3 ((qs a++[39])++r)=_;rw[mw];exact Ts a r
  unfold cy;rw[b];simp only;rw[aJ ⟨I,Y,by rw[cg,Nat.add_sub_cancel,List.take_left]⟩]
theorem GD:∀(l:B)(acc a:Nat)(c:UInt8),parseUint10 acc l=.ok a->48<=c.toNat->c.toNat<=57->a*10+(c.toNat-48)<18446744073709551616->parseUint10 acc (l++[c])=.ok (a*10+(c.toNat-48))
 | [],acc,a,c,h,I,Y,W=>by
   simp only[parseUint10]at h;injection h with h;subst h;simp only[fH,parseUint10];rw[aJ ⟨I,Y⟩,av (by omega),av (by omega)]
 |d::l,acc,a,c,h,I,Y,W=>by
  simp only[parseUint10]at h;simp only[kg,parseUint10];split at h
  .next b=>
   rw[aJ b];split at h
   .cases h
   .next U=>
    rw[av U];split at h
    .cases h
    .next h5=>
     rw[av h5];exact GD l _ a c h I Y W
  .cases h
theorem iT{n:Nat}(h:n<10):(UInt8.ofNat (48+n)).toNat=48+n:=by simp;omega
theorem decDigits_eq(u:Nat):decDigits u=if u<10 then [UInt8.ofNat (48+u)]else decDigits (u/10)++[UInt8.ofNat (48+u%10)]:=by rw[decDigits];split<;>rfl
theorem JO(u:Nat)(h:u<18446744073709551616):parseUint10 0 (decDigits u)=.ok u:=by
 induction u using Nat.strongRecOn with
 |ind u b=>
  rw[decDigits_eq];split
  .next a=>
   simp only[parseUint10,iT a];rw[aJ (by omega),av (by omega),av (by omega)];congr 1;omega
  .next a=>
   have e:=iT (show u%10<10 by omega);have:=GD _ 0 (u/10) (UInt8.ofNat (48+u%10)) (b (u/10) (by omega) (by omega)) (by omega) (by omega) (by omega);rw[this,e];congr 1;omega
theorem HJ(u:Nat):∀c∈decDigits u,digit c=true:=by
 induction u using Nat.strongRecOn with
 |ind u b=>
  rw[decDigits_eq];intro c a;split at a
  .grind[digit,iT]
  .grind[digit,iT]
theorem Dp(u:Nat):decDigits u≠[]:=by rw[decDigits_eq];split<;>simp
theorem B8(u:Nat):∃c r,decDigits u=c::r/\48<=c.toNat/\c.toNat<=57:=by
 cases h:decDigits u with
 |nil=>exact absurd h (Dp u)
 |cons c r=>have:=HJ u c (by rw[h];exact bB);unfold digit at this;exact⟨c,r,rfl,by simpa using this⟩
theorem xN{n:Int}(I: -9223372036854775808<=n)(Y:n<=9223372036854775807):atoiAll (itoa n)=.ok n:=by
 unfold itoa;split
 .next e=>
  have a:=JO n.natAbs (by omega);have b:=Dp n.natAbs;unfold atoiAll;simp only;rw[aJ (.inr (by decide))];unfold parseMag;rw[av b,a];simp only;rw[av (λh=>h.1 (by decide)),av (by omega),aJ (by decide)];congr 1;omega
 .next e=>
  obtain⟨c,r,d,f,g⟩:=B8 n.toNat;have a:=JO n.toNat (by omega);unfold atoiAll;rw[d];simp only;rw[av (by omega),<-d];unfold parseMag;rw[av (Dp _),a];simp only;rw[av (λh=>by omega),av (λh=>by omega),av (by omega)];congr 1;omega
theorem mE{least most n:Int}{s r:B}(h:eE least most s=some (n,r)):s=itoa n++r/\least<=n/\n<=most/\run s=(itoa n).length:=by
 unfold eE at h;split at h
 .split at h
  .next a=>
   simp only[aD,cB]at h;obtain⟨rfl,rfl⟩:=h;refine⟨by rw[a.1,List.take_append_drop],a.2.1,a.2.2,?_⟩;rw[a.1,c8];have:run s<=s.length:=by
    unfold run;split
    .exact wY _
    .split
     .have:=(List.takeWhile_sublist digit (l:=‹B›)).length_le;simp only[cD];omega
     .exact(List.takeWhile_sublist digit).length_le
   omega
  .cases h
 .cases h
def eg:B:=32::words.flatMap λw=>w++[32]
theorem F1{s t:B}(a:∀c∈s,c≠32):(s++32::t).takeWhile (λc=>c != 32)=s:=by
 induction s with
 |nil=>simp
 |cons c s b=>
  have d:(c != 32)=true:=by simpa using a c bB
  rw[kg,List.takeWhile_cons,aJ d,b λx Z=>a x (bQ _ Z)]
def KQ(i:Nat):B:=(eg.drop (i+1)).takeWhile (λc=>c != 32)
theorem QI:(List.range 110).all (λi=>(KQ i).isEmpty||eg[i]? != some 32||words.contains (KQ i))=true:=by decide+kernel
theorem X9:words.all (λw=>contains eg (32::(w++[32])))=true:=by decide+kernel
theorem yT{s:B}(f:∀c∈s,c≠32)(b:s≠[]):contains eg (32::(s++[32]))=words.contains s:=by
 have I:contains eg (32::(s++[32]))=true->words.contains s=true:=by
  intro h;unfold contains at h;have h:=b7 h;rcases index_spec eg (32::(s++[32]))with⟨Y, -⟩|⟨i,Y,W,U, -⟩
  .rw[Y]at h;omega
  .unfold occAt at U;obtain⟨t,d⟩:=List.isPrefixOf_iff_prefix.1 U;have V:i<eg.length:=by grind
   have g:eg.drop (i+1)=s++32::t:=by rw[<-List.drop_drop,<-d];simp
   have j:eg[i]? =some 32:=by have:=List.head?_drop (l:=eg) (i:=i);rw[<-d]at this;simpa using this.symm
   have a:KQ i=s:=by unfold KQ;rw[g];exact F1 f
   have e:eg.length<=110:=by decide+kernel
   have:=qP.1 QI i (List.mem_range.2 (by omega));rw[a,j]at this;simp only[il,bne_self_eq_false,fa,fm]at this;rcases this with h|h
   .exact absurd (List.isEmpty_iff.1 h) b
   .exact h
 cases a:words.contains s with
 |true=>have:=qP.1 X9 s (by simpa using a);exact this
 |false=>
  cases k:contains eg (32::(s++[32]))with
  |false=>rfl
  |true=>rw[I k]at a;cases a
theorem Hg(n:Int):0<(itoa n).length:=by
 unfold itoa;split
 .simp
 .exact List.length_pos_iff.2 (Dp _)
theorem nN{a b:Int}{s r:B}{n:Int}(h:eE a b s=some (n,r)):r.length<s.length:=by obtain⟨I, -⟩:=mE h;have:=Hg n;rw[I,cg];omega
theorem KZ(p:UInt8->Bool)(s:B):(s.takeWhile p).length<=s.length:=(List.takeWhile_sublist p).length_le
theorem V0{w:B}(h:plain w=true):0<w.length:=by grind[plain,eG]
theorem GG{s r:B}{t:Tm}(h:iA s=some (t,r)):r.length<s.length:=by grind[iA,V0,KZ,letter]
theorem DU{s r:B}{t:Tm}(h:cy s=some (t,r)):r.length<s.length:=by obtain⟨a, -, -, -,rfl⟩:=qX.1 h;simp only[quote,cg,cD];omega
theorem uD{k:Int}{e s r:B}{t:Tm}(h:kn k e s=some (t,r)):r.length<s.length:=by
 unfold kn at h;cases I:eE 0 bF s with
 |none=>rw[I]at h;cases h
 |some x=>rw[I]at h;simp only[bk,cB]at h;obtain⟨r2,Y, -,rfl⟩:=h;have:=ct Y;have:=nN (n:=x.1) (r:=x.2) I;omega
section
variable{bH:Bool}{one RB:B->Option (Tm×B)}{rest fX:B->Option (List Tm×B)}
theorem Bv(I:∀s t r,one s=some (t,r)->r.length<s.length)(Y:∀s l r,rest s=some (l,r)->r.length<=s.length){s r:B}{l:List Tm}(h:iQ one rest s=some (l,r)):r.length<s.length:=by grind[iQ,Option.map_eq_some_iff,Prod.mk.injEq]
theorem Zz(I:∀s t r,one s=some (t,r)->r.length<s.length)(Y:∀s l r,rest s=some (l,r)->r.length<=s.length){e s r:B}{l:List Tm}(h:iS bH one rest e s=some (l,r)):r.length<=s.length:=by
 unfold iS at h;cases e1:must e s with
 |some x=>rw[e1]at h;simp only[aD,cB]at h;obtain⟨-,rfl⟩:=h;have:=ct e1;omega
 |none=>
  rw[e1]at h;simp only at h;cases e2:iQ one rest s with
  |none=>rw[e2]at h;cases h
  |some x=>
   rw[e2]at h;simp only at h;cases e3:must e x.2 with
   |none=>rw[e3]at h;cases h
   |some y=>
    rw[e3]at h;simp only at h;split at h
    .simp only[aD,cB]at h;obtain⟨-,rfl⟩:=h;have:=ct e3;have:=Bv I Y (l:=x.1) (r:=x.2) e2;omega
    .cases h
theorem V9(I:∀s t r,one s=some (t,r)->r.length<s.length){s r:B}{t:Tm}(h:jU one s=some (t,r)):r.length<=s.length:=by
 unfold jU at h;cases e1:must [124] s with
 |none=>rw[e1]at h;simp only[aD,cB]at h;obtain⟨-,rfl⟩:=h;exact bD _
 |some x=>
  rw[e1]at h;simp only at h;cases e2:one x with
  |none=>rw[e2]at h;cases h
  |some y=>
   rw[e2]at h;simp only at h;split at h
   .cases h
   .simp only[aD,cB]at h;obtain⟨-,rfl⟩:=h;have:=ct e1;have:=I x y.1 y.2 e2;omega
theorem Wa(I:∀s t r,one s=some (t,r)->r.length<s.length)(Y:∀s l r,rest s=some (l,r)->r.length<=s.length){s r:B}{t:Tm}(h:gJ one rest s=some (t,r)):r.length<=s.length:=by
 unfold gJ at h;cases e1:must [93] s with
 |some x=>rw[e1]at h;simp only[aD,cB]at h;obtain⟨-,rfl⟩:=h;have:=ct e1;omega
 |none=>
  rw[e1]at h;simp only at h;cases e2:iQ one rest s with
  |none=>rw[e2]at h;cases h
  |some x=>
   rw[e2]at h;simp only at h;cases e3:jU one x.2 with
   |none=>rw[e3]at h;cases h
   |some y=>rw[e3]at h;simp only[bk,cB]at h;obtain⟨b,a, -,rfl⟩:=h;have:=ct a;have:=V9 I (t:=y.1) (r:=y.2) e3;have:=Bv I Y (l:=x.1) (r:=x.2) e2;omega
theorem Zy(Y:∀s l r,rest s=some (l,r)->r.length<=s.length){s r:B}{t:Tm}(h:jr bH rest s=some (t,r)):r.length<=s.length:=by
 unfold jr at h;cases e1:eE 0 bF s with
 |none=>rw[e1]at h;cases h
 |some x=>
  rw[e1]at h;simp only at h;cases e2:rest x.2 with
  |none=>rw[e2]at h;cases h
  |some y=>
   rw[e2]at h;simp only at h;cases e3:must [62] y.2 with
   |none=>rw[e3]at h;cases h
   |some z=>
    rw[e3]at h;simp only at h;split at h
    .simp only[aD,cB]at h;obtain⟨-,rfl⟩:=h;have:=ct e3;have:=Y x.2 y.1 y.2 e2;have:=nN (n:=x.1) (r:=x.2) e1;omega
    .cases h
theorem Zv(I:∀s t r,one s=some (t,r)->r.length<s.length)(Y:∀s l r,rest s=some (l,r)->r.length<=s.length){s r:B}{t:Tm}(h:rS bH one rest s=some (t,r)):r.length<s.length:=by
 unfold rS at h;cases e1:must [123] s with
 |some x=>rw[e1]at h;simp only[bk,cB]at h;obtain⟨y,e2, -,rfl⟩:=h;have:=ct e1;have:=Zz I Y (l:=y.1) (r:=y.2) e2;simp only[cD,c7]at *;omega
 |none=>
 rw[e1]at h;simp only at h;cases e2:must [91] s with
 |some x=>rw[e2]at h;have:=ct e2;have:=Wa I Y h;simp only[cD,c7]at *;omega
 |none=>
 rw[e2]at h;simp only at h;cases e3:must [39] s with
 |some x=>rw[e3]at h;exact DU h
 |none=>
 rw[e3]at h;simp only at h;cases a:must rI s with
 |some x=>rw[a]at h;have:=ct a;have:=uD h;omega
 |none=>
 rw[a]at h;simp only at h;cases b:must uq s with
 |some x=>rw[b]at h;have:=ct b;have:=uD h;omega
 |none=>
 rw[b]at h;simp only at h;cases c:must zk s with
 |some x=>rw[c]at h;have:=ct c;have:=uD h;omega
 |none=>
 rw[c]at h;simp only at h;cases d:must pH s with
 |some x=>rw[d]at h;have:=ct d;have:=Zy Y h;have:pH.length=5:=rfl;omega
 |none=>
 rw[d]at h;simp only at h;split at h
 .exact GG h
 .simp only[bk,cB]at h;obtain⟨y,e2, -,rfl⟩:=h;exact nN (n:=y.1) (r:=y.2) e2
theorem zy{s:B}(I:one s=RB s)(Y:∀t r,one s=some (t,r)->rest r=fX r):iQ one rest s=iQ RB fX s:=by grind[iQ]
theorem OD{s:B}(h:∀r,r.length<s.length->one r=RB r):jU one s=jU RB s:=by
 unfold jU;cases e:must [124] s with
 |none=>rfl
 |some x=>have:=ct e;simp only[cD,c7]at this;simp only[h x (by omega)]
theorem GH{s:B}(b:∀s t r,one s=some (t,r)->r.length<s.length)(c:∀s l r,rest s=some (l,r)->r.length<=s.length)(I:∀r,r.length<s.length->one r=RB r)(Y:∀r,r.length<s.length->rest r=fX r):
  rS bH one rest s=rS bH RB fX s:=by
 have a:∀r,r.length<s.length->iQ one rest r=iQ RB fX r:=λr d=>
  zy (I r d) λt r' e=>Y r' (by have:=b r t r' e;omega)
 unfold rS;cases e1:must [123] s with
 |some x=>have:=ct e1;simp only[cD,c7]at this;simp only[iS,a x (by omega)]
 |none=>
 simp only;cases e2:must [91] s with
 |some x=>
  have:=ct e2;simp only[cD,c7]at this;simp only[gJ,<-a x (by omega)];cases must [93] x with
  |some _=>rfl
  |none=>
   simp only;cases e3:iQ one rest x with
   |none=>rfl
   |some y=>have:=Bv b c (l:=y.1) (r:=y.2) e3;simp only[OD (s:=y.2) λr d=>I r (by omega)]
 |none=>
 simp only;cases e3:must [39] s with
 |some x=>rfl
 |none=>
 simp only;cases h:must rI s with
 |some x=>rfl
 |none=>
 simp only;cases i:must uq s with
 |some x=>rfl
 |none=>
 simp only;cases j:must zk s with
 |some x=>rfl
 |none=>
 simp only;cases f:must pH s with
 |some x=>
  have h7:=ct f;simp only[jr];cases g:eE 0 bF x with
  |none=>rfl
  |some y=>have:=nN (n:=y.1) (r:=y.2) g;simp only[Y y.2 (by omega)]
 |none=>rfl
end
theorem wJ(bH:Bool):∀n,(∀s t r,pT bH n s=some (t,r)->r.length<s.length)/\∀s l r,jC bH n s=some (l,r)->r.length<=s.length
 |0=>by grind[pT,jC]
 |n+1=>by
  obtain⟨I,Y⟩:=wJ bH n;refine⟨λs t r h=>Zv I Y (by rw[pT]at h;exact h),λs l r h=>?_⟩;unfold jC at h;split at h
  .next x e=>
   have:=ct e;have:=Bv I Y h;omega
  .grind
def PT(bH:Bool)(s:B):Option (Tm×B):=pT bH (s.length+1) s
def PR(bH:Bool)(s:B):Option (List Tm×B):=jC bH (s.length+1) s
theorem HX(bH:Bool):∀(k:Nat)(s:B),s.length<=k->∀n,s.length<n->pT bH n s=PT bH s/\jC bH n s=PR bH s
 |k,s,hk,0,h=>by omega
 |k,s,hk,n+1,h=>by
  have d:∀m,s.length<=m->∀r:B,r.length<s.length->pT bH m r=PT bH r/\jC bH m r=PR bH r:=λm c r g=>by
   cases k with
   |zero=>omega
   |succ k=>exact HX bH k r (by omega) m (by omega)
  have key:∀m,s.length<=m->pT bH (m+1) s=rS bH (PT bH) (PR bH) s/\jC bH (m+1) s=(match must [44] s with|some r=>iQ (PT bH) (PR bH) r|none=>some ([],s)):=λm c=>by
   obtain⟨f,i⟩:=wJ bH m;refine⟨?_,?_⟩
   .grind[pT,GH]
   .rw[jC];cases e:must [44] s with
    |none=>rfl
    |some x=>have:=ct e;simp only[cD,c7]at this;exact zy (d m c x (by omega)).1 λt r e=>(d m c r (by have:=f x t r e;omega)).2
  have a:=key n (by omega);have b:=key s.length (bD _);exact⟨a.1.trans b.1.symm,a.2.trans b.2.symm⟩
theorem Ek(bH:Bool)(s:B):PT bH s=rS bH (PT bH) (PR bH) s:=by
 obtain⟨c,d⟩:=wJ bH s.length;have b:∀r:B,r.length<s.length->pT bH s.length r=PT bH r/\jC bH s.length r=PR bH r:=λr a=>HX bH r.length r (bD _) _ a
 show pT bH (s.length+1) s=_;rw[pT];exact GH c d (λr a=>(b r a).1) λr a=>(b r a).2
theorem a6f(bH:Bool)(s:B):PR bH s=match must [44] s with|some r=>iQ (PT bH) (PR bH) r|none=>some ([],s):=by
 obtain⟨b,d⟩:=wJ bH s.length;have a:∀r:B,r.length<s.length->pT bH s.length r=PT bH r/\jC bH s.length r=PR bH r:=λr c=>HX bH r.length r (bD _) _ c
 show jC bH (s.length+1) s=_;rw[jC];cases e:must [44] s with
 |none=>rfl
 |some x=>have:=ct e;simp only[cD,c7]at this;exact zy (a x (by omega)).1 λt r e=>(a r (by have:=b x t r e;omega)).2
theorem a9f{bH:Bool}{s r:B}{t:Tm}(h:PT bH s=some (t,r)):r.length<s.length:=(wJ bH _).1 s t r h
theorem FG(s:B):PT true s=gz Tm.fits (PT false s):=(Kf _).1 s
section
theorem VK(r:B):run (45::r)=1+(r.takeWhile digit).length:=by simp[run]
theorem VJ{X:B}(h:∀c r,X=c::r->c≠45):run X=(X.takeWhile digit).length:=by
 cases X with
 |nil=>rfl
 |cons c r=>
  have I:=h c r rfl;have Y:¬c.toNat=45:=λe=>I (hD.1 e)
  simp only[run,av Y]
theorem cH{l:B}{p:Nat}{c:UInt8}(h:l[p]? =some c):l.drop p=c::l.drop (p+1):=by obtain⟨a,rfl⟩:=my.1 h;exact AM a
theorem mo{l:B}{p:Nat}{c:UInt8}(h:l[p]? =some c):p<l.length:=(my.1 h).1
theorem tw{l:B}{p:Nat}(h:l.length<=p):l.drop p=[]:=vw h
def jy(l:B)(f p:Nat):Prop:=f<=p/\p<=l.length/\run (l.drop f)=(p-f)+((l.drop p).takeWhile digit).length
variable{l:B}{f p:Nat}{c:UInt8}{n least most:Int}
theorem O0(h:l[p]? ≠some 45)(a:p<=l.length):jy l p p:=by
 refine⟨bD _,a,?_⟩;rw[Nat.sub_self,eD];refine VJ λc r e b=>h ?_
 have:(l.drop p)[0]? =some 45:=by rw[e,b]<;>rfl
 rwa [tX,iF]at this
theorem OZ(h:l[p]? =some 45):jy l p (p+1):=by refine⟨Nat.le_succ _,mo h,?_⟩;rw[cH h,VK];omega
theorem Wn(h:jy l f p)(a:l[p]? =some c)(b:digit c=true):jy l f (p+1):=by obtain⟨I,Y,W⟩:=h;have:=mo a;refine⟨by omega,by omega,?_⟩;rw[W,cH a,List.takeWhile_cons_of_pos b,cD];omega
theorem GU(h:jy l f p)(a:∀c,l[p]? =some c->digit c=false):(l.drop f).take (run (l.drop f))=(l.take p).drop f/\(l.drop f).drop (run (l.drop f))=l.drop p:=by
 obtain⟨I,Y,W⟩:=h;have e:(l.drop p).takeWhile digit=[]:=by
  cases Z:l.drop p with
  |nil=>rfl
  |cons c r=>
   have:(l.drop p)[0]? =some c:=by rw[Z]<;>rfl
   rw[tX,iF]at this;rw[List.takeWhile_cons_of_neg];rw[a c this];exact Bool.false_ne_true
 rw[e,c7,iF]at W;rw[W];refine⟨?_,?_⟩
 .rw[List.drop_take]
 .rw[List.drop_drop];congr 1;omega
theorem C2(h:jy l f p)(a:∀c,l[p]? =some c->digit c=false)(b:atoiAll ((l.take p).drop f)=.ok n)(V:itoa n=(l.take p).drop f)(I:least<=n)(Y:n<=most):eE least most (l.drop f)=some (n,l.drop p):=by grind[GU,eE]
theorem a7h(h:jy l f p)(a:∀c,l[p]? =some c->digit c=false)(b:∀n,atoiAll ((l.take p).drop f)=.ok n->itoa n=(l.take p).drop f->least<=n->n<=most->False):eE least most (l.drop f)=none:=by grind[GU,eE]
def EH(l:B)(f p:Nat):Prop:=f<=p/\p<=l.length/\(l.drop f).takeWhile letter=(l.take p).drop f++(l.drop p).takeWhile letter
theorem RZ(a:p<=l.length):EH l p p:=by refine⟨bD _,a,?_⟩;rw[show(l.take p).drop p=[]from vw (by rw[c8];omega),fH]
theorem sV(a:l[p]? =some c):l.take (p+1)=l.take p++[c]:=by grind[List.take_add_one]
theorem tv(a:f<=p)(b:l[p]? =some c):(l.take (p+1)).drop f=(l.take p).drop f++[c]:=by grind[mo,sV]
theorem Wx(h:EH l f p)(a:l[p]? =some c)(b:letter c=true):EH l f (p+1):=by obtain⟨I,Y,W⟩:=h;have:=mo a;refine⟨by omega,by omega,?_⟩;rw[W,cH a,List.takeWhile_cons_of_pos b,tv I a,mw]<;>rfl
theorem Pe(h:EH l f p)(a:∀c,l[p]? =some c->letter c=false):(l.drop f).takeWhile letter=(l.take p).drop f:=by
 obtain⟨I,Y,W⟩:=h;have e:(l.drop p).takeWhile letter=[]:=by
  cases Z:l.drop p with
  |nil=>rfl
  |cons c r=>
   have:(l.drop p)[0]? =some c:=by rw[Z]<;>rfl
   rw[tX,iF]at this;rw[List.takeWhile_cons_of_neg];rw[a c this];exact Bool.false_ne_true
 rw[W,e,List.append_nil]
theorem Zs(h:EH l f p)(a:∀c,l[p]? =some c->letter c=false)(b:plain ((l.take p).drop f)=true):iA (l.drop f)=some (.mk 2 0 ((l.take p).drop f) [],l.drop p):=by
 have e:=Pe h a;unfold iA;rw[e,aJ b,List.drop_drop];have:((l.take p).drop f).length=p-f:=by obtain⟨I,Y, -⟩:=h;rw[eV,c8];omega
 obtain⟨I,Y, -⟩:=h;rw[this,show f+(p-f)=p by omega]
theorem Zt(h:EH l f p)(a:∀c,l[p]? =some c->letter c=false)(b:plain ((l.take p).drop f)=false):iA (l.drop f)=none:=by grind[Pe,iA]
theorem xn{s:B}:plain s=true↔eG s=true/\s.length<=64/\s.all letter=true/\words.contains s=false:=by grind[plain]
theorem JZ{c:UInt8}(h:letter c=true):c≠32:=by rintro rfl;revert h;decide
theorem Oq{s:B}(h:contains eg (32::(s++[32]))=true)(a:s≠[]):plain s=false:=by grind[plain,yT,JZ]
theorem VY{s:B}(I:eG s=true)(Y:s.length<=64)(W:s.all letter=true)(h:contains eg (32::(s++[32]))=false)(a:s≠[]):plain s=true:=by rw[yT (λc b=>JZ (qP.1 W c b)) a]at h;exact xn.2 ⟨I,Y,W,h⟩
end
section
variable{l acc:B}{f p:Nat}{c d h k:UInt8}{a b:Nat}
def fS(l:B)(f p:Nat)(acc:B):Prop:=f+1<=p/\p<=l.length/\x3 (l.drop (f+1))=(x3 (l.drop p)).map λx=>(acc++x.1,x.2)
theorem VV(a:f<l.length):fS l f (f+1) []:=by refine⟨bD _,a,?_⟩;simp
theorem Lu{x:Option (B×B)}{u v:B}:((x.map λy=>(v++y.1,y.2)).map λy=>(u++y.1,y.2))=x.map λy=>((u++v)++y.1,y.2):=by cases x<;>simp
theorem a2Y(q:fS l f p acc)(a:l[p]? =some c)(I:c.toNat≠39)(Y:c.toNat≠92):fS l f (p+1) (acc++[c]):=by obtain⟨d,e,b⟩:=q;have:=mo a;refine⟨by omega,by omega,?_⟩;rw[b,cH a,gF,av I,aJ Y,<-Lu]<;>rfl
theorem a2X(q:fS l f p acc)(b:l[p]? =some c)(I:c.toNat=92)(a:l[p+1]? =some d)(Y:d.toNat=39\/d.toNat=92):fS l f (p+2) (acc++[d]):=by obtain⟨g,h,e⟩:=q;have:=mo a;refine⟨by omega,by omega,?_⟩;rw[e,cH b,cH a,gF,av (by omega),av (by omega)];simp only[aJ Y];rw[<-Lu]<;>rfl
theorem a22(q:fS l f p acc)(e:l[p]? =some c)(I:c.toNat=92)(g:l[p+1]? =some d)(Y:d.toNat=120)(hh:l[p+2]? =some h)(hk:l[p+3]? =some k)(i:unhex h=some a)(j:unhex k=some b):fS l f (p+4) (acc++[UInt8.ofNat (16*a+b)]):=by obtain⟨n,o,m⟩:=q;have:=mo hk;refine⟨by omega,by omega,?_⟩;rw[m,cH e,cH g,cH hh,cH hk,gF,av (by omega),av (by omega)];simp only[av (show¬(d.toNat=39\/d.toNat=92) by omega),av (show¬d.toNat≠120 by omega),i,j];rw[<-Lu]<;>rfl
theorem T3(q:fS l f p acc)(a:l[p]? =some c)(I:c.toNat=39):x3 (l.drop (f+1))=some (acc,l.drop (p+1)):=by obtain⟨d,e,b⟩:=q;rw[b,cH a,gF,aJ I];simp
theorem Zg(q:fS l f p acc)(a:l.length<=p):x3 (l.drop (f+1))=none:=by obtain⟨c,d,b⟩:=q;rw[b,tw a]<;>rfl
theorem VU(q:fS l f p acc)(a:l[p]? =some c)(I:c.toNat=92)(b:l.length<=p+1):x3 (l.drop (f+1))=none:=by obtain⟨e,g,d⟩:=q;rw[d,cH a,tw b,gF,av (by omega),av (by omega)]<;>rfl
theorem a23(q:fS l f p acc)(a:l[p]? =some c)(I:c.toNat=92)(b:l[p+1]? =some d)(Y:d.toNat≠39)(W:d.toNat≠92)(U:d.toNat≠120):x3 (l.drop (f+1))=none:=by obtain⟨g,h,e⟩:=q;rw[e,cH a,cH b,gF,av (by omega),av (by omega)];simp only[av (show¬(d.toNat=39\/d.toNat=92) by omega),aJ U];rfl
theorem VW(q:fS l f p acc)(a:l[p]? =some c)(I:c.toNat=92)(b:l[p+1]? =some d)(Y:d.toNat=120)(h:l.length<p+4):x3 (l.drop (f+1))=none:=by
 obtain⟨i,j,e⟩:=q;rw[e,cH a,cH b,gF,av (by omega),av (by omega)];simp only[av (show¬(d.toNat=39\/d.toNat=92) by omega),av (show¬d.toNat≠120 by omega)];have g:(l.drop (p+1+1)).length<=1:=by rw[eV];omega
 match Z:l.drop (p+1+1),g with
 | [],_=>rfl
 | [_],_=>rfl
theorem VX(q:fS l f p acc)(b:l[p]? =some c)(I:c.toNat=92)(g:l[p+1]? =some d)(Y:d.toNat=120)(hh:l[p+2]? =some h)(hk:l[p+3]? =some k)(a:unhex h=none\/unhex k=none):x3 (l.drop (f+1))=none:=by
 obtain⟨j,m,i⟩:=q;rw[i,cH b,cH g,cH hh,cH hk,gF,av (by omega),av (by omega)];simp only[av (show¬(d.toNat=39\/d.toNat=92) by omega),av (show¬d.toNat≠120 by omega)];rcases a with e|e
 .rw[e]<;>rfl
 .rw[e];cases unhex h<;>rfl
theorem T4(a:f<=p)(b:p<=l.length):(l.drop f).take ((l.drop f).length-(l.drop p).length)=(l.take p).drop f:=by grind[List.length_drop,List.drop_take]
theorem Ls(a:f+1<=p)(b:p<=l.length)(c:x3 (l.drop (f+1))=some (acc,l.drop p))(I:acc.length<=64)(Y:plain acc=false)(W:quote acc=(l.take p).drop f):cy (l.drop f)=some (.mk 2 0 acc [],l.drop p):=by grind[cy,T4,List.drop_drop]
theorem Lt(a:x3 (l.drop (f+1))=none):cy (l.drop f)=none:=by grind[cy,List.drop_drop]
theorem a2Z(a:f+1<=p)(b:p<=l.length)(c:x3 (l.drop (f+1))=some (acc,l.drop p))(d:acc.length<=64->plain acc=false->quote acc=(l.take p).drop f->False):cy (l.drop f)=none:=by grind[cy,T4,List.drop_drop]
theorem a0U{s:B}{i:Nat}(a:s[i]? =some c):qs (s.take (i+1))=qs (s.take i)++zU c:=by rw[sV a];simp[qs]
theorem a0V(c:UInt8):(zU c).length<=4:=by
 unfold zU;split
 .simp
 .split<;>simp
theorem UR:∀s:B,(qs s).length<=4*s.length
 | []=>by simp[qs]
 |c::s=>by
  have I:=a0V c;have Y:=UR s;have:qs (c::s)=zU c++qs s:=by simp[qs]
  rw[this,cg,cD];omega
def fU:B:=[48,49,50,51,52,53,54,55,56,57,97,98,99,100,101,102]
theorem Q2{n:Nat}(h:n<16):(fU.take (n+1)).drop n=[o0 n]:=by
 have:∀n:Fin 16,(fU.take (n.val+1)).drop n.val=[o0 n.val]:=by decide
 exact this ⟨n,h⟩
theorem Vw:∀c:Fin 256,unhex (UInt8.ofNat c.val)=if 0<=indexByte fU (UInt8.ofNat c.val)then some (indexByte fU (UInt8.ofNat c.val)).toNat else none:=by decide+kernel
theorem AR(c:UInt8):unhex c=if 0<=indexByte fU c then some (indexByte fU c).toNat else none:=by have:=Vw ⟨c.toNat,c.toNat_lt⟩;simpa using this
theorem NB{c:UInt8}(h:unhex c=some a):a<16:=by
 have:∀c:Fin 256,(unhex (UInt8.ofNat c.val)).all (λa=>decide (a<16))=true:=by decide+kernel
 have:=this ⟨c.toNat,c.toNat_lt⟩;simp only[UInt8.ofNat_toNat,h,Option.all_some,rC]at this;exact this
end
section
theorem JW(c:UInt8)(r:B):must [c] (c::r)=some r:=by simp[must]
theorem a3w{c:UInt8}{X:B}(h:∀d r,X=d::r->d≠c):must [c] X=none:=by
 cases X with
 |nil=>rfl
 |cons d r=>have I:=h d r rfl;unfold must;rw[av];intro e;rw[List.isPrefixOf_cons_cons]at e;simp only[aM,beq_iff_eq]at e;exact I e.1.symm
theorem Wq{p X:B}(h:X.take p.length=p):must p X=some (X.drop p.length):=by grind[must]
theorem xA{p X:B}(h:X.take p.length≠p):must p X=none:=by unfold must;rw[av];intro e;obtain⟨t,rfl⟩:=List.isPrefixOf_iff_prefix.1 e;exact h (List.take_left' rfl)
section
variable{bH:Bool}{ts:List Tm}{t:Tm}{e X r r2:B}{n:Int}
theorem Na(h:must [44] X=none):PR bH X=some ([],X):=by rw[a6f,h]
theorem Kw(r:B):PR bH (44::r)=iQ (PT bH) (PR bH) r:=by rw[a6f,JW]
def cT(bH:Bool)(ts:List Tm)(e X:B):Option (List Tm×B):=
 match PR bH X with
 |some (a,r)=>match must e r with
  |some r2=>if ml bH (ts++a)then some (ts++a,r2)else none
  |none=>none
 |none=>none
theorem uK(h:must [44] X=none):cT bH ts e X=match must e X with|some r2=>if ml bH ts then some (ts,r2)else none|none=>none:=by grind[cT,Na]
theorem RY(a:PT bH r=some (t,r2)):cT bH ts e (44::r)=cT bH (ts++[t]) e r2:=by unfold cT;rw[Kw];unfold iQ;simp only[a];cases PR bH r2<;>simp
theorem RX(a:PT bH r=none):cT bH ts e (44::r)=none:=by grind[cT,Kw,iQ]
theorem Bx(h:must e X=some r):iS bH (PT bH) (PR bH) e X=some ([],r):=by unfold iS;rw[h]
theorem CV(h:must e X=none)(a:PT bH X=some (t,r)):iS bH (PT bH) (PR bH) e X=cT bH [t] e r:=by
 unfold iS cT iQ;simp only[h,a];cases PR bH r with
 |none=>rfl
 |some y=>rfl
theorem LO(h:must e X=none)(a:PT bH X=none):iS bH (PT bH) (PR bH) e X=none:=by grind[iS,iQ]
def b5(bH:Bool)(ts:List Tm)(X:B):Option (Tm×B):=
 match PR bH X with
 |some (a,r)=>match jU (PT bH) r with
  |some (e,r2)=>(must [93] r2).map λb=>(cz (ts++a) e,b)
  |none=>none
 |none=>none
theorem ie(h:must [44] X=none):b5 bH ts X=match jU (PT bH) X with|some (e,r2)=>(must [93] r2).map λa=>(cz ts e,a)|none=>none:=by grind[b5,Na]
theorem Pa(a:PT bH r=some (t,r2)):b5 bH ts (44::r)=b5 bH (ts++[t]) r2:=by unfold b5;rw[Kw];unfold iQ;simp only[a];cases PR bH r2<;>simp
theorem O9(a:PT bH r=none):b5 bH ts (44::r)=none:=by grind[b5,Kw,iQ]
theorem JP(h:must [93] X=some r):gJ (PT bH) (PR bH) X=some (.mk 8 0 [] [],r):=by unfold gJ;rw[h]
theorem GI(h:must [93] X=none)(a:PT bH X=some (t,r)):gJ (PT bH) (PR bH) X=b5 bH [t] r:=by
 unfold gJ b5 iQ;simp only[h,a];cases PR bH r with
 |none=>rfl
 |some y=>rfl
theorem OE(h:must [93] X=none)(a:PT bH X=none):gJ (PT bH) (PR bH) X=none:=by grind[gJ,iQ]
theorem xv(h:must [124] X=some r):jU (PT bH) X=match PT bH r with|some (t,r2)=>if t.k=9\/t.k=8 then none else some (t,r2)|none=>none:=by unfold jU;rw[h]<;>rfl
theorem GF(h:must [124] X=none):jU (PT bH) X=some (.mk 8 0 [] [],X):=by unfold jU;rw[h]
def eT(bH:Bool)(n:Int)(ts:List Tm)(X:B):Option (Tm×B):=
 match PR bH X with
 |some (a,r)=>match must [62] r with
  |some b=>if ml bH (ts++a)then some (.mk 5 n [] (ts++a),b)else none
  |none=>none
 |none=>none
theorem uJ(h:must [44] X=none):eT bH n ts X=match must [62] X with|some a=>if ml bH ts then some (.mk 5 n [] ts,a)else none|none=>none:=by grind[eT,Na]
theorem RW(a:PT bH r=some (t,r2)):eT bH n ts (44::r)=eT bH n (ts++[t]) r2:=by unfold eT;rw[Kw];unfold iQ;simp only[a];cases PR bH r2<;>simp
theorem RV(a:PT bH r=none):eT bH n ts (44::r)=none:=by grind[eT,Kw,iQ]
theorem ta(h:eE 0 bF X=some (n,r)):jr bH (PR bH) X=eT bH n [] r:=by
 unfold jr eT;simp only[h];cases PR bH r with
 |none=>rfl
 |some y=>rfl
theorem Ua(h:eE 0 bF X=none):jr bH (PR bH) X=none:=by unfold jr;rw[h]
theorem H9(h:must [123] X=some r):PT bH X=(iS bH (PT bH) (PR bH) [125] r).map λx=>(.mk 7 0 [] x.1,x.2):=by rw[Ek,rS,h]
theorem a4W(I:must [123] X=none)(h:must [91] X=some r):PT bH X=gJ (PT bH) (PR bH) r:=by rw[Ek,rS,I,h]
theorem a9e(I:must [123] X=none)(Y:must [91] X=none)(h:must [39] X=some r):PT bH X=cy X:=by rw[Ek,rS,I,Y,h]
theorem SZ(I:must [123] X=none)(Y:must [91] X=none)(W:must [39] X=none)(h:must rI X=some r):PT bH X=kn 3 [62] r:=by rw[Ek,rS,I,Y,W,h]
theorem SY(I:must [123] X=none)(Y:must [91] X=none)(W:must [39] X=none)(U:must rI X=none)(h:must uq X=some r):PT bH X=kn 4 [62] r:=by rw[Ek,rS,I,Y,W,U,h]
theorem S0(I:must [123] X=none)(Y:must [91] X=none)(W:must [39] X=none)(U:must rI X=none)(h5:must uq X=none)(h:must zk X=some r):PT bH X=kn 6 JC r:=by rw[Ek,rS,I,Y,W,U,h5,h]
theorem a1X(I:must [123] X=none)(Y:must [91] X=none)(W:must [39] X=none)(U:must rI X=none)(h5:must uq X=none)(h6:must zk X=none)(h:must pH X=some r):PT bH X=jr bH (PR bH) r:=by rw[Ek,rS,I,Y,W,U,h5,h6,h]
theorem Vp(I:must [123] X=none)(Y:must [91] X=none)(W:must [39] X=none)(U:must rI X=none)(h5:must uq X=none)(h6:must zk X=none)(h7:must pH X=none):PT bH X=if eG X then iA X else(eE dX fc X).map λx=>(.mk 1 x.1 [] [],x.2):=by rw[Ek,rS,I,Y,W,U,h5,h6,h7]
end
def wf1(k n:Int)(s:B)(m:Nat):Prop:=
 (k=1/\dX<=n/\n<=fc/\s=[]/\m=0)\/(k=2/\n=0/\s.length<=64/\m=0)\/((k=3\/k=4\/k=6)/\0<=n/\n<=bF/\s=[]/\m=0)\/
 (k=5/\0<=n/\n<=bF/\s=[])\/(k=7/\n=0/\s=[])\/(k=8/\n=0/\s=[]/\m=0)\/(k=9/\n=0/\s=[]/\m=2)
mutual
def Tm.wf:Tm->Prop
 | .mk k n s l=>wf1 k n s l.length/\lT l
def lT:List Tm->Prop
 | []=>True
 |t::l=>t.wf/\lT l
end
mutual
def Tm.words:Tm->Nat
 | .mk k _ _ l=>(if k=7\/k=5 then 2 else 1)+dF l
def dF:List Tm->Nat
 | []=>0
 |t::l=>t.words+dF l
end
theorem Jg:∀{l:List Tm}{e:Tm},lT l->e.wf->(cz l e).wf
 | [],e,_,h=>h
 |t::l,e,I,h=>by
  unfold lT at I;unfold cz Tm.wf;refine⟨.inr (.inr (.inr (.inr (.inr (.inr ⟨rfl,rfl,rfl,rfl⟩))))),?_⟩;unfold lT lT lT;exact⟨I.1,Jg I.2 h,eI⟩
theorem ud:∀(l:List Tm)(e:Tm),(cz l e).words=l.length+dF l+e.words
 | [],e=>by simp[cz,dF]
 |t::l,e=>by
  simp only[cz,Tm.words,dF,ud l e,cD];rw[av (by decide)];omega
def Q(t:Tm)(s r:B):Prop:=t.wf/\t.words+2*r.length<=2*s.length
def QL(l:List Tm)(s r:B):Prop:=lT l/\dF l+l.length+2*r.length<=2*s.length
theorem w7{k n:Int}{s:B}(h:wf1 k n s 0):(Tm.mk k n s []).wf:=by unfold Tm.wf lT;exact⟨h,eI⟩
theorem kj{k n:Int}{s:B}(h:k≠7/\k≠5):(Tm.mk k n s []).words=1:=by unfold Tm.words dF;rw[av (by omega)]
section
variable{bH:Bool}{one:B->Option (Tm×B)}{rest:B->Option (List Tm×B)}(I:∀s t r,one s=some (t,r)->Q t s r)(Y:∀s l r,rest s=some (l,r)->QL l s r)
include I Y
theorem Zh{s r:B}{l:List Tm}(h:iQ one rest s=some (l,r)):lT l/\dF l+l.length+2*r.length<=2*s.length+1:=by
 unfold iQ at h;cases e1:one s with
 |none=>rw[e1]at h;cases h
 |some x=>rw[e1]at h;simp only[bk,cB]at h;obtain⟨y,e2,rfl,rfl⟩:=h;obtain⟨a1,a2⟩:=I s x.1 x.2 e1;obtain⟨a,b⟩:=Y x.2 y.1 y.2 e2;refine⟨by unfold lT;exact⟨a1,a⟩,?_⟩;simp only[dF,cD];omega
theorem aap{e s r:B}{l:List Tm}(a:0<e.length)(h:iS bH one rest e s=some (l,r)):lT l/\dF l+2*r.length<=2*s.length:=by
 unfold iS at h;cases e1:must e s with
 |some x=>rw[e1]at h;simp only[aD,cB]at h;obtain⟨rfl,rfl⟩:=h;have:=ct e1;refine⟨by unfold lT;trivial,?_⟩;simp only[dF];omega
 |none=>
  rw[e1]at h;simp only at h;cases e2:iQ one rest s with
  |none=>rw[e2]at h;cases h
  |some x=>
   rw[e2]at h;simp only at h;cases e3:must e x.2 with
   |none=>rw[e3]at h;cases h
   |some y=>
    rw[e3]at h;simp only at h;split at h
    .simp only[aD,cB]at h;obtain⟨rfl,rfl⟩:=h;have:=ct e3;obtain⟨a1,a2⟩:=Zh I Y (l:=x.1) (r:=x.2) e2;exact⟨a1,by omega⟩
    .cases h
omit Y in
theorem a62{s r:B}{t:Tm}(h:jU one s=some (t,r)):t.wf/\t.words+2*r.length<=2*s.length+1:=by
 unfold jU at h;cases e1:must [124] s with
 |none=>rw[e1]at h;simp only[aD,cB]at h;obtain⟨rfl,rfl⟩:=h;exact⟨w7 (.inr (.inr (.inr (.inr (.inr (.inl ⟨rfl,rfl,rfl,rfl⟩)))))),by rw[kj (by decide)];omega⟩
 |some x=>
  rw[e1]at h;simp only at h;cases e2:one x with
  |none=>rw[e2]at h;cases h
  |some y=>
   rw[e2]at h;simp only at h;split at h
   .cases h
   .simp only[aD,cB]at h;obtain⟨rfl,rfl⟩:=h;have:=ct e1;obtain⟨a1,a2⟩:=I x y.1 y.2 e2;exact⟨a1,by omega⟩
theorem a63{s r:B}{t:Tm}(h:gJ one rest s=some (t,r)):t.wf/\t.words+2*r.length<=2*s.length:=by
 unfold gJ at h;cases e1:must [93] s with
 |some x=>rw[e1]at h;simp only[aD,cB]at h;obtain⟨rfl,rfl⟩:=h;have:=ct e1;simp only[cD,c7]at this;exact⟨w7 (.inr (.inr (.inr (.inr (.inr (.inl ⟨rfl,rfl,rfl,rfl⟩)))))),by rw[kj (by decide)];omega⟩
 |none=>
  rw[e1]at h;simp only at h;cases e2:iQ one rest s with
  |none=>rw[e2]at h;cases h
  |some x=>
   rw[e2]at h;simp only at h;cases e3:jU one x.2 with
   |none=>rw[e3]at h;cases h
   |some y=>rw[e3]at h;simp only[bk,cB]at h;obtain⟨c,a,rfl,rfl⟩:=h;have:=ct a;simp only[cD,c7]at this;obtain⟨a1,a2⟩:=Zh I Y (l:=x.1) (r:=x.2) e2;obtain⟨b,d⟩:=a62 I (t:=y.1) (r:=y.2) e3;exact⟨Jg a1 b,by rw[ud];omega⟩
omit I in
theorem aao{s r:B}{t:Tm}(h:jr bH rest s=some (t,r)):t.wf/\t.words+2*r.length<=2*s.length:=by
 unfold jr at h;cases e1:eE 0 bF s with
 |none=>rw[e1]at h;cases h
 |some x=>
  rw[e1]at h;simp only at h;cases e2:rest x.2 with
  |none=>rw[e2]at h;cases h
  |some y=>
   rw[e2]at h;simp only at h;cases e3:must [62] y.2 with
   |none=>rw[e3]at h;cases h
   |some z=>
    rw[e3]at h;simp only at h;split at h
    .simp only[aD,cB]at h;obtain⟨rfl,rfl⟩:=h;have:=ct e3;obtain⟨a1,a2⟩:=Y x.2 y.1 y.2 e2;have a:=nN (n:=x.1) (r:=x.2) e1;obtain⟨-,c1,c2, -⟩:=mE (n:=x.1) (r:=x.2) e1;refine⟨?_,?_⟩
     .unfold Tm.wf;exact⟨.inr (.inr (.inr (.inl ⟨rfl,c1,c2,rfl⟩))),a1⟩
     .grind[Tm.words]
    .cases h
omit I Y in
theorem Lx{k:Int}{e s r:B}{t:Tm}(hk:k=3\/k=4\/k=6)(h:kn k e s=some (t,r)):Q t s r:=by
 have a:=uD h;unfold kn at h;cases e1:eE 0 bF s with
 |none=>rw[e1]at h;cases h
 |some x=>rw[e1]at h;simp only[bk,cB]at h;obtain⟨r2, -,rfl,rfl⟩:=h;obtain⟨-,c1,c2, -⟩:=mE (n:=x.1) (r:=x.2) e1;exact⟨w7 (.inr (.inr (.inl ⟨hk,c1,c2,rfl,rfl⟩))),by rw[kj (by omega)];omega⟩
omit I Y in
theorem Zi{s r:B}{t:Tm}(h:cy s=some (t,r)):Q t s r:=by have c:=DU h;obtain⟨a,rfl,b, -, -⟩:=qX.1 h;exact⟨w7 (.inr (.inl ⟨rfl,rfl,b,rfl⟩)),by rw[kj (by decide)];omega⟩
omit I Y in
theorem a25{s r:B}{t:Tm}(h:iA s=some (t,r)):Q t s r:=by
 have b:=GG h;unfold iA at h;split at h
 .next a=>
  simp only[aD,cB]at h;obtain⟨rfl,rfl⟩:=h;exact⟨w7 (.inr (.inl ⟨rfl,rfl,(xn.1 a).2.1,rfl⟩)),by rw[kj (by decide)];omega⟩
 .cases h
theorem aan{s r:B}{t:Tm}(h:rS bH one rest s=some (t,r)):Q t s r:=by
 unfold rS at h;cases e1:must [123] s with
 |some x=>rw[e1]at h;simp only[bk,cB]at h;obtain⟨y,e2,rfl,rfl⟩:=h;have:=ct e1;simp only[cD,c7]at this;obtain⟨a1,a2⟩:=aap I Y (by decide) (l:=y.1) (r:=y.2) e2;refine⟨by unfold Tm.wf;exact⟨.inr (.inr (.inr (.inr (.inl ⟨rfl,rfl,rfl⟩)))),a1⟩,?_⟩;unfold Tm.words;rw[aJ (.inl rfl)];omega
 |none=>
 rw[e1]at h;simp only at h;cases e2:must [91] s with
 |some x=>rw[e2]at h;have:=ct e2;obtain⟨a1,a2⟩:=a63 I Y h;exact⟨a1,by omega⟩
 |none=>
 rw[e2]at h;simp only at h;cases e3:must [39] s with
 |some x=>rw[e3]at h;exact Zi h
 |none=>
 rw[e3]at h;simp only at h;have lift:∀{x:B},x.length<=s.length->Q t x r->Q t s r:=λZ h=>⟨h.1,by have:=h.2;omega⟩
 cases a:must rI s with
 |some x=>rw[a]at h;exact lift (by have:=ct a;omega) (Lx (.inl rfl) h)
 |none=>
 rw[a]at h;simp only at h;cases b:must uq s with
 |some x=>rw[b]at h;exact lift (by have:=ct b;omega) (Lx (.inr (.inl rfl)) h)
 |none=>
 rw[b]at h;simp only at h;cases c:must zk s with
 |some x=>rw[c]at h;exact lift (by have:=ct c;omega) (Lx (.inr (.inr rfl)) h)
 |none=>
 rw[c]at h;simp only at h;cases d:must pH s with
 |some x=>rw[d]at h;have:=ct d;obtain⟨a1,a2⟩:=aao Y h;exact⟨a1,by omega⟩
 |none=>
 rw[d]at h;simp only at h;split at h
 .exact a25 h
 .simp only[bk,cB]at h;obtain⟨y,e2,rfl,rfl⟩:=h;have:=nN (n:=y.1) (r:=y.2) e2;obtain⟨-,c1,c2, -⟩:=mE (n:=y.1) (r:=y.2) e2;exact⟨w7 (.inl ⟨rfl,c1,c2,rfl,rfl⟩),by rw[kj (by decide)];omega⟩
end
theorem a1u(bH:Bool):∀n,(∀s t r,pT bH n s=some (t,r)->Q t s r)/\∀s l r,jC bH n s=some (l,r)->QL l s r
 |0=>by
  refine⟨λs t r h=>by simp[pT]at h,λs l r h=>?_⟩;unfold jC at h;split at h
  .cases h
  .simp only[aD,cB]at h;obtain⟨rfl,rfl⟩:=h;exact⟨by unfold lT;trivial,by simp[dF]⟩
 |n+1=>by
  obtain⟨I,Y⟩:=a1u bH n;refine⟨λs t r h=>aan I Y (by rw[pT]at h;exact h),λs l r h=>?_⟩;unfold jC at h;split at h
  .next x e=>
   have:=ct e;simp only[cD,c7]at this;obtain⟨a1,a2⟩:=Zh I Y h;exact⟨a1,by omega⟩
  .simp only[aD,cB]at h;obtain⟨rfl,rfl⟩:=h;exact⟨by unfold lT;trivial,by simp[dF]⟩
theorem a1W{bH:Bool}{s r:B}{t:Tm}(h:PT bH s=some (t,r)):t.wf/\t.words+2*r.length<=2*s.length:=(a1u bH _).1 s t r h
end
def Nb(l:B)(p:Nat):Prop:=∀i,i<p->l[i]? ≠some 32
theorem a5H{l:B}{j:Nat}:occAt l [32] j=true↔l[j]? =some 32:=by
 unfold occAt;constructor
 .intro h;obtain⟨t,a⟩:=List.isPrefixOf_iff_prefix.1 h;have:(l.drop j)[0]? =some 32:=by rw[<-a]<;>rfl
  rwa [tX,iF]at this
 .intro h;rw[cH h];simp
theorem O3{l:B}{p:Nat}(h:Nb l p):NoOcc l [32] p:=λj a=>by
 cases e:occAt l [32] j with
 |false=>rfl
 |true=>exact absurd (a5H.1 e) (h j a)
theorem a7Y{l:B}{p:Nat}(h:Nb l p)(a:l[p]? =some 32):cut l [32]=(l.take p,l.drop (p+1),true):=by have b:=mo a;have e:index l [32]=p:=index_hit (O3 h) (by omega) (a5H.2 a);unfold cut;rw[e,aJ (by omega)];simp
theorem a1c{l:B}(h:Nb l l.length):cut l [32]=(l,[],false):=by have e:index l [32]= -1:=index_past (by simp) (O3 h) (by simp);unfold cut;rw[e,av (by decide)]
def rd(u:B):Option Tm:=
 match PT true u with
 |some (t,r)=>if r=[]then some t else none
 |none=>none
theorem aal{u:B}{t:Tm}(h:PT true u=some (t,[])):rd u=some t:=by unfold rd;rw[h]<;>rfl
theorem aam{u:B}(h:PT true u=none):rd u=none:=by unfold rd;rw[h]
theorem a60{u r:B}{t:Tm}(h:PT true u=some (t,r))(a:r≠[]):rd u=none:=by unfold rd;rw[h];simp only[av a]
theorem TR{u:B}{t:Tm}(h:rd u=some t):t.wf/\t.words<=2*u.length:=by
 unfold rd at h;cases e:PT true u with
 |none=>rw[e]at h;cases h
 |some x=>
  rw[e]at h;simp only at h;split at h
  .obtain rfl:=ae h;obtain⟨a,b⟩:=a1W (t:=x.1) (r:=x.2) e;exact⟨a,by omega⟩
  .cases h
theorem Oh{u:B}{t:Tm}(h:PT false u=some (t,[])):rd u=if t.fits then some t else none:=by grind[rd,FG,gz]
theorem Og{u:B}(h:PT false u=none):rd u=none:=by unfold rd;rw[FG,h]<;>rfl
theorem Lp{u r:B}{t:Tm}(h:PT false u=some (t,r))(a:r≠[]):rd u=none:=by grind[rd,FG,gz]
def tQ(s:B):Option Int:=
 match atoiAll s with
 | .ok n=>if 0<=n/\n<=bF/\itoa n=s then some n else none
 |_=>none
theorem Bw{s:B}{n:Int}:tQ s=some n↔0<=n/\n<=bF/\itoa n=s:=by grind[tQ,xN,bF]
def val:B->Nat:=List.foldl (λa c=>a*10+(c.toNat-48)) 0
theorem AQ(l:B)(c:UInt8):val (l++[c])=val l*10+(c.toNat-48):=by simp[val]
theorem KU:∀(k n:Nat),n<=k->val (decDigits n)=n
 |k,n,h=>by
  rw[decDigits_eq];split
  .next a=>
   show 0*10+((UInt8.ofNat (48+n)).toNat-48)=n;rw[iT a];omega
  .next a=>
   cases k with
   |zero=>omega
   |succ k=>rw[AQ,KU k (n/10) (by omega),iT (Nat.mod_lt _ (by decide))];omega
theorem gf{c:UInt8}:digit c=true↔48<=c.toNat/\c.toNat<=57:=by simp[digit]
theorem D9{c:UInt8}(h:digit c=true):UInt8.ofNat (48+(c.toNat-48))=c:=by have:=gf.1 h;rw[show 48+(c.toNat-48)=c.toNat by omega];exact UInt8.ofNat_toNat
theorem Tq{c:UInt8}:∀(l:B),digit c=true->c≠48->1<=val (c::l):=by
 intro l b f;have g:c.toNat≠48:=λe=>f (hD.1 e)
 have:=gf.1 b;have key:∀(l:B)(a:Nat),1<=a->1<=l.foldl (λa c=>a*10+(c.toNat-48)) a:=by
  intro l;induction l with
  |nil=>intro a h;exact h
  |cons d l i=>intro a h;exact i (a*10+(d.toNat-48)) (by omega)
 exact key l (0*10+(c.toNat-48)) (by omega)
theorem UY:∀(k:Nat)(l:B),l.length=k+1->(∀c∈l,digit c=true)->(k=0\/l[0]? ≠some 48)->decDigits (val l)=l
 |0,l,h,a,_=>by
  match l,h with
  | [c],_=>
    have d:=a c bB;have:=gf.1 d;have e:val [c]=c.toNat-48:=by simp[val]
    rw[e,decDigits_eq,aJ (by omega),D9 d]
 |k+1,l,h,a,b=>by
  rcases List.eq_nil_or_concat l with rfl|⟨O,c,rfl⟩
  .simp at h
  .rw[List.concat_eq_append]at h a b ⊢;have f:O.length=k+1:=by simpa using h
   have d:=a c (by simp);have i:=gf.1 d;have b:(O++[c])[0]? ≠some 48:=b.resolve_left (by omega);rw[AL (by omega)]at b;have j:=UY k O f (λx Z=>a x (by simp[Z])) (.inr b);have g:1<=val O:=by
    match O,f with
    |x::r,_=>exact Tq r (a x (by simp)) (λe=>b (by simp[e]))
   rw[AQ,decDigits_eq,av (by omega)];rw[show(val O*10+(c.toNat-48))/10=val O by omega,show(val O*10+(c.toNat-48))%10=c.toNat-48 by omega,j,D9 d]
theorem a3h{s:B}(I:s≠[])(Y:∀c∈s,digit c=true)(W:s.length=1\/s[0]? ≠some 48)(U:(val s:Int)<=bF):tQ s=some (val s):=by
 have a:s.length=(s.length-1)+1:=by have:=List.length_pos_iff.2 I;omega
 refine Bw.2 ⟨by omega,U,?_⟩;unfold itoa;rw[av (by omega),tW];exact UY (s.length-1) s a Y (W.imp (λh=>by omega) id)
theorem s9{s:B}{n:Int}(h:tQ s=some n):s≠[]/\(∀c∈s,digit c=true)/\(s.length=1\/s[0]? ≠some 48)/\(val s:Int)=n/\n<=bF:=by
 obtain⟨I,Y,W⟩:=Bw.1 h;obtain⟨m,rfl⟩:=fK I;unfold itoa at W;rw[av (by omega),tW]at W;refine⟨by rw[<-W];exact Dp m,by rw[<-W];exact HJ m,?_,by rw[<-W,KU m m (bD _)],Y⟩;rcases ed m 10 with d|d
 .grind[decDigits_eq]
 .right;intro b;have f:∀(k m:Nat),m<=k->1<=m->(decDigits m)[0]? ≠some 48:=by
   intro k;induction k with
   |zero=>intro m I Y;omega
   |succ k g=>
    intro m I Y e;rw[decDigits_eq]at e;split at e
    .next a=>
     simp only[dj,aD]at e;have:=fo UInt8.toNat e;rw[iT a]at this;simp at this;omega
    .grind[Dp]
  rw[<-W]at b;exact f m m (bD _) (by omega) b
def uI:Tm:=.mk 8 0 [] []
def M8(u:B)(i:Nat)(nm:B)(l:List Tm):Prop:=u[i]? =some 32/\rd (u.take i)=some (.mk 2 0 nm [])/\rd (u.drop (i+1))=some (cz l uI)
def ef(u:B)(p:Nat):Prop:=∀i,i<p->∀nm l,¬M8 u i nm l
def lO(u nm:B)(l:List Tm):Prop:=∃p,ef u p/\M8 u p nm l
theorem G5:∀{a b:List Tm},cz a uI=cz b uI->a=b
 | [],[],_=>rfl
 | [],t::b,h=>by simp[cz,uI]at h
 |t::a,[],h=>by simp[cz,uI]at h
 |t::a,u::b,h=>by
  simp only[cz,Tm.mk.injEq,pj,fG,fp]at h;rw[h.1,G5 h.2]
theorem F8{u nm a:B}{l O:List Tm}(h:lO u nm l)(h':lO u a O):nm=a/\l=O:=by
 obtain⟨p,I,Y⟩:=h;obtain⟨q,W,U⟩:=h';have e:p=q:=by
  rcases Nat.lt_trichotomy p q with h|h|h
  .exact absurd Y (W p h nm l)
  .exact h
  .exact absurd U (I q h a O)
 subst e;obtain⟨-,a1,a2⟩:=Y;obtain⟨-,b,c⟩:=U;rw[a1]at b;rw[a2]at c;have b:=ae b;injection b with _ _ b _;exact⟨b,G5 (ae c)⟩
theorem VH{u nm:B}{l:List Tm}(h:ef u u.length)(h':lO u nm l):False:=by obtain⟨p, -,Y⟩:=h';exact h p (mo Y.1) nm l Y
theorem BH{u:B}{p:Nat}(h:ef u p)(h':∀nm l,¬M8 u p nm l):ef u (p+1):=λi V nm l=>by
 rcases ed i p with I|I
 .exact h i I nm l
 .obtain rfl:i=p:=by omega
  exact h' nm l
def Si(c:UInt8):Int:=if digit c then(c.toNat:Int)-48 else if 97<=c.toNat/\c.toNat<=102 then(c.toNat:Int)-87 else -1
def HV(h l:UInt8):UInt8:=UInt8.ofNat ((16*Si h+Si l)%256).toNat
def rq:B->B×Option B
 | []=>([],some [])
 |c::r=>
  if c.toNat=39 then([],some (c::r))
  else if c.toNat≠92 then(c::(rq r).1,(rq r).2)
  else match r with
   | []=>([0],none)
   |d::r2=>
    if d.toNat≠120 then(d::(rq r2).1,(rq r2).2)
    else match r2 with
     |h::l::a=>(HV h l::(rq a).1,(rq a).2)
     |x=>(d::(rq x).1,(rq x).2)
theorem oT(c:UInt8)(r:B):rq (c::r)=if c.toNat=39 then([],some (c::r))
  else if c.toNat≠92 then(c::(rq r).1,(rq r).2)
  else match r with
   | []=>([0],none)
   |d::r2=>
    if d.toNat≠120 then(d::(rq r2).1,(rq r2).2)
    else match r2 with
     |h::l::a=>(HV h l::(rq a).1,(rq a).2)
     |x=>(d::(rq x).1,(rq x).2):=by
 rw[rq.eq_def]<;>rfl
theorem Hl{c:UInt8}{n:Nat}(h:unhex c=some n):Si c=n:=by
 unfold unhex at h;unfold Si;split at h
 .next a=>
  rw[aJ a];have:=gf.1 a;have:=ae h;omega
 .grind
theorem SP(c:UInt8):HV (o0 (c.toNat/16)) (o0 (c.toNat%16))=c:=by
 have a:c.toNat<256:=c.toNat_lt;unfold HV;rw[Hl (ug (show c.toNat/16<16 by omega)),Hl (ug (show c.toNat%16<16 by omega))];have e:((16*((c.toNat/16:Nat):Int)+((c.toNat%16:Nat):Int))%256).toNat=c.toNat:=by omega
 rw[e];exact UInt8.ofNat_toNat
theorem a2I(c:UInt8)(s:B):rq (zU c++s)=(c::(rq s).1,(rq s).2):=by
 unfold zU;split
 .grind[rq,oT]
 .next h=>
  split
  .show rq (92::120::o0 (c.toNat/16)::o0 (c.toNat%16)::s)=_;rw[oT];rw[av (by decide),av (by decide)];simp only;rw[av (by decide),SP]
  .grind[rq,oT]
theorem YV:∀(a r:B),rq (qs a++39::r)=(a,some (39::r))
 | [],r=>by
   show rq (39::r)=_;rw[oT,aJ (by decide)]
 |c::a,r=>by
  have e:qs (c::a)++39::r=zU c++(qs a++39::r):=by simp[qs]
  rw[e,a2I,YV a r]
section
variable{l:B}{f p:Nat}{c d h k:UInt8}{acc:B}
def wP(l:B)(f p:Nat)(acc:B):Prop:=f+1<=p/\((p<=l.length/\rq (l.drop (f+1))=(acc++(rq (l.drop p)).1,(rq (l.drop p)).2))\/(p=l.length+1/\(rq (l.drop (f+1))).2=none))
theorem VL(a:f<l.length):wP l f (f+1) []:=⟨bD _,.inl ⟨a,by simp⟩⟩
theorem Gg(q:wP l f p acc)(a:l[p]? =some c):rq (l.drop (f+1))=(acc++(rq (l.drop p)).1,(rq (l.drop p)).2):=by
 obtain⟨-,h|h⟩:=q
 .exact h.2
 .have:=mo a;omega
theorem a2K(q:wP l f p acc)(a:l[p]? =some c)(I:c.toNat≠39)(Y:c.toNat≠92):wP l f (p+1) (acc++[c]):=by refine⟨by have:=q.1;omega,.inl ⟨mo a,?_⟩⟩;rw[Gg q a,cH a,oT,av I,aJ Y];simp
theorem a2J(q:wP l f p acc)(a:l[p]? =some c)(I:c.toNat=92)(b:l[p+1]? =some d)(Y:d.toNat≠120\/l.length<p+4):wP l f (p+2) (acc++[d]):=by
 refine⟨by have:=q.1;omega,.inl ⟨mo b,?_⟩⟩;rw[Gg q a,cH a,oT,av (by omega),av (by omega),cH b];simp only;by_cases W:d.toNat≠120
 .rw[aJ W];simp
 .grind[HV,rq,List.length_drop]
theorem a2L(q:wP l f p acc)(a:l[p]? =some c)(I:c.toNat=92)(b:l[p+1]? =some d)(Y:d.toNat=120)(hh:l[p+2]? =some h)(hk:l[p+3]? =some k):wP l f (p+4) (acc++[HV h k]):=by refine⟨by have:=q.1;omega,.inl ⟨mo hk,?_⟩⟩;rw[Gg q a,cH a,oT,av (by omega),av (by omega),cH b];simp only;rw[av (by omega),cH (show l[p+1+1]? =some h from hh),cH (show l[p+1+1+1]? =some k from hk)];simp
theorem YX(q:wP l f p acc)(a:l[p]? =some c)(I:c.toNat=92)(b:l.length<=p+1):wP l f (p+2) (acc++[0]):=by have:=mo a;refine⟨by have:=q.1;omega,.inr ⟨by omega,?_⟩⟩;rw[Gg q a,cH a,oT,av (by omega),av (by omega),tw b]
theorem a2M(q:wP l f p acc)(a:l[p]? =some c)(I:c.toNat=39):rq (l.drop (f+1))=(acc,some (l.drop p)):=by rw[Gg q a,cH a,oT,aJ I];simp
theorem YW(q:wP l f p acc)(b:l.length<=p):∀a c r,rq (l.drop (f+1))≠(a,some (c::r)):=λa c r e=>by
 obtain⟨-,h|h⟩:=q
 .rw[h.2,tw b]at e;simp[rq]at e
 .rw[e]at h;cases h.2
theorem TK(b:∀a r,rq (l.drop (f+1))=(a,some (39::r))->a.length<=64->plain a=false->l.drop f=quote a++r->False):cy (l.drop f)=none:=by
 cases Z:cy (l.drop f)with
 |none=>rfl
 |some x=>
  obtain⟨t,r⟩:=x;obtain⟨a,rfl,I,Y,W⟩:=qX.1 Z;refine(b a r ?_ I Y W).elim;have e:l.drop (f+1)=(l.drop f).drop 1:=by rw[List.drop_drop]
  rw[e,W];simp only[quote,kg,List.drop_succ_cons,oa,mw,fH];exact YV a r
theorem aaa(q:wP l f p acc)(a:l[p]? =some c)(I:c.toNat=39)(Y:acc.length<=64)(W:plain acc=false)(U:quote acc=(l.take (p+1)).drop f):cy (l.drop f)=some (.mk 2 0 acc [],l.drop (p+1)):=by have b:=mo a;refine qX.2 ⟨acc,rfl,Y,W,?_⟩;rw[U];have:=q.1;rw[<-EZ (by rw[c8];omega),List.take_append_drop]
theorem aab(q:wP l f p acc)(b:l[p]? =some c)(I:c.toNat=39)(d:acc.length<=64->plain acc=false->quote acc=(l.take (p+1)).drop f->False):cy (l.drop f)=none:=by
 have g:=mo b;refine TK λa r e Y W U=>?_
 rw[a2M q b I]at e;simp only[cB,aD]at e;obtain⟨rfl,e⟩:=e;rw[cH b]at e;simp only[pj]at e;obtain⟨-,rfl⟩:=e;refine d Y W ?_;have:=q.1;have h5:l.drop f=(l.take (p+1)).drop f++l.drop (p+1):=by rw[<-EZ (by rw[c8];omega),List.take_append_drop]
 rw[h5]at U;exact(List.append_cancel_right U).symm
theorem a2H(q:wP l f p acc)(b:l.length<=p):cy (l.drop f)=none:=TK λa r e _ _ _=>YW q b a 39 r e
end
theorem VZ:∀c:Fin 256,plain [97,UInt8.ofNat c.val]=letter (UInt8.ofNat c.val):=by decide+kernel
theorem T9(c:UInt8):plain [97,c]=letter c:=by
 have h:=VZ ⟨c.toNat,c.toNat_lt⟩
 rwa [show UInt8.ofNat c.toNat=c from UInt8.ofNat_toNat]at h
open Go.Proofs.YtokipodjggomfaaGreatDoor.Abs
def iO:Option Dt->Int
 |some (.val (.int _ n))=>n
 |_=>0
def sO:Option Dt->B
 |some (.val (.string s))=>s.data.toList
 |_=>[]
def cO:Option Dt->B
 |some (.ls _ J)=>(lK J).getD []
 |_=>[]
def dO:Option Dt->Dt
 |some d=>d
 |none=>.val .nilFunc
def tI(o:Option Dt):Prop:=o=some (iv (iO o))
def tU(o:Option Dt):Prop:=o=some (uv (iO o))
def tS(o:Option Dt):Prop:=o=some (sv (sO o))
def tC(o:Option Dt):Prop:=o=some (bd (cO o))
def tD(o:Option Dt):Prop:=o=some (dO o)
theorem zN{k:IntKind}{n:Int}:iO (some (.val (.int k n)))=n:=rfl
theorem zl{s:B}:sO (some (sv s))=s:=rfl
theorem Co{s:B}:cO (some (bd s))=s:=by simp only[cO,ot,hE]
theorem qK{d:Dt}:dO (some d)=d:=rfl
theorem xU{n:Int}:tI (some (iv n))=True:=by simp[tI,iO]
theorem xS{n:Int}:tU (some (uv n))=True:=by simp[tU,iO]
theorem xT{s:B}:tS (some (sv s))=True:=by simp[tS,sO]
theorem F3{s:B}:tC (some (bd s))=True:=by simp[tC,Co]
theorem kI{d:Dt}:tD (some d)=True:=by simp[tD,dO]
def gi(E:G)(n:Nat):Int:=iO (ax E (.var n))
def gs(E:G)(n:Nat):B:=sO (ax E (.var n))
def gc(E:G)(n:Nat):B:=cO (ax E (.var n))
def gd(E:G)(n:Nat):Dt:=dO (ax E (.var n))
section
variable{E:G}{n:Nat}
theorem v_i:iO (ax E (.var n))=gi E n:=rfl
theorem v_s:sO (ax E (.var n))=gs E n:=rfl
theorem v_c:cO (ax E (.var n))=gc E n:=rfl
theorem v_d:dO (ax E (.var n))=gd E n:=rfl
theorem w_i:tI (ax E (.var n))=(ax E (.var n)=some (iv (gi E n))):=rfl
theorem w_u:tU (ax E (.var n))=(ax E (.var n)=some (uv (gi E n))):=rfl
theorem w_s:tS (ax E (.var n))=(ax E (.var n)=some (sv (gs E n))):=rfl
theorem w_c:tC (ax E (.var n))=(ax E (.var n)=some (bd (gc E n))):=rfl
theorem w_d:tD (ax E (.var n))=(ax E (.var n)=some (gd E n)):=rfl
end
def Qe(E:G):List Fact->Prop
 | []=>True
 |f::l=>f.holds E/\Qe E l
def vN(E:G):List Fact->Prop
 | []=>True
 | .rel nm false p a::l=>(Fact.rel nm false p a).holds E/\vN E l
 |_::l=>vN E l
theorem Cs{E:G}:∀{l:List Fact},(∀f∈l,f.holds E)->Qe E l
 | [],_=>trivial
 |f::l,h=>⟨h f bB,Cs λg a=>h g (bQ _ a)⟩
theorem Bd{E:G}:∀{l:List Fact},(∀f∈l,f.holds E)->vN E l
 | [],_=>trivial
 |f::l,h=>by
  have c:=Bd λg d=>h g (bQ _ d)
  cases f with
  |rel nm b p a=>
   cases b with
   |true=>exact c
   |false=>exact⟨h _ bB,c⟩
  |_=>exact c
section
variable{E:G}{f:Fact}{l:List Fact}{nm:String}{p:List Dt->Prop}{a:List SE}{e n:SE}
theorem Qk:Qe E []=True:=rfl
theorem H7:Qe E (f::l)=(f.holds E/\Qe E l):=rfl
theorem Ol:vN E []=True:=rfl
theorem Oj:vN E (.rel nm false p a::l)=((Fact.rel nm false p a).holds E/\vN E l):=rfl
theorem Ok:vN E (.rel nm true p a::l)=vN E l:=rfl
theorem Ze:vN E (.tr e::l)=vN E l:=rfl
theorem Zf:vN E (.fl e::l)=vN E l:=rfl
theorem Om:vN E (.inr e n::l)=vN E l:=rfl
def inO:Option Dt->Option Dt->Prop
 |some (.val (.int _ a)),some (.val (.int .i64 m))=>0<=a/\a<m
 |_,_=>False
theorem wx{k:IntKind}{a m:Int}:inO (some (.val (.int k a))) (some (iv m))=(0<=a/\a<m):=rfl
theorem Kh:Fact.holds E (.inr e n)=inO (ax E e) (ax E n):=by
 apply propext;show(∃k a m,ax E e=some (.val (.int k a))/\ax E n=some (.val (.int .i64 m))/\0<=a/\a<m)↔_;constructor
 .rintro⟨k,a,m,I,Y,W⟩;rw[I,Y];exact W
 .intro h;unfold inO at h;split at h
  .rename_i I Y;exact⟨_,_,_,I,Y,h⟩
  .exact h.elim
theorem PB{nm:String}:Fact.holds E (.rel nm true pTr [e])=¬ax E e=some (.val (.bool true)):=propext (not_congr Lm)
theorem PF{nm:String}:Fact.holds E (.rel nm true pFl [e])=¬ax E e=some (.val (.bool false)):=propext (not_congr Rc)
theorem PC{nm:String}:Fact.holds E (.rel nm true Wb [e,n])=¬inO (ax E e) (ax E n):=by have:Fact.holds E (.rel nm true Wb [e,n])=¬(Fact.inr e n).holds E:=propext (not_congr Gs);rw[this,Kh]
end
section
variable{E:G}{nm:String}{e:SE}{k:IntKind}
theorem Uz{k:Kd}:Fact.holds E (.rel nm false (CU k) [e])=∃d,ax E e=some d/\k.fits d:=by
 apply propext;constructor
 .rintro⟨l,h,d,rfl,I⟩;have h:(ax E e).bind (λd=>(some []).map λr=>d::r)=some [d]:=h;cases a:ax E e with
  |none=>rw[a]at h;cases h
  |some x=>rw[a]at h;injection h with h;injection h with h;exact⟨x,rfl,h▸I⟩
 .rintro⟨d,h,I⟩;refine⟨[d],?_,d,rfl,I⟩;show(ax E e).bind (λd=>(some []).map λr=>d::r)=some [d];rw[h]<;>rfl
theorem k_i:Fact.holds E (.rel nm false (CU (.int .i64)) [e])=tI (ax E e):=by
 rw[Uz];apply propext;constructor
 .rintro⟨d,h,n,rfl⟩;rw[h,xU];trivial
 .intro h;exact⟨_,h,_,rfl⟩
theorem k_u:Fact.holds E (.rel nm false (CU (.int .u8)) [e])=tU (ax E e):=by
 rw[Uz];apply propext;constructor
 .rintro⟨d,h,n,rfl⟩;rw[h,xS];trivial
 .intro h;exact⟨_,h,_,rfl⟩
theorem k_s:Fact.holds E (.rel nm false (CU .str) [e])=tS (ax E e):=by
 rw[Uz];apply propext;constructor
 .rintro⟨d,h,s,rfl⟩;rw[h];exact(xT (s:=s.data.toList)).mpr trivial
 .intro h;exact⟨_,h,_,rfl⟩
theorem IY{t:TypeId}:Fact.holds E (.rel nm false (CU (.sl t)) [e])=(tD (ax E e)/\Kd.fits (.sl t) (dO (ax E e))):=by
 rw[Uz];apply propext;constructor
 .rintro⟨d,h,I⟩;rw[h];exact⟨rfl,I⟩
 .intro h;exact⟨_,h.1,h.2⟩
end
def Q1(p:Prop):Prop:=p
theorem cP{E:G}{x:SE}{l:List SE}{ds:List Dt}:jj E (x::l)=some ds↔∃d r,ax E x=some d/\jj E l=some r/\ds=d::r:=by show(ax E x).bind (λd=>(jj E l).map λr=>d::r)=some ds↔_;cases ax E x<;>cases jj E l<;>simp[eq_comm]
theorem eW{E:G}{ds:List Dt}:jj E []=some ds↔ds=[]:=by show some []=some ds↔_;simp[eq_comm]
inductive Sh|i|u|s|c|d
abbrev Sh.T:Sh->Type| .i=>Int| .u=>Int| .s=>B| .c=>B| .d=>Dt
def Sh.mk:(k:Sh)->k.T->Dt| .i,a=>iv a| .u,a=>uv a| .s,a=>sv a| .c,a=>bd a| .d,a=>a
def Sh.ok:Sh->Option Dt->Prop| .i=>tI| .u=>tU| .s=>tS| .c=>tC| .d=>tD
def Sh.rd:(k:Sh)->Option Dt->k.T| .i,o=>iO o| .u,o=>iO o| .s,o=>sO o| .c,o=>cO o| .d,o=>dO o
abbrev Kx:List Sh->Type| []=>Prop| .i::l=>Int->Kx l| .u::l=>Int->Kx l| .s::l=>B->Kx l| .c::l=>B->Kx l| .d::l=>Dt->Kx l
def apS{l:List Sh}:(k:Sh)->Kx (k::l)->k.T->Kx l| .i,q,a=>q a| .u,q,a=>q a| .s,q,a=>q a| .c,q,a=>q a| .d,q,a=>q a
def pS:(l:List Sh)->Kx l->PD| [],q,L=>L=[]/\q|k::l,q,L=>∃a r,L=k.mk a::r/\pS l (apS k q a) r
def oks(E:G):List Sh->List SE->Prop| [],[]=>True|k::l,e::J=>k.ok (ax E e)/\oks E l J|_,_=>False
def dc(E:G):(l:List Sh)->Kx l->List SE->Prop| [],q,[]=>q|k::l,q,e::J=>k.ok (ax E e)/\dc E l (apS k q (k.rd (ax E e))) J|_,_,_=>False
theorem a5y{k:Sh}{a:k.T}:k.ok (some (k.mk a))/\k.rd (some (k.mk a))=a:=by
 cases k with
 |c=>exact⟨F3.mpr trivial,Co⟩
 |_=>exact⟨by simp[Sh.ok,Sh.mk,tI,tU,tS,tD,iO,sO,dO],rfl⟩
theorem a9Z{k:Sh}{o:Option Dt}(h:k.ok o):o=some (k.mk (k.rd o)):=by cases k<;>exact h
theorem a7J{E:G}:∀(l:List Sh)(q:Kx l)(J:List SE),(∃ds,jj E J=some ds/\pS l q ds)↔dc E l q J
 | [],q,[]=>⟨λ⟨_,_,_,h⟩=>h,λh=>⟨[],rfl,rfl,h⟩⟩
 | [],q,e::J=>⟨λ⟨ds,h,I,_⟩=>(by obtain⟨_,_,_,_,h⟩:=cP.1 h;rw[h]at I;cases I),λh=>False.elim h⟩
 |k::l,q,[]=>⟨λ⟨ds,h,a,r,I,_⟩=>(by rw[eW.1 h]at I;cases I),λh=>False.elim h⟩
 |k::l,q,e::J=>by
  constructor
  .rintro⟨ds,h,a,r,rfl,I⟩;obtain⟨d,r',g,h,b⟩:=cP.1 h;injection b with e1 e2;subst e1;subst e2;refine⟨by rw[g];exact a5y.1,?_⟩;rw[g,a5y.2];exact(a7J l (apS k q a) J).1 ⟨_,h,I⟩
  .rintro⟨h,I⟩;obtain⟨r,Y,W⟩:=(a7J l (apS k q (k.rd (ax E e))) J).2 I;exact⟨_,cP.2 ⟨_,_,a9Z h,Y,rfl⟩,_,_,rfl,W⟩
theorem h_S{E:G}{nm:String}{l:List Sh}{q:Kx l}{J:List SE}:Fact.holds E (.rel nm false (pS l q) J)=dc E l q J:=propext (a7J l q J)
theorem ZG{E:G}:∀{l:List Sh}{q:Kx l}{J:List SE},dc E l q J->oks E l J
 | [],_,[],_=>trivial
 |_::_,_,_::_,h=>⟨h.1,ZG h.2⟩
theorem x_S{E:G}{nm:String}{l:List Sh}{q:Kx l}{J:List SE}:Fact.holds E (.rel nm false (pS l q) J)=(oks E l J/\Q1 (dc E l q J)):=h_S.trans (propext ⟨λh=>⟨ZG h,h⟩,λh=>h.2⟩)
theorem n_S{E:G}{nm:String}{l:List Sh}{q:Kx l}{J:List SE}:Fact.holds E (.rel nm true (pS l q) J)=¬dc E l q J:=by rw[<-h_S (nm:=nm)]<;>rfl
section
variable{E:G}{k:Sh}{l:List Sh}{e:SE}{J:List SE}{o:Option Dt}
theorem a07{q:Prop}:dc E [] q []=q:=rfl
theorem a08{q:Kx (k::l)}:dc E (k::l) q (e::J)=(k.ok (ax E e)/\dc E l (apS k q (k.rd (ax E e))) J):=rfl
theorem ZI:oks E [] []=True:=rfl
theorem ZM:oks E (k::l) (e::J)=(k.ok (ax E e)/\oks E l J):=rfl
theorem IA:Sh.ok .i o=tI o:=rfl
theorem Iy:Sh.ok .u o=tU o:=rfl
theorem Iz:Sh.ok .s o=tS o:=rfl
theorem IC:Sh.ok .c o=tC o:=rfl
theorem IB:Sh.ok .d o=tD o:=rfl
theorem a1D{q:Int->Kx l}{a:Int}:apS .i q a=q a:=rfl
theorem a1B{q:Int->Kx l}{a:Int}:apS .u q a=q a:=rfl
theorem a1C{q:B->Kx l}{a:B}:apS .s q a=q a:=rfl
theorem a1F{q:B->Kx l}{a:B}:apS .c q a=q a:=rfl
theorem a1E{q:Dt->Kx l}{a:Dt}:apS .d q a=q a:=rfl
theorem YE:(Sh.rd .i o:Int)=iO o:=rfl
theorem YC:(Sh.rd .u o:Int)=iO o:=rfl
theorem YD:(Sh.rd .s o:B)=sO o:=rfl
theorem YG:(Sh.rd .c o:B)=cO o:=rfl
theorem YF:(Sh.rd .d o:Dt)=dO o:=rfl
end
section
mutual
def en(T:TypeId):Tm->List Dt->Prop
 | .mk k n s l,ds=>∃(a:Option Addr)(c:Nat)(J:List Dt),ds=[iv k,iv n,sv s,.sl (.slice a l.length c) T 4 J]/\(a=none->l.length=0/\c=0)/\gr T l J
def gr(T:TypeId):List Tm->List Dt->Prop
 | [],J=>J=[]
 |t::l,J=>∃c r,J=c++r/\en T t c/\gr T l r
end
variable{T:TypeId}
theorem oU{t:Tm}{c:List Dt}(h:en T t c):c.length=4:=by
 cases t with
 |mk k n s l=>unfold en at h;obtain⟨a,c,J,rfl, -⟩:=h;rfl
theorem lj:∀{l:List Tm}{J:List Dt},gr T l J->J.length=l.length*4
 | [],J,h=>by unfold gr at h;subst h;rfl
 |t::l,J,h=>by
  unfold gr at h;obtain⟨c,r,rfl,I,Y⟩:=h;rw[cg,oU I,lj Y,cD];omega
theorem vM:∀{l m:List Tm}{a b:List Dt},gr T l a->gr T m b->gr T (l++m) (a++b)
 | [],m,a,b,I,Y=>by unfold gr at I;subst I;exact Y
 |t::l,m,a,b,I,Y=>by
  unfold gr at I;obtain⟨c,r,rfl,W,U⟩:=I;show gr T (t::(l++m)) (c++r++b);unfold gr;exact⟨c,r++b,by rw[mw],W,vM U Y⟩
theorem A9{t:Tm}{c:List Dt}(h:en T t c):gr T [t] c:=by unfold gr;exact⟨c,[],by simp,h,by unfold gr;rfl⟩
theorem VO{l:List Tm}{t:Tm}{a c:List Dt}(I:gr T l a)(Y:en T t c):gr T (l++[t]) (a++c):=vM I (A9 Y)
theorem Gr:∀{l:List Tm}{J:List Dt},gr T l J->∀(i:Nat)(t:Tm),l[i]? =some t->∃c,en T t c/\∀j d,c[j]? =some d->J[i*4+j]? =some d
 | [],J,h,i,t,V=>by cases V
 |u::l,J,h,i,t,V=>by
  unfold gr at h;obtain⟨c,r,rfl,I,Y⟩:=h;have f:=oU I;cases i with
  |zero=>
   simp only[dj,aD]at V;subst V;refine⟨c,I,λj d a=>?_⟩;have b:j<c.length:=by grind
   rw[mr,eD,AL b];exact a
  |succ i=>
   obtain⟨c',W,U⟩:=Gr Y i t (by simpa using V);refine⟨c',W,λj d a=>?_⟩;rw[CD (by omega),f];have e:(i+1)*4+j-4=i*4+j:=by omega
   rw[e];exact U j d a
end
def dg(s:B):B:=match s with
 | []=>[]
 |c::r=>if c=45 then r else c::r
theorem a4k{u:B}{c:UInt8}(h:c≠45\/u≠[]):dg (u++[c])=dg u++[c]:=by
 cases u with
 |nil=>have h:c≠45:=h.resolve_right (λh=>h rfl);simp[dg,h]
 |cons x r=>simp only[dg,kg];split<;>simp
theorem WY{u v:B}(h:u≠[]):dg (u++v)=dg u++v:=by
 cases u with
 |nil=>exact absurd rfl h
 |cons x r=>simp only[dg,kg];split<;>simp
theorem Ye(a b:B):val a<=val (a++b):=by
 have key:∀(b:B)(n:Nat),n<=b.foldl (λa c=>a*10+(c.toNat-48)) n:=by
  intro b;induction b with
  |nil=>intro n;exact bD _
  |cons c b d=>intro n;exact iG (by omega) (d (n*10+(c.toNat-48)))
 unfold val;rw[List.foldl_append];exact key b _
theorem a4l(m:Int):dg (itoa m)=decDigits m.natAbs:=by
 unfold itoa;split
 .simp[dg]
 .next h=>
  obtain⟨c,q,b,a,d⟩:=B8 m.toNat;have e:m.toNat=m.natAbs:=by omega
  rw[e]at b ⊢;rw[b];have:c≠45:=λe=>by rw[e]at a;exact absurd a (by decide)
  simp[dg,this]
theorem Nv(m:Int):val (dg (itoa m))=m.natAbs:=by rw[a4l];exact KU _ _ (bD _)
theorem UZ:∀(j k:Nat),k<10^(j+1)->(decDigits k).length<=j+1
 |j,k,h=>by
  rw[decDigits_eq];split
  .simp
  .next hk=>
   cases j with
   |zero=>simp at h;omega
   |succ j=>rw[cg];have:=UZ j (k/10) (by rw[Nat.pow_succ]at h;omega);simp only[cD,c7];omega
theorem Hh{m:Int}(h:m.natAbs<=576460752303423488):(itoa m).length<=19:=by
 have I:=UZ 17 m.natAbs (Nat.lt_of_le_of_lt h (by decide));unfold itoa;split
 .simp only[cD];omega
 .grind
theorem QN:∀(l:B)(c:UInt8),c∈l.takeWhile digit->digit c=true
 | [],c,h=>by cases h
 |x::l,c,h=>by
  rw[List.takeWhile_cons]at h;split at h
  .next Z=>
   cases h with
   |head=>exact Z
   |tail _ h=>exact QN l c h
  .cases h
theorem Tx(l:B):l.take (l.takeWhile digit).length=l.takeWhile digit:=(List.prefix_iff_eq_take.1 (List.takeWhile_prefix digit)).symm
theorem run_shape(X:B):∃ds:B,(∀c∈ds,digit c=true)/\(X.take (run X)=ds\/X.take (run X)=45::ds):=by
 cases X with
 |nil=>exact⟨[],(λc h=>nomatch h),.inl rfl⟩
 |cons c r=>
  unfold run;simp only;split
  .next h=>
   refine⟨r.takeWhile digit,QN r,.inr ?_⟩;rw[Nat.add_comm,List.take_succ_cons,Tx];congr 1;exact hD.1 h
  .exact⟨(c::r).takeWhile digit,QN _,.inl (Tx _)⟩
section
variable{l:B}{f p i:Nat}{c:UInt8}{n least most:Int}
theorem a5u(h:jy l f p)(V:i<=p):(l.take i).drop f=((l.drop f).take (run (l.drop f))).take (i-f):=by obtain⟨I,Y,W⟩:=h;rw[List.drop_take,List.take_take,Nat.min_eq_left (by omega)]
theorem Tn(h:jy l f p):∃ds:B,(∀c∈ds,digit c=true)/\((l.take p).drop f=ds\/(l.take p).drop f=45::ds)/\((l.take p).drop f).length=p-f:=by
 have b:((l.take p).drop f).length=p-f:=by obtain⟨I,Y, -⟩:=h;rw[eV,c8];omega
 obtain⟨ds,d,U⟩:=run_shape (l.drop f);have e:=a5u h (bD p);rcases U with U|U
 .rw[U]at e;exact⟨ds.take (p-f),λc a=>d c (List.mem_of_mem_take a),.inl e,b⟩
 .rw[U]at e;cases hk:p-f with
  |zero=>rw[hk]at e;exact⟨[],(λc a=>nomatch a),.inl (by rw[e]<;>rfl),by rw[e]<;>rfl⟩
  |succ k=>rw[hk,List.take_succ_cons]at e;exact⟨ds.take k,λc a=>d c (List.mem_of_mem_take a),.inr e,by rw[<-hk];exact b⟩
theorem a9O(h:jy l f p)(a:f<=i)(V:i<p)(b:l[i]? =some c):(c=45/\i=f)\/digit c=true:=by
 have d:((l.take p).drop f)[i-f]? =some c:=by grind
 obtain⟨ds,e,U|U, -⟩:=Tn h
 .grind
 .grind
def l5(l:B)(f p i:Nat)(n:Int):Prop:=jy l f p/\p<=f+20/\f<=i/\i<=p/\n= -(val (dg ((l.take i).drop f)):Int)/\dX<=n
theorem YQ(h:jy l f p)(a:p<=f+20):l5 l f p f 0:=by refine⟨h,a,bD _,h.1,?_,by decide⟩;rw[show(l.take f).drop f=[]from vw (by rw[c8];omega)];rfl
theorem YR(h:l5 l f p i n)(V:i<p)(a:l[i]? =some 45):l5 l f p (i+1) n:=by
 obtain⟨I,Y,W,U,h5,h6⟩:=h;rcases a9O I W V a with⟨-,rfl⟩|b
 .refine⟨I,Y,by omega,by omega,?_,h6⟩;have e:(l.take i).drop i=[]:=vw (by rw[c8];omega);rw[e]at h5;rw[tv (bD _) a,e,h5]<;>rfl
 .exact absurd b (by decide)
theorem TJ(h:l5 l f p i n)(b:l[i]? =some c)(a:c≠45):(val (dg ((l.take (i+1)).drop f)):Int)= -(10*n-(c.toNat-48:Nat)):=by obtain⟨I,Y,W,U,h5,h6⟩:=h;rw[tv W b,a4k (.inl a),AQ];omega
theorem YT(h:l5 l f p i n)(V:i<p)(b:l[i]? =some c)(a:c≠45)(d:dX<=10*n-(c.toNat-48:Nat)):l5 l f p (i+1) (10*n-(c.toNat-48:Nat)):=by have e:=TJ h b a;obtain⟨I,Y,W,U,h5,h6⟩:=h;exact⟨I,Y,by omega,by omega,by omega,d⟩
theorem a2D(h:l5 l f p i n)(V:i<p)(b:l[i]? =some c)(a:c≠45)(j:dX<=least)(k:most<=fc)(o:10*n-(c.toNat-48:Nat)<dX):eE least most (l.drop f)=none:=by
 have e:=TJ h b a;obtain⟨I,Y,W,U,h5,h6⟩:=h;cases Z:eE least most (l.drop f)with
 |none=>rfl
 |some x=>
  obtain⟨m,r⟩:=x;obtain⟨g1,g2,g3,g4⟩:=mE Z;have q:(l.take (i+1)).drop f=(itoa m).take (i+1-f):=by grind[a5u]
  have d:(l.take (i+1)).drop f≠[]:=by rw[tv W b];simp
  have g:val (dg ((l.take (i+1)).drop f))<=val (dg (itoa m)):=by grind[WY,Ye,List.take_append_drop]
  rw[Nv]at g;unfold dX at *;unfold fc at *;omega
def EF(l:B)(f p:Nat):Prop:=(∀c,l[p]? =some c->digit c=false)\/p=f+20
def adx(l:B)(f p:Nat)(n m:Int):Prop:=(f<p/\l[f]? =some 45/\m=n)\/((f=p\/l[f]? ≠some 45)/\m= -n)
theorem a96{m:Int}(h:l5 l f p p n)(a:EF l f p)(b:itoa m=(l.take p).drop f)(I:least<=m)(Y:m<=most)(d:dX<=least)(e:most<=fc):eE least most (l.drop f)=some (m,l.drop p):=by
 obtain⟨g1,g2,g3,g4,g5,g6⟩:=h;unfold dX at *;unfold fc at *;have c:atoiAll ((l.take p).drop f)=.ok m:=by rw[<-b];exact xN (by omega) (by omega)
 rcases a with a|a
 .exact C2 g1 a c b I Y
 .grind[Tn,Hh]
theorem a97{m:Int}(h:l5 l f p p n)(j:EF l f p)(t:adx l f p n m)(u:dX<=least)(v:most<=fc)(w:itoa m=(l.take p).drop f->least<=m->m<=most->False):eE least most (l.drop f)=none:=by
 obtain⟨g1,g2,g3,g4,g5,g6⟩:=h;cases Z:eE least most (l.drop f)with
 |none=>rfl
 |some x=>
  obtain⟨q,r⟩:=x;obtain⟨y,z,A,B⟩:=mE Z;have C:q.natAbs<=576460752303423488:=by unfold dX at u;unfold fc at v;omega
  have s:=Hh C;have k:(l.take p).drop f=itoa q:=by
   rcases j with j|j
   .rw[<-(GU g1 j).1,B,y,List.take_left]
   .have:=g1.2.2;omega
  have F:(val (dg ((l.take p).drop f)):Int)=q.natAbs:=by rw[k,Nv]
  have e:(f<p/\l[f]? =some 45)↔q<0:=by
   have b:f<p->l[f]? =(itoa q)[0]? :=λd=>by
    rw[<-k,tX,vu,aJ (by omega),iF]
   constructor
   .rintro⟨d,a⟩;rw[b d]at a;unfold itoa at a;split at a
    .assumption
    .obtain⟨c,G,D,g,E⟩:=B8 q.toNat;rw[D]at a;simp only[dj,aD]at a;rw[a]at g;exact absurd g (by decide)
   .intro i;have d:f<p:=by grind[Hg]
    refine⟨d,?_⟩;rw[b d];unfold itoa;rw[aJ i]<;>rfl
  have o:m=q:=by
   rcases t with⟨s1,s2,rfl⟩|⟨s1,rfl⟩
   .have:=e.1 ⟨s1,s2⟩;omega
   .grind
  subst o;exact(w k.symm z A).elim
end
section
variable{T:TypeId}{K:TypeId->List Kd}
theorem Vv{k n:Int}{s:B}{m:Nat}(h:wf1 k n s m)(a:k=9\/m<=64):da k n s.length m:=by
 unfold wf1 dX fc bF at h;unfold da;rcases h with⟨rfl,I,Y,rfl,rfl⟩|⟨rfl,rfl,I,rfl⟩|⟨b,I,Y,rfl,rfl⟩|⟨rfl,I,Y,rfl⟩|⟨rfl,rfl,rfl⟩|⟨rfl,rfl,rfl,rfl⟩|⟨rfl,rfl,rfl,rfl⟩
 .exact .inl ⟨rfl,I,Y,rfl,rfl⟩
 .exact .inr (.inl ⟨rfl,rfl,I,rfl⟩)
 .grind
 .grind
 .grind
 .grind
 .grind
mutual
theorem TN:∀{t:Tm}{d0 d1 d2 d3:Dt},en T t [d0,d1,d2,d3]->t.wf->t.fits=true->Cu d0 d1 d2 d3
 | .mk k n s l,d0,d1,d2,d3,h,d,b=>by
   unfold en at h;obtain⟨a,c,J,e, -,f⟩:=h;injection e with e0 e;injection e with e1 e;injection e with e2 e;injection e with e3 _;subst e0;subst e1;subst e2;subst e3;unfold Tm.wf at d;unfold Tm.fits at b;simp only[aM,il,rC]at b;exact Cu.iff.2 ⟨Vv d.1 b.1,N9 f d.2 b.2⟩
theorem N9:∀{l:List Tm}{J:List Dt},gr T l J->lT l->e9 l=true->gP J
 | [],J,h,_,_=>by unfold gr at h;subst h;exact gP.nil
 |t::l,J,h,b,a=>by
  unfold gr at h;obtain⟨c,r,rfl,I,Y⟩:=h;unfold lT at b;unfold e9 at a;simp only[aM]at a;have U:=oU I
  match c,U,I with
  | [d,e,f,g],_,I=>exact gP.append (m:=1) rfl (gP.one.2 (TN I b.1 a.1)) (N9 Y b.2 a.2)
end
mutual
theorem VN:∀{t:Tm}{a b:List Dt},en T t a->en T t b->jK a b
 | .mk k n s l,a,b,h,h'=>by
   unfold en at h h';obtain⟨x,c,J,rfl, -,e⟩:=h;obtain⟨f,c',lS,rfl, -,d⟩:=h';exact .cons _ _ _ _ (.val _) (.cons _ _ _ _ (.val _) (.cons _ _ _ _ (.val _) (.cons _ _ _ _ (.sl _ _ _ _ _ _ _ _ _ _ _ (zo e d)) .nil)))
theorem zo:∀{l:List Tm}{a b:List Dt},gr T l a->gr T l b->jK a b
 | [],a,b,h,h'=>by unfold gr at h h';subst h;subst h';exact .nil
 |t::l,a,b,h,h'=>by
  unfold gr at h h';obtain⟨c,r,rfl,I,Y⟩:=h;obtain⟨c',r',rfl,d,e⟩:=h';exact(VN I d).append (zo Y e)
end
mutual
theorem TP:∀{t:Tm}{a:List Dt},en T t a->dk a=4*t.size
 | .mk k n s l,a,h=>by
   unfold en at h;obtain⟨x,c,J,rfl, -,b⟩:=h;have:=Gq b;simp only[dk,Qr,Tm.size];omega
theorem Gq:∀{l:List Tm}{a:List Dt},gr T l a->dk a=4*sizes l
 | [],a,h=>by unfold gr at h;subst h;rfl
 |t::l,a,h=>by
  unfold gr at h;obtain⟨c,r,rfl,I,Y⟩:=h;have:=TP I;have:=Gq Y;rw[eH];simp only[sizes];omega
end
mutual
theorem iL:∀t:Tm,t.size<=t.words
 | .mk k n s l=>by
   have:=vF l;unfold Tm.size Tm.words;split<;>omega
theorem vF:∀l:List Tm,sizes l<=dF l
 | []=>bD _
 |t::l=>by
  have:=iL t;have:=vF l;simp only[sizes,dF];omega
end
theorem Y5{t:Tm}{ds:List Dt}{B:Nat}(h:en T t ds)(a:Dt.lT K (K T) 0 ds)(b:4*t.words<B):oG K T B ds:=by refine⟨oU h,a,?_⟩;rw[TP h];have:=iL t;omega
mutual
theorem TQ:∀{t u:Tm}{a:List Dt},en T t a->en T u a->t=u
 | .mk k n s l,.mk k' n' F O,a,h,h'=>by
   unfold en at h h';obtain⟨x,c,J,rfl, -,d⟩:=h;obtain⟨f,c',lS,e, -,b⟩:=h';injection e with e0 e;injection e with e1 e;injection e with e2 e;injection e with e3 _;simp only[Dt.val.injEq,kV,fp]at e0 e1;have e2:=e2;simp only[Dt.val.injEq,vv]at e2;injection e2 with e2;injection e2 with e2;injection e3 with _ _ _ e3;subst e0;subst e1;subst e2;subst e3;rw[Ba d b]
theorem Ba:∀{l m:List Tm}{a:List Dt},gr T l a->gr T m a->l=m
 | [],[],_,_,_=>rfl
 | [],u::m,a,h,h'=>by grind[gr,oU,List.length_nil,List.length_append]
 |t::l,[],a,h,h'=>by grind[gr,oU,List.length_nil,List.length_append]
 |t::l,u::m,a,h,h'=>by
  unfold gr at h h';obtain⟨c,r,rfl,I,Y⟩:=h;obtain⟨c',r',e,b,d⟩:=h';obtain⟨rfl,rfl⟩:=List.append_inj e (by rw[oU I,oU b]);rw[TQ I b,Ba Y d]
end
end
end Go.Proofs.YtokipodjggomfaaGreatDoor.Txt
