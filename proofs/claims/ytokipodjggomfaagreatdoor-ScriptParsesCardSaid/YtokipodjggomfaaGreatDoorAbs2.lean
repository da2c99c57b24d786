/- Part 2 of an abstract machine that evaluates programs of the model in the kernel, and of the proofs that its run is the model's. Conditions: those of each theorem. -/
import Derived.Test.YtokipodjggomfaaGreatDoorAbs1
import Derived.Laws.World
import Derived.Laws.Cells
import Derived.Control
import Derived.Calls
import Derived.Lib.Index
import Derived.Laws.Entries
noncomputable section
set_option linter.unusedVariables false
set_option linter.unusedSimpArgs false
namespace Go.Proofs.YtokipodjggomfaaGreatDoor.Abs
open Go
structure PE where
 v:AV
 recovered:Bool
 deriving Inhabited
inductive ku where
 |run|ret
 |eH (chain:List PE)
 deriving Inhabited
structure FI where
 fn:FuncId
 nt:Nat
 kind:CallKind
 roundOf:Option Nat
 tl:List Deferred
 deriving Inhabited
inductive Res where
 |ret (v:AV)
 |eH (chain:List PE)
 deriving Inhabited
structure Out where
 res:Res
 ctx:Option (List PE)
 s:S
 deriving Inhabited
abbrev Rec:=FI->Tr AV->List bH->List gO->ku->Option (List PE)->S->R Out
def CL(id:Nat):List bH->Option (List bH)
 | []=>none
 |x::k=>match x with
  | .inBlock u=>match Nat.beq u id with|true=>some k|false=>CL id k
  |_=>CL id k
def oh(ops:Array Oper)(j:Nat):Option Tmp:=
 match ops[j]? with
 |some o=>o.dst
 |none=>none
def V1(want:Bool)(v:AV):R Bool:=
 match v with
 | .bool b=>.ok (match b,want with|true,true=>true|false,false=>true|_,_=>false)
 | .junk=>.bad "junk guard"
 | .raw _=>.bad "raw guard"
 | .bS _ _=>.bad "guard: unknown"
 |_=>.ok false
def c8(ops:Array Oper)(g:Option (Nat×Bool))(t:Tr AV):R Bool:=
 @Option.rec (Nat×Bool) (λ_=>R Bool) (.ok true)
  (λp=>@Option.rec Tmp (λ_=>R Bool) (.ok false) (λd=>@Option.rec AV (λ_=>R Bool) (.ok false) (V1 p.2) (t.get d)) (oh ops p.1)) g
def qS(ops:Array Oper)(g:Option (Nat×Bool))(t:Tr AV):Option (SE×Bool):=
 match g with
 |none=>none
 |some p=>match oh ops p.1 with
  |none=>none
  |some d=>match t.get d with
   |some v=>match v with
    | .bS k e=>match k with
      | .bool=>some (e,p.2)
      |_=>none
    |_=>none
   |none=>none
def fx(ops:Array Oper)(g:Option (Nat×Bool))(t:Tr AV)(s:S):R (Bool×S):=
 match qS ops g t with
 |some _=>.bad "guard"
 |none=>(c8 ops g t).bind λb=>.ok (b,s)
def put(nt:Nat)(t:Tr AV)(d:Option Tmp)(v:AV):Tr AV:=
 @Option.rec Tmp (λ_=>Tr AV) t (λd=>@Bool.rec (λ_=>Tr AV) t (t.set d v) (Nat.blt d nt)) d
def getLoop(s:S)(l:Nat):R (LoopState×Option Code×FuncId×Nat×Tr AV×List Tmp×Code×Code×Nat):=
 match s.h.get l with
 |some (.loop a b c n d e f g h)=>.ok (a,b,c,n,d,e,f,g,h)
 |_=>.bad "no loop"
def setArgs(nt:Nat):List Tmp->List AV->Tr AV->R (Tr AV)
 | []=>λa t=>match a with| []=>.ok t|_=>.bad "yield args"
 |p::ps=>λa t=>match a with| []=>.bad "yield args" |x::xs=>setArgs nt ps xs (put nt t (some p) x)
def MS(C:Ctx)(s:S)(g:Nat)(args:List AV):R Out:=
 match args with
 | [x,y]=>do
   let a <-bytesOf x
   let b <-bytesOf y
   match s.h.get g with
   |some (.cells _ cs n _ _ _ _)=>match cs.get 0 with
    |some v=>match v with
     | .bS k _=>do
       bD (ny k (.int .i64)&&Nat.blt g C.nG&&Nat.ble 1 n&&Nat.blt a.length 4294967281) "index: too long"
       .ok ⟨.ret (.int .i64 (Hm b a 0)),none,s⟩
     |_=>.bad "index: no int"
    |none=>.bad "index: no cell"
   |_=>.bad "index: no variable"
 |_=>.bad "index: arguments"
def lk:AV->Bool
 | .junk=>true
 |_=>false
def lB(cs:Tr AV):List AV->Nat->Bool
 | []=>λ_=>true
 |v::l=>λi=>match lk v with
  |true=>lB cs l (Nat.add i 1)
  |false=>match cs.get i with
   |some u=>match eK u v with
    |true=>lB cs l (Nat.add i 1)
    |false=>false
   |none=>false
def Pl:List ME->List ME->Bool
 | []=>λy=>match y with
   | []=>true
   |_::_=>false
 |a::x=>λy=>match y with
  | []=>false
  |b::y=>eK a.k b.k&&eK a.v b.v&&Nat.beq a.born b.born&&Pl x y
def G0(ids:List Nat):List Nat->Bool
 | []=>true
 |a::l=>match pz a ids with
  |true=>false
  |false=>G0 ids l
def zG:eD->List Nat
 | .cells _ _ _ _ fh _ _=>fh
 |_=>[]
def Dg(a:Tr eD)(i:Nat):List Nat:=
 match a.get i with
 |some b=>zG b
 |none=>[]
def ke{α:Type}(i:Nat):List (Nat×α)->Option α
 | []=>none
 |x::l=>match Nat.beq x.1 i with
  |true=>some x.2
  |false=>ke i l
def X0{α:Type}:List (Nat×α)->Tr α
 | []=>.nil
 |x::l=>(X0 l).set x.1 x.2
def cU(nG n next:Nat)(l:List (Nat×Nat))(i:Nat):Nat:=
 match Nat.blt i n with
 |false=>next
 |true=>match(X0 l).get i with
  |some j=>j
  |none=>match Nat.blt i nG with
   |true=>i
   |false=>next
def E1:SE:=.a1 .isNil (.bool true)
def dT(nG n:Nat)(l:List (Nat×SE))(i:Nat):SE:=
 match Nat.blt i n with
 |false=>E1
 |true=>match ke i l with
  |some e=>e
  |none=>match Nat.blt i nG with
   |true=>.var i
   |false=>E1
def vX(n next:Nat)(m:Nat->Nat)(i:Nat):Nat:=
 match Nat.blt i n with
 |true=>m i
 |false=>Nat.add next (Nat.sub i n)
def vS(n next m:Nat)(H:Nat->SE)(i:Nat):SE:=
 match Nat.blt i n with
 |true=>H i
 |false=>match Nat.blt i (Nat.add n m)with
  |true=>.var (Nat.add next (Nat.sub i n))
  |false=>E1
def w5{α:Type}:Option α->Bool
 |some _=>true
 |none=>false
def B5(nG n m:Nat)(l:List (Nat×Nat))(i:Nat):Bool:=
 match Nat.blt i n with
 |true=>w5 (ke i l)||Nat.blt i nG
 |false=>Nat.blt i (Nat.add n m)
abbrev RS:=Tr Nat×List (Nat×Nat)×List (Nat×SE)
def K6(i j:Nat)(m:RS):RS:=
 match m with
 |(a,b,c)=>match a.get i with
  |some _=>(a,b,c)
  |none=>(a.set i j,(i,j)::b,c)
def a7i(i:Nat)(e:SE)(m:RS):RS:=
 match m with
 |(a,b,c)=>match ke i c with
  |some _=>(a,b,c)
  |none=>(a,b,(i,e)::c)
def frc(f:RS->RS)(m:RS):RS:=@Prod.rec _ _ (λ_=>RS) (λa b=>f (a,b)) m
def a5t:AV->Option SE
 | .bS _ e=>some e
 | .int k n=>some (.int k n)
 | .bool b=>some (.bool b)
 | .str s=>some (.str s)
 |_=>none
def bOf:AV->Option Nat
 | .ptr b _=>some b
 | .sl b _ _ _=>some b
 | .np b _ _ _ _=>some b
 | .l5 r=>some r
 | .yield l=>some l
 | .gR b _ _=>some b
 | .gS b _ _ _=>some b
 |_=>none
def a0B(p a:SE)(m:RS):RS:=
 match p with
 | .var i=>a7i i a m
 |_=>m
mutual
def Mz:AV->AV->RS->RS
 | .ptr b _=>λa m=>match bOf a with|some j=>K6 b j m|none=>m
 | .sl b _ _ _=>λa m=>match bOf a with|some j=>K6 b j m|none=>m
 | .np b _ _ _ _=>λa m=>match bOf a with|some j=>K6 b j m|none=>m
 | .l5 b=>λa m=>match bOf a with|some j=>K6 b j m|none=>m
 | .yield b=>λa m=>match bOf a with|some j=>K6 b j m|none=>m
 | .fn _ x y=>λa m=>match a with| .fn _ d f=>Vu y f (Vu x d m)|_=>m
 | .iface _ v=>λa m=>match a with| .iface _ u=>Mz v u m|_=>m
 | .agg l=>λa m=>match a with| .agg O=>Vu l O m|_=>m
 | .jy l=>λa m=>match a with| .jy O=>Vu l O m|_=>m
 | .bS _ e=>λa m=>match e with
   | .var i=>match a5t a with|some x=>a7i i x m|none=>m
   |_=>m
 | .gR b n c=>λa m=>match a with
   | .gR N g c'=>a0B c c' (a0B n g (K6 b N m))
   |_=>m
 | .gS b i _ _=>λa m=>match a with
   | .gS N h _ _=>a0B i h (K6 b N m)
   |_=>m
 |_=>λ_ m=>m
def Vu:List AV->List AV->RS->RS
 | []=>λ_ m=>m
 |v::l=>λa m=>match a with
  | []=>m
  |u::O=>frc (Vu l O) (Mz v u m)
end
def RY:List (Nat×AV)->Tr AV->RS->RS
 | []=>λ_ m=>m
 |x::l=>λt m=>match t.get x.1 with
  |some u=>frc (RY l t) (Mz x.2 u m)
  |none=>RY l t m
def a2V:List AV->Nat->Tr AV->RS->RS
 | []=>λ_ _ m=>m
 |v::l=>λi t m=>match t.get i with
  |some u=>frc (a2V l (Nat.add i 1) t) (Mz v u m)
  |none=>a2V l (Nat.add i 1) t m
def a5Z:List ME->List ME->RS->RS
 | []=>λ_ m=>m
 |e::l=>λJ m=>match J with
  | []=>m
  |a::J=>a5Z l J (Mz e.v a.v m)
def a50(c:CB)(b:eD)(m:RS):RS:=
 match c with
 | .cells _ cs _ _ _=>match b with
   | .cells _ t _ _ _ _ _=>a2V cs 0 t m
   |_=>m
 | .eC _=>m
 | .loop _ _ _ _ tm _ _ _ d=>match b with
   | .loop _ _ _ _ t _ _ _ d'=>K6 d d' (RY tm t m)
   |_=>m
 | .vec _ p=>match b with
   | .vec _ a=>a0B p a m
   |_=>m
 | .Dp _ _ _=>m
 | .map J _=>match b with
   | .map j7 _=>a5Z J j7 m
   |_=>m
def EA(h:Tr eD):List (Nat×CB)->RS->RS
 | []=>λm=>m
 |x::l=>λm=>match m.1.get x.1 with
  |some j=>(match h.get j with
   |some b=>frc (EA h l) (a50 x.2 b m)
   |none=>EA h l m)
  |none=>EA h l m
def K4:List AD->List AD->Bool
 | []=>λy=>match y with| []=>true|_::_=>false
 |a::x=>λy=>match y with
  | []=>false
  |b::y=>eK a.target b.target&&(tw a.args b.args&&K4 x y)
def oM(t:Tr AV):List (Nat×AV)->Bool
 | []=>true
 |x::l=>match lk x.2 with
  |true=>w5 (t.get x.1)&&oM t l
  |false=>match t.get x.1 with
   |some u=>eK u x.2&&oM t l
   |none=>false
def nB(b:eD)(s:CB):Bool:=
 match s with
 | .cells h l M2 f i=>match b with
   | .cells e cs n fz _ st sg=>Nat.beq e h&&(Nat.ble l.length n&&(Nat.beq fz M2&&(CW st f&&(CW sg i&&lB cs l 0))))
   |_=>false
 | .eC l=>match b with
   | .eC (some O)=>K4 O l
   |_=>false
 | .loop st pe fn nt tm ps a c d=>match b with
   | .loop f j m o p q a' c' d'=>CW f st&&(oEq cu j pe&&(iM m fn&&(iM o nt&&(oM p tm&&(lEq iM q ps&&(cu a' a&&(cu c' c&&iM d' d)))))))
   |_=>false
 | .vec el e=>match b with
   | .vec g h=>Nat.beq g el&&b5 h e
   |_=>false
 | .Dp el k zs=>match b with
   | .Dp g k' r=>Nat.beq g el&&(n9 k' k&&lEq CW r zs)
   |_=>false
 | .map J c=>match b with
   | .map j7 c'=>Nat.beq c' c&&Pl j7 J
   |_=>false
def Hh(x y:bH):Bool:=
 match x with
 | .code a=>match y with| .code b=>cu a b|_=>false
 | .inBlock i=>match y with| .inBlock j=>iM i j|_=>false
 | .inLoop a=>match y with| .inLoop b=>cu a b|_=>false
 | .inScope a=>match y with| .inScope b=>cu a b|_=>false
 | .inRange i=>match y with| .inRange j=>iM i j|_=>false
 | .endRange i=>match y with| .endRange j=>iM i j|_=>false
 | .beginRound=>match y with| .beginRound=>true|_=>false
def bH.sub (m:Nat->Nat):bH->bH
 | .inRange l=>.inRange (m l)
 | .endRange l=>.endRange (m l)
 | .code c=>.code c
 | .inBlock i=>.inBlock i
 | .inLoop c=>.inLoop c
 | .inScope c=>.inScope c
 | .beginRound=>.beginRound
def bH.k9 (m:Nat->Nat):List bH->List bH
 | []=>[]
 |x::l=>x.sub m::bH.k9 m l
def Yz(m:Nat->Nat)(a b:Option Nat):Bool:=
 match a with
 |none=>match b with|none=>true|some _=>false
 |some i=>match b with|none=>false|some j=>iM (m i) j
def Y8:CallKind->Bool
 | .normal=>true
 |_=>false
def lP(h:Tr eD)(m:Nat->Nat)(H:Nat->SE)(ids:List Nat):List (Nat×CB)->Bool
 | []=>true
 |x::l=>match h.get (m x.1)with
  |some b=>nB b (x.2.sub m H)&&(G0 ids (zG b)&&lP h m H ids l)
  |none=>false
def jk(m:Nat->Nat):List (Nat×CB)->List Nat
 | []=>[]
 |x::l=>m x.1::jk m l
def o8:List Nat->Tr Unit->Bool
 | []=>λ_=>true
 |a::l=>λt=>match t.get a with
  |some _=>false
  |none=>o8 l (t.set a ())
def G1(l:List Nat):Bool:=o8 l .nil
def D7(nG:Nat)(h:Tr eD)(n:Nat):List (Nat×Nat)->Bool
 | []=>true
 |x::l=>w5 (h.get x.2)&&(Nat.blt x.1 n&&((Nat.ble nG x.1||Nat.beq x.1 x.2)&&D7 nG h n l))
def Ao(ok:Nat->Bool):List (Nat×CB)->Bool
 | []=>true
 |x::l=>ok x.1&&(CB.ids ok x.2&&(CB.live x.2&&Ao ok l))
def JN(nG n:Nat)(rl:List (Nat×Nat))(o:de):Bool:=
 AV.ids (B5 nG n o.m rl) o.res&&Ao (B5 nG n o.m rl) o.post
def GH(nG n:Nat)(rl:List (Nat×Nat)):List de->Bool
 | []=>true
 |o::l=>JN nG n rl o&&GH nG n rl l
def WI(C:Ctx)(c:bp)(fi:FI)(t:Tr AV)(todo:List bH)(s:S)(rl:List (Nat×Nat))(m:Nat->Nat)(H:Nat->SE):Bool:=
 (iM fi.nt c.nt&&(Y8 fi.kind&&Yz m c.round fi.roundOf))&&(oM t (vL m H c.t)&&(lEq Hh todo (bH.k9 m c.todo) &&
   (lP s.h m H (jk m c.pre) c.pre&&(G1 (jk m c.pre)&&(D7 C.nG s.h c.n rl&&(GH C.nG c.n rl c.outs&&Nat.ble C.nG c.n))))))
def dk(l:List Dt):Prop:=l=[.val (.bool true)]
def pFl(l:List Dt):Prop:=l=[.val (.bool false)]
def ee(l:List Dt):Prop:=∃k a m,l=[.val (.int k a),.val (.int .i64 m)]/\0<=a/\a<m
def th(e:SE):List Fact->Bool
 | []=>false
 |f::l=>match f with
  | .tr x=>(match b5 x e with|true=>true|false=>th e l)
  |_=>th e l
def tj(e:SE):List Fact->Bool
 | []=>false
 |f::l=>match f with
  | .fl x=>(match b5 x e with|true=>true|false=>tj e l)
  |_=>tj e l
def nz(i n:SE):List Fact->Bool
 | []=>false
 |f::l=>match f with
  | .inr j m=>(match b5 j i&&b5 m n with|true=>true|false=>nz i n l)
  |_=>nz i n l
def cP(pc:List Fact)(H:Nat->SE):List Fact->R Unit
 | []=>.ok ()
 |f::l=>match f with
  | .rel nm b p args=>match b with
    |false=>.must (.rel nm true p (SE.fZ H args)::pc) (cP pc H l)
    |true=>.bad "contract: a fact"
  | .tr e=>(match th (SE.sub H e) pc with
    |true=>cP pc H l
    |false=>.must (.rel "tr" true dk [SE.sub H e]::pc) (cP pc H l))
  | .fl e=>(match tj (SE.sub H e) pc with
    |true=>cP pc H l
    |false=>.must (.rel "fl" true pFl [SE.sub H e]::pc) (cP pc H l))
  | .inr i n=>(match nz (SE.sub H i) (SE.sub H n) pc with
    |true=>cP pc H l
    |false=>.must (.rel "in" true ee [SE.sub H i,SE.sub H n]::pc) (cP pc H l))
def I3(m:Nat->Nat)(H:Nat->SE):List (Nat×CB)->Tr eD->Tr eD
 | []=>λh=>h
 |x::l=>λh=>I3 m H l (h.set (m x.1) (x.2.sub m H).ay)
def xn(a:Tr eD)(m:Nat->Nat):List (Nat×CB)->Tr eD->Tr eD
 | []=>λh=>h
 |x::l=>λh=>match CB.live x.2 with
  |true=>xn a m l ((kH (Dg a (m x.1)) h).del (m x.1))
  |false=>xn a m l h
def a3M(s:S)(c:bp)(o:de)(m:Nat->Nat)(a:Nat->Nat)(QZ:Nat->SE):S:=
 ⟨I3 a QZ o.post (xn s.h m c.pre s.h),Nat.add s.next o.m,Fact.k9 QZ o.facts++s.pc⟩
def YS(s:S):List gO->R S
 | []=>.ok s
 |d::l=>match d with
  | .collected r=>match s.h.get r with
    |some (.eC (some []))=>YS ⟨s.h.set r (.eC none),s.next,s.pc⟩ l
    |_=>.bad "contract: a deferred call"
  |_=>.bad "contract: a deferred call"
def Pb(C:Ctx)(fi:FI)(ds:List gO):Bool:=
 match ds with
 | []=>true
 |_::_=>match fi.roundOf with
  |some _=>false
  |none=>match C.F.get fi.fn with
   |some fn=>Nat.beq fn.results.size 0
   |none=>false
def tn(H:Nat->SE)(pc:List Fact):List Fact->Bool
 | []=>false
 |f::l=>match f with
  | .tr e=>(match yH false (SE.sub H e) pc with|true=>true|false=>tn H pc l)
  | .fl e=>(match yH true (SE.sub H e) pc with|true=>true|false=>tn H pc l)
  |_=>tn H pc l
def WL(C:Ctx)(c:bp)(fi:FI)(ds:List gO)(s:S)(m:Nat->Nat)(H:Nat->SE)(i:Nat):R Out:=
 match nth c.outs i with
 |none=>.bad "contract: no end"
 |some o=>match tn (vS c.n s.next o.m H) s.pc o.facts with
  |true=>.ask 0 λ_=>.bad "contract: no such end"
  |false=>match o.eH with
  |true=>(match ds with
   | []=>.ok ⟨.eH [⟨o.res.sub (vX c.n s.next m) (vS c.n s.next o.m H),false⟩],none,a3M s c o m (vX c.n s.next m) (vS c.n s.next o.m H)⟩
   |_::_=>.bad "contract: a panic below deferred calls")
  |false=>match Pb C fi ds with
   |true=>(YS (a3M s c o m (vX c.n s.next m) (vS c.n s.next o.m H)) ds).bind λU=>.ok ⟨.ret (o.res.sub (vX c.n s.next m) (vS c.n s.next o.m H)),none,U⟩
   |false=>.bad "contract: results behind deferred calls"
def WO(C:Ctx)(c:bp)(no:R Out)(fi:FI)(t:Tr AV)(todo:List bH)(ds:List gO)(s:S):R Out:=
 match EA s.h c.pre (RY c.t t (.nil,[],[]))with
 |(_,rl,sl)=>match WI C c fi t todo s rl (cU C.nG c.n s.next rl) (dT C.nG c.n sl)with
  |true=>(cP s.pc (dT C.nG c.n sl) c.facts).bind λ_=>.ask c.outs.length (WL C c fi ds s (cU C.nG c.n s.next rl) (dT C.nG c.n sl))
  |false=>no
def vE(C:Ctx)(s:S)(b:Nat):Option (TypeId×SE×Nat×Nat):=
 match s.h.get b with
 |some (.cells el cs m fz fh st sg)=>match fh with
  |_::_=>none
  | []=>match Nat.beq fz 0&&(!st && !sg)with
    |false=>none
    |true=>match C.T.get el with
     |none=>none
     |some i=>match Nat.beq i.size (aq C el).length with
      |false=>none
      |true=>match getCells cs m 0 with
       | .ok l=>match nN C (aq C el) l (aq C el) (.a1 (.nl (aq C el)) (.bool true))with
         |some y=>some (el,y,m,i.size)
         |none=>none
       |_=>none
 |_=>none
def oP(n c m g:Nat):Bool:= !Nat.beq g 0&&(Nat.ble (Nat.mul c g) m&&Nat.ble n c)
def eI(t:TypeId)(g:Nat)(l:List Dt):Prop:=∃(a:Addr)(k c:Nat)(P:List Kd)(J:List Dt),l=[.sl (.slice (some a) k c) t g (J.take (k*g)),.ls P J,.val (.int .i64 (.ofNat k))]/\k*g<=J.length
def C4(C:Ctx)(t b n c:Nat)(v:AV)(s:S):AV×S:=
 match vE C s b with
 |some q=>(match Nat.beq q.1 t&&oP n c q.2.2.1 q.2.2.2 with
  |true=>(.bS (.sl t) (.var s.next),⟨(s.h.set b (.vec q.1 q.2.1)).del b,Nat.add s.next 1,.rel "frz" false (eI t (aq C t).length) [.var s.next,q.2.1,.int .i64 (.ofNat n)]::s.pc⟩)
  |false=>(v,s))
 |none=>(v,s)
def WS(C:Ctx)(p v:AV)(s:S):AV×S:=
 match p with
 | .gR _ _ _=>match v with
   | .sl b off n c=>match off with
     |0=>match vE C s b with
      |some q=>match oP n c q.2.2.1 q.2.2.2 with
       |true=>(.gR b (.int .i64 (.ofNat n)) (.int .i64 (.ofNat c)),⟨s.h.set b (.vec q.1 q.2.1),s.next,s.pc⟩)
       |false=>(v,s)
      |none=>(v,s)
     |_+1=>(v,s)
   | .np b _ e0 n g=>match e0 with
     |0=>match vE C s b with
      |some q=>match(Nat.beq g q.2.2.2 && !Nat.beq n 0)&&oP n n q.2.2.1 q.2.2.2 with
       |true=>(.gR b (.int .i64 (.ofNat n)) (.var s.next),⟨s.h.set b (.vec q.1 q.2.1),Nat.add s.next 1,s.pc⟩)
       |false=>(v,s)
      |none=>(v,s)
     |_+1=>(v,s)
   |_=>(v,s)
 | .bS q _=>match q with
   | .sl t=>match v with
     | .dh=>(.bS (.sl t) (.a1 (.ns t (aq C t).length) (.bool true)),s)
     | .sl b off n c=>(match off with
       |0=>C4 C t b n c v s
       |_+1=>(v,s))
     | .np b _ e0 n g=>(match e0 with
       |0=>(match Nat.beq g (aq C t).length && !Nat.beq n 0 with
        |true=>C4 C t b n n v s
        |false=>(v,s))
       |_+1=>(v,s))
     |_=>(v,s)
   |_=>(v,s)
 |_=>(v,s)
def a1C(j i:Nat)(v a:AV)(s:S):S:=
 match s.h.get j with
 |some (.cells e cs n fz fh st sg)=>match cs.get i with
  |some u=>match eK u v&&Nat.blt i n with
   |true=>⟨s.h.set j (.cells e (cs.set i a) n fz fh st sg),s.next,s.pc⟩
   |false=>s
  |none=>s
 |_=>s
def Nl(C:Ctx)(j i:Nat)(p:AV)(s:S):S:=
 match s.h.get j with
 |some (.cells _ cs n _ _ _ _)=>match cs.get i with
  |some v=>match !lk v&&Nat.blt i n with
   |true=>match WS C p v s with
    |(a,U)=>a1C j i v a U
   |false=>s
  |none=>s
 |_=>s
def FB:AV->Bool
 | .gR _ _ _=>true
 | .bS k _=>(match k with
   | .sl _=>true
   |_=>false)
 |_=>false
def xw(C:Ctx)(j:Nat):List AV->Nat->S->S
 | []=>λ_ s=>s
 |p::l=>λi s=>match FB p with
  |true=>xw C j l (Nat.add i 1) (Nl C j i p s)
  |false=>xw C j l (Nat.add i 1) s
def a1K:List AV->Bool
 | []=>false
 |p::l=>FB p||a1K l
def a4b:CB->Bool
 | .cells _ cs _ _ _=>a1K cs
 |_=>false
def coB(C:Ctx)(rl:List (Nat×Nat))(x:Nat×CB)(s:S):S:=
 match a4b x.2 with
 |false=>s
 |true=>match ke x.1 rl with
 |some j=>match x.2 with
  | .cells _ cs _ _ _=>xw C j cs 0 s
  |_=>s
 |none=>s
def a0f(C:Ctx)(rl:List (Nat×Nat)):List (Nat×CB)->S->S
 | []=>λs=>s
 |x::l=>λs=>a0f C rl l (coB C rl x s)
def coT(C:Ctx):List (Nat×AV)->Tr AV->S->Tr AV×S
 | []=>λt s=>(t,s)
 |x::l=>λt s=>match t.get x.1 with
  |some v=>match lk v with
   |true=>coT C l t s
   |false=>match WS C x.2 v s with
    |(a,U)=>coT C l (t.set x.1 a) U
  |none=>coT C l t s
def Xg:List (Nat×CB)->Bool
 | []=>false
 |x::l=>a4b x.2||Xg l
def a6C(h:Tr eD)(c:bp)(t:Tr AV):List (Nat×Nat):=
 match Xg c.pre with
 |false=>[]
 |true=>match EA h c.pre (RY c.t t (.nil,[],[]))with
  |(_,rl,_)=>rl
def V4(C:Ctx)(s:S)(t b:Nat)(n:SE)(v:AV):R (AV×S):=
 match s.h.get b with
 |some (.vec el e)=>match Nat.beq el t with
  |true=>.must (.rel "short" false (dq (aq C t).length) [e,n]::s.pc)
   (.ok (.bS (.sl t) (.var s.next),⟨s.h.del b,Nat.add s.next 1,.rel "frz" false (eI t (aq C t).length) [.var s.next,e,n]::s.pc⟩))
  |false=>.ok (v,s)
 |_=>.ok (v,s)
def ZI(C:Ctx)(s:S)(p v:AV):R (AV×S):=
 match p with
 | .bS q _=>match q with
   | .sl t=>match v with
     | .gR b n _=>V4 C s t b n v
     | .dh=>.ok (.bS (.sl t) (.a1 (.ns t (aq C t).length) (.bool true)),s)
     | .sl _ _ _ _=>.ok (WS C p v s)
     | .np _ _ _ _ _=>.ok (WS C p v s)
     |_=>.ok (v,s)
   |_=>.ok (v,s)
 |_=>.ok (v,s)
def N0(p v:AV):Bool:=
 match v with
 | .gR _ _ _=>(match p with
   | .bS q _=>(match q with
     | .sl _=>true
     |_=>false)
   |_=>false)
 |_=>false
def Sm(C:Ctx):List (Nat×AV)->Tr AV->S->R (Tr AV×S)
 | []=>λt s=>.ok (t,s)
 |x::l=>λt s=>match t.get x.1 with
  |some v=>(match N0 x.2 v with
   |true=>(ZI C s x.2 v).bind λr=>Sm C l (t.set x.1 r.1) r.2
   |false=>Sm C l t s)
  |none=>Sm C l t s
def WR(C:Ctx)(c:bp)(no:R Out)(fi:FI)(t:Tr AV)(todo:List bH)(ds:List gO)(s:S):R Out:=
 match coT C c.t t s with
 |(t1,s1)=>WO C c no fi t1 todo ds (a0f C (a6C s1.h c t1) c.pre s1)
def a36(C:Ctx)(c:bp)(no:R Out)(fi:FI)(t:Tr AV)(todo:List bH)(ds:List gO)(s:S):R Out:=
 (Sm C c.t t s).bind λr=>WR C c no fi r.1 todo ds r.2
def a55(c:bp)(f:FuncId)(todo:List bH):Bool:=
 match Nat.beq c.fn f with
 |false=>false
 |true=>match todo with
  | []=>false
  |x::_=>match c.todo with
   | []=>false
   |y::_=>Hh x y
mutual
def AV.plain:AV->Bool
 | .bS _ _=>false
 | .gR _ _ _=>false
 | .gS _ _ _ _=>false
 | .agg l=>AV.xY l
 | .jy l=>AV.xY l
 | .iface _ v=>AV.plain v
 |_=>true
def AV.xY:List AV->Bool
 | []=>true
 |v::l=>AV.plain v&&AV.xY l
end
def IH:List (Nat×AV)->Bool
 | []=>true
 |x::l=>AV.plain x.2&&IH l
def C5(cs:Tr AV):Nat->Bool
 |0=>true
 |n+1=>(match cs.get n with
  |some v=>AV.plain v
  |none=>true)&&C5 cs n
def Db(h:Tr eD)(b:Nat):Bool:=
 match h.get b with
 |some x=>(match x with
  | .cells _ cs n _ _ _ _=>C5 cs n
  | .vec _ _=>false
  |_=>true)
 |none=>true
def Nn(h:Tr eD)(v:AV):Bool:=
 match v with
 | .ptr b _=>Db h b
 | .sl b _ _ _=>Db h b
 | .np b _ _ _ _=>Db h b
 |v=>AV.plain v
def zg(h:Tr eD)(cs:Tr AV):Nat->Bool
 |0=>true
 |n+1=>(match cs.get n with
  |some v=>Nn h v
  |none=>true)&&zg h cs n
def UR(h:Tr eD)(v:AV):Bool:=
 match v with
 | .ptr b _=>(match h.get b with
   |some x=>(match x with
    | .cells _ cs n _ _ _ _=>zg h cs n
    | .vec _ _=>false
    |_=>true)
   |none=>true)
 |v=>AV.plain v
def ub(h:Tr eD)(t:Tr AV):List (Nat×AV)->Bool
 | []=>true
 |x::l=>match t.get x.1 with
  |some v=>UR h v&&ub h t l
  |none=>ub h t l
def Ek:List (Nat×CB)->Bool
 | []=>true
 |x::l=>(match x.2 with
  | .cells _ cs _ st _=>st||AV.xY cs
  | .vec _ _=>false
  |_=>true)&&Ek l
def a0j(p v:AV):Bool:=
 match p with
 | .int _ n=>(match v with
   | .int _ m=>iEq n m
   |_=>true)
 | .np _ _ _ len _=>(match v with
   | .np _ _ _ a _=>Nat.beq len a
   |_=>true)
 |_=>true
def KO(cs:Tr AV):List AV->Nat->Bool
 | []=>λ_=>true
 |p::l=>λi=>(match cs.get i with
  |some v=>a0j p v
  |none=>true)&&KO cs l (Nat.add i 1)
def UQ(id:Nat):List (Nat×AV)->Option Nat
 | []=>none
 |x::l=>match x.2 with
  | .ptr b _=>(match Nat.beq b id with
    |true=>some x.1
    |false=>UQ id l)
  |_=>UQ id l
def V7(h:Tr eD)(t:Tr AV)(c:bp):Bool:=
 match c.pre with
 | []=>true
 |x::_=>match x.2 with
  | .cells _ cs _ _ _=>(match UQ x.1 c.t with
    |some d=>(match t.get d with
     |some (.ptr b _)=>(match h.get b with
      |some (.cells _ ts _ _ _ _ _)=>KO ts cs 0
      |_=>true)
     |_=>true)
    |none=>true)
  |_=>true
def MQ(h:Tr eD)(c:bp)(f:FuncId)(t:Tr AV)(todo:List bH):Bool:=
 match Nat.beq c.fn f with
 |false=>false
 |true=>match V7 h t c with
  |false=>false
  |true=>match a55 c f todo with
   |false=>false
   |true=>match IH c.t&&Ek c.pre with
    |true=>true
    |false=> !ub h t c.t
def C0(C:Ctx)(rec:Rec)(fi:FI)(t:Tr AV)(todo:List bH)(ds:List gO)(s:S):List bp->R Out
 | []=>rec fi t todo ds .run none s
 |c::l=>match MQ s.h c fi.fn t todo with
  |false=>C0 C rec fi t todo ds s l
  |true=>a36 C c (C0 C rec fi t todo ds s l) fi t todo ds s
def UH(C:Ctx)(rec:Rec)(fi:FI)(t:Tr AV)(todo:List bH)(ds:List gO)(ctx:Option (List PE))(s:S):R Out:=
 match C.K with
 | []=>rec fi t todo ds .run ctx s
 |_::_=>match ctx with
  |none=>C0 C rec fi t todo ds s C.K
  |some _=>rec fi t todo ds .run ctx s
def pC(C:Ctx)(rec:Rec)(f:FuncId)(args:List AV)(kind:CallKind)(ctx:Option (List PE))(s:S):R Out:=
 match C.F.get f with
 |none=>.bad "enter"
 |some fn=>match fn.body with
  |none=>.bad "enter: no body"
  |some c=>match Nat.ble args.length fn.ntmps with
   |false=>.bad "enter: args"
   |true=>UH C rec ⟨f,fn.ntmps,kind,none,[]⟩ (Tr.ofList args) [.code c] [] ctx s
def Kb(f:FuncId):List bp->Option bp
 | []=>none
 |c::l=>match Nat.beq c.fn f with
  |true=>some c
  |false=>Kb f l
def a2X(C:Ctx)(c:bp)(args:List AV)(s:S):R Out:=
 match iM args.length c.nt with
 |true=>WO C c (.bad "library: another call") ⟨c.fn,c.nt,.normal,none,[]⟩ (Tr.ofList args) [] [] s
 |false=>.bad "library: arguments"
def QI(C:Ctx)(rec:Rec)(f:FuncId)(args:List AV)(s:S):R Out:=
 match rp f C.X with
 |none=>pC C rec f args .normal none s
 |some e=>match e with
  | .index g=>MS C s g args
  |_=>pC C rec f args .normal none s
def WV(C:Ctx)(rec:Rec)(f:FuncId)(args:List AV)(s:S):R Out:=
 match Kb f C.L with
 |some c=>(match AV.xY args with
  |true=>QI C rec f args s
  |false=>a2X C c args s)
 |none=>QI C rec f args s
def KR(C:Ctx)(rec:Rec)(f:FuncId)(args:List AV)(s:S):R Out:=WV C rec f args s
def F4(C:Ctx)(rec:Rec)(l:Nat)(args:List AV)(s:S):R Out:=do
 let r <-getLoop s l
 match r with
 |(_,_,fn,nt,tmps,params,assign,body,_)=>do
  let t <-setArgs nt params args tmps
  let _ <-R.tc "round: function" (C.F.get fn)
  rec ⟨fn,nt,.normal,some l,[]⟩ t [.code assign,.beginRound,.code body] [] .run none s
inductive RG where
 |fin (t:Tr AV) (ds:List gO) (ctx:Option (List PE)) (s:S)
 |eH (ch:List PE) (t:Tr AV) (ds:List gO) (ctx:Option (List PE)) (s:S)
 deriving Inhabited
def gu:AV:=.jy []
def CT(fi:FI)(d:AD)(ds:List gO)(s:S):R (List gO×S):=
 match fi.roundOf with
 |none=>.ok (.call d::ds,s)
 |some l=>do
  let r <-getLoop s l
  match r with
  |(_,_,_,_,_,_,_,_,b)=>
   match s.h.get b with
   |some (.eC (some l))=>.ok (ds,⟨s.h.set b (.eC (some (d::l))),s.next,s.pc⟩)
   |_=>.bad "defer in a round"
def Jm(fi:FI)(ctx:Option (List PE)):R (AV×Option (List PE)):=
 match fi.roundOf with
 |some _=>.bad "recover in a round"
 |none=>
  match fi.kind with
  | .deferred=>match ctx with
    |some ({ v,recovered:=false }::a)=>.ok (v,some ({ v,recovered:=true }::a))
    |_=>.ok (.lY,ctx)
  | .normal=>.ok (.lY,ctx)
  |_=>.bad "recover"
abbrev RK:=Tr AV->List gO->Option (List PE)->S->R RG
def E2(nt:Nat)(d:Option Tmp)(k:RK)(t:Tr AV)(ds:List gO)(ctx:Option (List PE))(o:Out):R RG:=
 @Out.rec (λ_=>R RG) (λres _ s=>@Res.rec (λ_=>R RG) (λv=>k (put nt t d v) ds ctx s) (λch=>.ok (.eH ch t ds ctx s)) res) o
def UG(C:Ctx)(rec:Rec)(nt:Nat)(d:Option Tmp)(k:RK)(t:Tr AV)(ds:List gO)(ctx:Option (List PE))(f:FuncId)(args:List AV)(s:S):R RG:=
 (KR C rec f args s).bind (E2 nt d k t ds ctx)
def UF(C:Ctx)(rec:Rec)(nt:Nat)(d:Option Tmp)(k:RK)(t:Tr AV)(ds:List gO)(ctx:Option (List PE))(l:Nat)(args:List AV)(s:S):R RG:=
 (F4 C rec l args s).bind (E2 nt d k t ds ctx)
def BF(fi:FI)(nt:Nat)(d:Option Tmp)(k:RK)(t:Tr AV)(ds:List gO)(ctx:Option (List PE))(x:AD)(s:S):R RG:=
 (CT fi x ds s).bind λr=>k (put nt t d gu) r.1 ctx r.2
def uo(fi:FI)(nt:Nat)(d:Option Tmp)(k:RK)(t:Tr AV)(ds:List gO)(ctx:Option (List PE))(s:S):R RG:=
 (Jm fi ctx).bind λr=>k (put nt t d r.1) ds r.2 s
def a1d(C:Ctx)(rec:Rec)(nt:Nat)(fi:FI)(d:Option Tmp)(k:RK)(t:Tr AV)(ds:List gO)(ctx:Option (List PE))(x:Nx):R RG:=
 @Nx.rec (λ_=>R RG) (λv s=>k (put nt t d v) ds ctx s) (λs=>k (put nt t d gu) ds ctx s) (UG C rec nt d k t ds ctx) (UF C rec nt d k t ds ctx)
  (λ_ _=>.bad "defer") (uo fi nt d k t ds ctx) (λv s=>.ok (.eH [⟨v,false⟩] t ds ctx s)) x
def mS(o:Op):Option Call:=
 match o with
 | .defer c=>some c
 |_=>none
def fN(c:Call)(C:Ctx)(t:Tr AV):R AD:=do
 let args <-Wg C t c.args.toList
 match c.callee with
 | .value f=>do
   let f <-kW C t f
   match f with
   | .fn g a b=>.ok { target:=.fn g a b,args }
   |_=>.bad "defer of what"
 |_=>.bad "defer of a builtin or method"
def yI(C:Ctx)(rec:Rec)(fi:FI)(nt:Nat)(k:RK)(d:Option Tmp)(op:Op)(ty:TypeId)(t:Tr AV)(ds:List gO)(ctx:Option (List PE))(s:S):R RG:=
 @Option.rec Call (λ_=>R RG) ((nA op ty C t s).bind (a1d C rec nt fi d k t ds ctx)) (λc=>(fN c C t).bind λx=>BF fi nt d k t ds ctx x s) (mS op)
def v7(C:Ctx)(rec:Rec)(fi:FI)(nt:Nat)(k:RK)(d:Option Tmp)(op:Op)(ty:TypeId)(t:Tr AV)(ds:List gO)(ctx:Option (List PE))(s:S)(b:Bool):R RG:=
 @Bool.rec (λ_=>R RG) (k (put nt t d gu) ds ctx s) (yI C rec fi nt k d op ty t ds ctx s) b
def qG(C:Ctx)(rec:Rec)(fi:FI)(ops:Array Oper)(k:RK)(o:Oper):RK:=
 @Oper.rec (λ_=>RK) (λd op ty _ _ g t ds ctx s=>(fx ops g t s).bind λr=>v7 C rec fi fi.nt k d op ty t ds ctx r.2 r.1) o
def J9(nt:Nat)(d:Option Tmp)(t:Tr AV):Option SE:=
 match d with
 |none=>none
 |some d=>match Nat.blt d nt with
  |false=>none
  |true=>match t.get d with
   |some v=>(match v with
    | .bS k e=>(match k with
      | .bool=>some e
      |_=>none)
    |_=>none)
   |none=>none
def R1(nt:Nat)(d:Option Tmp)(K:RK):RK:=λt ds ctx s=>
 match J9 nt d t with
 |some e=>(EO s e).bind λr=>K (put nt t d (.bool r.1)) ds ctx r.2
 |none=>K t ds ctx s
def h8(C:Ctx)(rec:Rec)(fi:FI)(ops:Array Oper)(k:RK)(o:Oper):RK:=qG C rec fi ops (R1 fi.nt o.dst k) o
def LY(C:Ctx)(rec:Rec)(fi:FI)(ops:Array Oper)(l:List Oper):RK:=
 @List.rec Oper (λ_=>RK) (λt ds ctx s=>.ok (.fin t ds ctx s)) (λo _ a=>h8 C rec fi ops a o) l
def yf(rec:Rec)(fi:FI)(t:Tr AV)(ds:List gO)(ctx:Option (List PE))(s:S)(g:Option Code):R Out:=
 match fi.roundOf with
 |none=>match g with
  |none=>rec fi t [] ds .ret ctx s
  |some .ret=>rec fi t [] ds .ret ctx s
  |_=>.bad "leave"
 |some l=>do
  let r <-getLoop s l
  match r with
  |(_,_,a,n,b,c,d,e,f)=>
   .ok ⟨.ret (.bool g.isNone),ctx,⟨s.h.set l (.loop (match g with|none=>.ready|some _=>.done) g a n b c d e f),s.next,s.pc⟩⟩
def W7(rec:Rec)(fi:FI)(t:Tr AV)(k:List bH)(ds:List gO)(ctx:Option (List PE))(l:Nat)(o:Out):R Out:=
 match o.res with
 | .ret _=>rec fi t (.endRange l::k) ds .run ctx o.s
 | .eH _=>.bad "range: panic"
def Gg(C:Ctx)(rec:Rec)(fi:FI)(t:Tr AV)(k:List bH)(ds:List gO)(ctx:Option (List PE))(f:Operand)(params:Array Tmp)(assign body:Code)(s:S):R Out:=do
 let a <-kW C t f
 match fi.roundOf with
 |some _=>.bad "range in a round"
 |none=>do
  let s1:=s.new (.eC (some []))
  match <-sE C (s1.new (.loop .ready none fi.fn fi.nt t params.toList assign body s.next)) a [.yield s1.next]with
  | .enter f args U=>do let o <-KR C rec f args U;W7 rec fi t k (.collected s.next::ds) ctx s1.next o
  |_=>.bad "rangeFunc"
def regionF(a:Ctx)(rec:Rec)(fi:FI)(k:List bH)(r:RG):R Out:=
 match r with
 | .fin t ds ctx s=>rec fi t k ds .run ctx s
 | .eH ch t ds ctx s=>rec fi t [] ds (.eH ch) ctx s
def a3q(o:Oper)(C:Ctx)(t:Tr AV)(s:S)(b:Bool):R AV:=
 @Bool.rec (λ_=>R AV) (.ok gu) (evQ o C t s) b
def P9(ops:Array Oper)(o:Oper)(C:Ctx)(t:Tr AV)(s:S):R AV:=(c8 ops o.guard t).bind (a3q o C t s)
def h3(nt:Nat)(t:Tr AV)(d:Option Tmp)(v:AV):Bool:=
 match d with
 |none=>true
 |some d=>match Nat.blt d nt with
  |true=>match t.get d with
   |some u=>eK u v
   |none=>false
  |false=>true
abbrev pP:=List (Nat×(Nat×eD))
def cK(i:Nat):pP->Option (Nat×eD)
 | []=>none
 |p::l=>match Nat.beq p.1 i with
  |true=>some p.2
  |false=>cK i l
abbrev DK:=pP->RK
def R.xJ {α:Type} (r:R α):R α:=@R.rec α (λ_=>R α) (λa=>.ok a) (λw=>.bad w) (λ_ _ _=>.bad "ask") (λ_ _ _=>.bad "must") r
def AL(o:Oper)(i nt:Nat)(k:DK)(C:Ctx)(pe:pP)(t:Tr AV)(ds:List gO)(ctx:Option (List PE))(s:S)(b:Bool):R RG:=
 @Bool.rec (λ_=>R RG) (k pe (put nt t o.dst gu) ds ctx s)
  ((R.xJ (aF o.op C t)).bind λr=>k ((i,(s.next,r.2))::pe) (put nt t o.dst (Vt r.1 s.next)) ds ctx ⟨s.h,Nat.add s.next 1,s.pc⟩) b
def dOn(i:Nat)(k:DK):DK:=λpe t ds ctx s=>
 match cK i pe with
 |none=>k pe t ds ctx s
 |some p=>k pe t ds ctx ⟨s.h.set p.1 p.2,s.next,s.pc⟩
def Wx(C:Ctx)(rec:Rec)(fi:FI)(ops:Array Oper)(x:PS)(k:DK):DK:=
 @PS.rec (λ_=>DK)
  (λ_ o pe=>h8 C rec fi ops (k pe) o)
  (λ_ o pe t ds ctx s=>(R.xJ (P9 ops o C t s)).bind λv=>k pe (put fi.nt t o.dst v) ds ctx s)
  (λ_ o pe t ds ctx s=>(R.xJ (P9 ops o C t s)).bind λv=>@Bool.rec (λ_=>R RG) (.bad "float: another value") (k pe t ds ctx s) (h3 fi.nt t o.dst v))
  (λi o pe t ds ctx s=>(R.xJ (c8 ops o.guard t)).bind (AL o i fi.nt k C pe t ds ctx s))
  (λi=>dOn i k) x
def h1(C:Ctx)(rec:Rec)(fi:FI)(ops:Array Oper)(a:DK)(l:List PS):DK:=
 @List.rec PS (λ_=>DK) a (λx _ b=>Wx C rec fi ops x b) l
def a3A:DK:=λ_ t ds ctx s=>.ok (.fin t ds ctx s)
def kh(C:Ctx)(rec:Rec)(fi:FI)(ops:Array Oper)(l:List PS):DK:=h1 C rec fi ops a3A l
def vN(o:Oper)(C:Ctx)(t:Tr AV):R Nat:=
 match o.op with
 | .store _ a _=>do
   let p <-kW C t a
   match p with
   | .ptr b _=>.ok b
   | .gS b _ _ _=>.ok b
   |_=>.bad "two stores: no address"
 |_=>.bad "two stores: no store"
def fy(ops:Array Oper)(o:Oper)(C:Ctx)(t:Tr AV)(s:S):R S:=
 match o.dst with
 |some _=>.bad "two stores: a store's value"
 |none=>do
  let b <-R.xJ (c8 ops o.guard t)
  match b with
  |false=>.bad "two stores: guarded"
  |true=>match o.op with
   | .store ty a x=>do
     let p <-kW C t a
     let v <-kW C t x
     storeAt C s ty p v
   |_=>.bad "two stores: no store"
def BG(ops:Array Oper)(nt:Nat)(C:Ctx)(t:Tr AV)(s:S):List Nat->R Unit
 | []=>.ok ()
 |i::l=>match nth ops.toList i with
  |none=>.bad "two stores: no operation"
  |some o=>do
   let v <-R.xJ (P9 ops o C t s)
   match h3 nt t o.dst v with
   |true=>BG ops nt C t s l
   |false=>.bad "two stores: another value"
def E6(s:S)(b:Nat):R (List Nat):=
 match s.h.get b with
 |some (.cells _ _ _ _ fh _ _)=>.ok fh
 |some (.vec _ _)=>.ok []
 |_=>.bad "two stores: no cells"
def DP(C:Ctx)(fi:FI)(ops:Array Oper)(b c:Oper)(ra rb:List Nat):DK:=λ_ t ds ctx s=>do
 let d <-R.xJ (vN b C t)
 let a <-R.xJ (vN c C t)
 let h <-R.xJ (E6 s d)
 let i <-R.xJ (E6 s a)
 bD (!Nat.beq d a && !pz a h && !pz d i) "two stores: the same place"
 let f <-R.xJ (fy ops b C t s)
 let _ <-R.xJ (BG ops fi.nt C t f ra)
 let e <-R.xJ (fy ops c C t f)
 let g <-R.xJ (fy ops c C t s)
 let _ <-R.xJ (BG ops fi.nt C t g rb)
 let _ <-R.xJ (fy ops b C t g)
 .ok (.fin t ds ctx e)
def eJ(nt:Nat)(t:Tr AV):List PS->Tr AV
 | []=>t
 |x::l=>match x with
  | .ev _ o=>put nt (eJ nt t l) o.dst .junk
  | .al _ o=>put nt (eJ nt t l) o.dst .junk
  |_=>eJ nt t l
def Wz(nt:Nat)(l:List PS)(r:RG):R RG:=
 @RG.rec (λ_=>R RG) (λt ds ctx s=>.ok (.fin t ds ctx s)) (λch t ds ctx s=>.ok (.eH ch (eJ nt t l) ds ctx s)) r
def dGo(C:Ctx)(rec:Rec)(fi:FI)(ops:Array Oper)(p:E7):RK:=λt ds ctx s=>
 match p with
 | .one a=>(kh C rec fi ops (link ops.toList a) [] t ds ctx s).bind (Wz fi.nt (link ops.toList a))
 | .two pre x y ra rb=>match nth ops.toList x,nth ops.toList y with
   |some b,some c=>(h1 C rec fi ops (DP C fi ops b c ra rb) (link ops.toList pre) [] t ds ctx s).bind (Wz fi.nt (link ops.toList pre))
   |_,_=>.bad "no plan: two"
def Wy(C:Ctx)(rec:Rec)(fi:FI)(ops:Array Oper)(a:E7):RK:=λt ds ctx s=>
 @Bool.rec (λ_=>R RG) (.bad "no plan") (dGo C rec fi ops a t ds ctx s) (BK ops.toList a)
def Sx(C:Ctx)(ops:Array Oper)(nt:Nat):List Oper->Tr AV->S->Option SE
 | []=>λ_ _=>none
 |o::l=>λt s=>match qS ops o.guard t with
  |some p=>some p.1
  |none=>match c8 ops o.guard t with
   | .ok b=>(match b with
     |false=>Sx C ops nt l (put nt t o.dst gu) s
     |true=>match nA o.op o.type C t s with
      | .ok x=>(match x with
        | .val v U=>(match Nat.beq U.next s.next with
          |true=>Sx C ops nt l (put nt t o.dst v) U
          |false=>none)
        |_=>none)
      |_=>none)
   |_=>none
def Kz(C:Ctx)(rec:Rec)(fi:FI)(ops:Array Oper):Nat->RK
 |0=>λt ds ctx s=>Wy C rec fi ops (qK ops.toList) t ds ctx s
 |n+1=>λt ds ctx s=>match Sx C ops fi.nt ops.toList t s with
  |some e=>(EO s e).bind λr=>Kz C rec fi ops n t ds ctx r.2
  |none=>Wy C rec fi ops (qK ops.toList) t ds ctx s
def Qd(C:Ctx)(rec:Rec)(fi:FI)(ops:Array Oper)(t:Tr AV)(ds:List gO)(ctx:Option (List PE))(s:S):R RG:=
 Kz C rec fi ops 6 t ds ctx s
abbrev CK:=List bH->Ctx->Rec->FI->Tr AV->List gO->Option (List PE)->S->R Out
def a8s:CK:=λ_ _ rec fi t ds ctx s=>yf rec fi t ds ctx s (some .ret)
def QK:CK:=λk _ rec fi t ds ctx s=>rec fi t k ds .run ctx s
def a8r(a b:Code):CK:=λk _ rec fi t ds ctx s=>rec fi t (.code a::.code b::k) ds .run ctx s
def a65(c:Operand)(a b:Code):CK:=λk C rec fi t ds ctx s=>
 (kW C t c).bind λv=>match v with
   | .bool x=>rec fi t (.code (match x with|true=>a|false=>b)::k) ds .run ctx s
   | .bS q e=>match q with
     | .bool=>(EO s e).bind λr=>rec fi t (.code (match r.1 with|true=>a|false=>b)::k) ds .run ctx r.2
     |_=>.bad "cond: unknown"
   |_=>.bad "cond"
def a4w(id:Nat)(body:Code):CK:=λk _ rec fi t ds ctx s=>rec fi t (.code body::.inBlock id::k) ds .run ctx s
def a1I(body:Code):CK:=λk C rec fi t ds ctx s=>UH C rec fi t (.code body::.inLoop body::k) ds ctx s
def a4u(body:Code):CK:=λk _ rec fi t ds ctx s=>rec fi t (.code body::.inScope body::k) ds .run ctx s
def a64(id:Nat):CK:=λk _ rec fi t ds ctx s=>
 match CL id k with
 |some k=>rec fi t k ds .run ctx s
 |none=>.bad "exit"
def a0r(ops:Array Oper)(a:Bool):CK:=λk C rec fi t ds ctx s=>
 match a with
 |false=>(LY C rec fi ops ops.toList t ds ctx s).bind (regionF C rec fi k)
 |true=>(Qd C rec fi ops t ds ctx s).bind (regionF C rec fi k)
def a4v(f:Operand)(params:Array Tmp)(assign body:Code):CK:=λk C rec fi t ds ctx s=>Gg C rec fi t k ds ctx f params assign body s
def codeF(c:Code):CK:=
 @Code.rec (λ_=>CK) QK (λ_ ops draw=>a0r ops draw) (λa b _ _=>a8r a b) (λc a b _ _=>a65 c a b) (λid b _=>a4w id b) (λb _=>a1I b)
  (λf p a b _ _=>a4v f p a b) a64 (λb _=>a4u b) (λ_=>QK) (λ_ _ _ _ _ _ _ _ _=>.bad "goto") a8s (λTT _ _ _ _ _ _ _ _=>.bad TT) c
def a3c(l:Nat):CK:=λk _ rec fi t ds ctx s=>do
 let r <-getLoop s l
 match r with
 |(st,j9,a,n,b,c,d,e,f)=>
  match st with
  | .busy=>.bad "endRange: busy"
  |_=>rec fi t ((match j9 with|some c=>[.code c]|none=>[])++k) ds .run ctx ⟨s.h.set l (.loop .exhausted j9 a n b c d e f),s.next,s.pc⟩
def MU:CK:=λk _ rec fi t ds ctx s=>
 match fi.roundOf with
 |none=>.bad "beginRound"
 |some l=>do
  let r <-getLoop s l
  match r with
  |(st,j9,a,n,b,c,d,e,f)=>
   match st with
   | .ready=>rec fi t k ds .run ctx ⟨s.h.set l (.loop .busy j9 a n b c d e f),s.next,s.pc⟩
   |_=>.bad "beginRound: not ready"
def a1s(x:bH):CK:=
 @bH.rec (λ_=>CK) codeF (λ_=>QK) a1I (λ_=>QK) (λ_ _ _ _ _ _ _ _ _=>.bad "inRange") a3c MU x
def YC(C:Ctx)(s:S)(t:Tr AV)(r:ResultVar):R AV:=
 match r with
 | .tmp d=>kW C t (.tmp d)
 | .cell a ty=>do let p <-kW C t (.tmp a);loadAt C s ty p
def Am(C:Ctx)(s:S)(t:Tr AV):List ResultVar->R (List AV)
 | []=>.ok []
 |r::l=>do
  let v <-YC C s t r
  let vs <-Am C s t l
  .ok (v::vs)
def wJ:List AV->AV
 | [v]=>v
 |vs=>.jy vs
def Bz(C:Ctx)(s:S)(fi:FI)(t:Tr AV):R AV:=
 match C.F.get fi.fn with
 |none=>.bad "results: fn"
 |some fn=>do let vs <-Am C s t fn.results.toList;.ok (wJ vs)
def Pg:ku->Option (List PE)
 | .eH c=>some c
 |_=>none
def pO(o:Out):ku:=
 match o.ctx with
 |some c=>.eH c
 |none=>.ret
def rY:ku->ku
 | .eH (p::a)=>match p.recovered with
   |true=>.ret
   |false=>.eH (p::a)
 |m=>m
def Nb(C:Ctx)(rec:Rec)(fi:FI)(t:Tr AV)(mode:ku)(ctx:Option (List PE))(s:S):gO->List gO->R Out
 | .collected r=>λds=>
   match s.h.get r with
   |some (.eC (some l))=>rec fi t [] (l.map .call++ds) mode ctx ⟨s.h.set r (.eC none),s.next,s.pc⟩
   |_=>.bad "collected"
 | .call d=>λds=>do
   match <-sE C s d.target d.args with
   | .enter f args s=>do
     let o <-pC C rec f args .deferred (Pg mode) s
     match o.res with
     | .ret _=>rec fi t [] ds (rY (pO o)) ctx o.s
     | .eH _=>.bad "deferred: panic"
   |_=>.bad "deferred: other"
def a8u(C:Ctx)(rec:Rec)(fi:FI)(t:Tr AV)(todo:List bH)(ds:List gO)(ctx:Option (List PE))(s:S):R Out:=
 @List.rec bH (λ_=>R Out) (yf rec fi t ds ctx s none) (λx k _=>a1s x k C rec fi t ds ctx s) todo
def a4z(C:Ctx)(rec:Rec)(fi:FI)(t:Tr AV)(ds:List gO)(ctx:Option (List PE))(s:S):R Out:=
 match fi.roundOf with
 |some _=>.bad "a round that returns"
 |none=>match ds with
  | []=>(Bz C s fi t).bind λv=>.ok ⟨.ret v,ctx,s⟩
  |d::ds=>Nb C rec fi t .ret ctx s d ds
def a4A(C:Ctx)(rec:Rec)(fi:FI)(t:Tr AV)(ds:List gO)(ctx:Option (List PE))(s:S)(chain:List PE):R Out:=
 match ds with
 | []=>.ok ⟨.eH chain,ctx,s⟩
 |d::ds=>Nb C rec fi t (.eH chain) ctx s d ds
def a1J(C:Ctx)(rec:Rec)(fi:FI)(t:Tr AV)(todo:List bH)(ds:List gO)(mode:ku)(ctx:Option (List PE))(s:S):R Out:=
 @ku.rec (λ_=>R Out) (a8u C rec fi t todo ds ctx s) (a4z C rec fi t ds ctx s) (a4A C rec fi t ds ctx s) mode
def zu(C:Ctx)(n:Nat):Rec:=
 @Nat.rec (λ_=>Rec) (λ_ _ _ _ _ _ _=>.bad "fuel") (λ_ a=>a1J C a) n
def Ly(n next:Nat)(l:List (Nat×Nat))(i:Nat):Nat:=
 match Nat.blt i n with
 |true=>i
 |false=>match ke i l with
  |some j=>match Nat.ble n j with
   |true=>j
   |false=>next
  |none=>next
def Mv(n m:Nat)(l:List (Nat×SE))(i:Nat):SE:=
 match Nat.blt i n with
 |true=>.var i
 |false=>match Nat.blt i (Nat.add n m)with
  |false=>E1
  |true=>match ke i l with
   |some e=>e
   |none=>E1
def G4(n:Nat)(h:Tr eD):List (Nat×CB)->RS->RS
 | []=>λm=>m
 |x::l=>λm=>G4 n h l (match h.get (Ly n n m.2.1 x.1)with
  |some b=>a50 x.2 b m
  |none=>m)
def wm(h:Tr eD)(a:Nat->Nat)(c:Nat->SE):List (Nat×CB)->Bool
 | []=>true
 |x::l=>match h.get (a x.1)with
  |some b=>nB b (x.2.sub a c)&&(x.2.live&&wm h a c l)
  |none=>false
def Aq(s:S)(v:AV)(o:de)(a:Nat->Nat)(b:Nat->SE):Bool:=
 eK v (o.res.sub a b)&&(wm s.h a b o.post&&G1 (jk a o.post))
mutual
def ZH(C:Ctx):AV->AV->S->R (AV×S)
 | .agg l=>λv s=>match v with
   | .agg O=>(Sn C l O s).bind λr=>.ok (.agg r.1,r.2)
   |_=>.ok (v,s)
 | .jy l=>λv s=>match v with
   | .jy O=>(Sn C l O s).bind λr=>.ok (.jy r.1,r.2)
   |_=>.ok (v,s)
 |p=>λv s=>ZI C s p v
def Sn(C:Ctx):List AV->List AV->S->R (List AV×S)
 | []=>λO s=>.ok (O,s)
 |p::l=>λO s=>match O with
  | []=>.ok ([],s)
  |v::O=>(ZH C p v s).bind λr=>(Sn C l O r.2).bind λq=>.ok (r.1::q.1,q.2)
end
def a5g(a b:Bool):Bool:=
 match a with
 |true=> !b
 |false=>b
def jm(C:Ctx)(c:bp)(eH:Bool)(s:S)(v:AV):List de->R Unit
 | []=>.must s.pc (.ok ())
 |o::l=>match a5g o.eH eH with
  |true=>jm C c eH s v l
  |false=>(ZH C o.res v s).bind λr=>
   match G4 c.n r.2.h o.post (Mz o.res r.1 (.nil,[],[]))with
   |(_,tl,a)=>match Aq r.2 r.1 o (Ly c.n r.2.next tl) (Mv c.n o.m a)with
    |true=>cP r.2.pc (Mv c.n o.m a) o.facts
    |false=>jm C c eH s v l
def pG(C:Ctx)(c:bp)(o:Out):R Unit:=
 match o.res with
 | .ret v=>jm C c false o.s v c.outs
 | .eH ch=>match ch with
   | []=>.must o.s.pc (.ok ())
   |p::l=>match l with
    |_::_=>.must o.s.pc (.ok ())
    | []=>match p.recovered with
      |true=>.must o.s.pc (.ok ())
      |false=>jm C c true o.s p.v c.outs
def qW:Code->List bH->Nat->Nat×Option (List bH)
 | .seq a b=>λk n=>match qW a (.code b::k) n with
   |(m,some r)=>(m,some r)
   |(m,none)=>qW b k m
 | .cond _ a b=>λk n=>match qW a k n with
   |(m,some r)=>(m,some r)
   |(m,none)=>qW b k m
 | .block id x=>λk n=>qW x (.inBlock id::k) n
 | .loop x=>λk n=>match n with
   |0=>(0,some (.code x::.inLoop x::k))
   |m+1=>qW x (.inLoop x::k) m
 | .scope x=>λk n=>qW x (.inScope x::k) n
 |_=>λ_ n=>(n,none)
def wR(P:Program)(f:FuncId)(n:Nat):List bH:=
 match(P.funcs[f]?).bind (·.body)with
 |some c=>match(qW c [] n).2 with
  |some l=>l
  |none=>[]
 |none=>[]
def lg:Code->Nat->Nat×Option (Code×Code)
 | .seq a b=>λn=>match lg a n with
   |(m,some r)=>(m,some r)
   |(m,none)=>lg b m
 | .cond _ a b=>λn=>match lg a n with
   |(m,some r)=>(m,some r)
   |(m,none)=>lg b m
 | .block _ x=>λn=>lg x n
 | .loop x=>λn=>lg x n
 | .scope x=>λn=>lg x n
 | .rangeFunc _ _ a b=>λn=>match n with
   |0=>(0,some (a,b))
   |m+1=>lg b m
 |_=>λn=>(n,none)
def j5(P:Program)(f:FuncId)(n:Nat):Code×Code:=
 match(P.funcs[f]?).bind (·.body)with
 |some c=>match(lg c n).2 with
  |some r=>r
  |none=>(.skip,.skip)
 |none=>(.skip,.skip)
def yr(P:Program)(f:FuncId):List bH:=
 match(P.funcs[f]?).bind (·.body)with
 |some c=>[.code c]
 |none=>[]
end Go.Proofs.YtokipodjggomfaaGreatDoor.Abs
namespace Go.Proofs.YtokipodjggomfaaGreatDoor.Abs
open Go
abbrev PD:=List Dt->Prop
structure zI where
 fC:Nat
 fP:Nat
 fB:Nat
 tL:Nat
 tT:Nat
 tI:Nat
 tE:Nat
 nG:Nat
 ntC:Nat
 ntP:Nat
 ntB:Nat
def Ib(P:Program)(u:zI)(a:PD)(b:Nat)(n:Nat)(m:Nat):de:=
 { res:=.jy [],post:=[(u.nG,.loop .ready none u.fP u.ntP [(3,.ptr (u.nG+3) 0)] [30,31] (j5 P u.fP 0).1 (j5 P u.fP 0).2 (u.nG+1)),(u.nG+1,.eC []),
     (u.nG+3,.cells u.tL [.gR b (.var n) (.var (n+1))] 0 false false),(b,.vec u.tT (.var (n+2)))],
   facts:=[.rel "left" false a [.var n,.var (n+2)]],m }
def a0e(P:Program)(u:zI)(x:String)(b a:PD):bp:=
 let g:=u.nG
 { fn:=u.fB,nt:=u.ntB,round:=none,t:=[(0,.yield g),(1,.ptr (g+2) 0),(3,.bS (.int .i64) (.var (g+9)))],todo:=wR P u.fB 0,n:=g+10,
   pre:=[(g+2,.cells u.tL [.bS (.sl u.tT) (.var (g+8))] 0 false false),
    (g,.loop .ready none u.fP u.ntP [(3,.ptr (g+3) 0)] [30,31] (j5 P u.fP 0).1 (j5 P u.fP 0).2 (g+1)),(g+1,.eC []),
    (g+3,.cells u.tL [.gR (g+4) (.var (g+5)) (.var (g+6))] 0 false false),(g+4,.vec u.tT (.var (g+7)))],
   facts:=[.rel x false b [.var (g+5),.var (g+7),.var (g+8),.var (g+9)]],
   outs:=[Ib P u a (g+10) (g+11) 4,Ib P u a (g+4) (g+10) 3] }
def BR(P:Program)(u:zI)(st:LoopState)(pe:Option Code)(e:Int):de:=
 let g:=u.nG
 { res:=.jy [],post:=[(g,.loop st pe u.fC u.ntC [(2,.ptr (g+5) 0),(3,.ptr (g+4) 0)] [7] (j5 P u.fC 0).1 (j5 P u.fC 0).2 (g+1)),(g+1,.eC []),
    (g+4,.cells u.tI [.bS (.int .i64) (.var (g+10))] 0 false false),(g+5,.cells u.tE [.int .i64 e] 0 false false)],facts:=[],m:=1 }
def WH(P:Program)(u:zI)(x:String)(a:PD):bp:=
 let g:=u.nG
 { fn:=u.fP,nt:=u.ntP,round:=none,t:=[(0,.yield g),(3,.ptr (g+2) 0)],todo:=wR P u.fP 0,n:=g+10,
   pre:=[(g+2,.cells u.tL [.gR (g+3) (.var (g+6)) (.var (g+7))] 0 false false),(g+3,.vec u.tT (.var (g+8))),
    (g,.loop .ready none u.fC u.ntC [(2,.ptr (g+5) 0),(3,.ptr (g+4) 0)] [7] (j5 P u.fC 0).1 (j5 P u.fC 0).2 (g+1)),(g+1,.eC []),
    (g+4,.cells u.tI [.bS (.int .i64) (.var (g+9))] 0 false false),(g+5,.cells u.tE [.int .i64 0] 0 false false)],
   facts:=[.rel x false a [.var (g+6),.var (g+8)]],
   outs:=[BR P u .ready none 0,BR P u .done (some .ret) 2] }
def WN(P:Program)(u:zI)(pT:PD):bp:=
 let g:=u.nG
 { fn:=u.fC,nt:=u.ntC,round:=none,t:=[(0,.agg [.bS (.int .i64) (.var g),.bS (.int .i64) (.var (g+1)),.bS .str (.var (g+2)),.bS (.sl u.tT) (.var (g+3))])],todo:=yr P u.fC,n:=g+4,pre:=[],
   facts:=[.rel "term" false pT [.var g,.var (g+1),.var (g+2),.var (g+3)]],
   outs:=[{ res:=.int .i64 0,post:=[],facts:=[],m:=0 },{ res:=.int .i64 2,post:=[],facts:=[],m:=0 },{ res:=.int .i64 3,post:=[],facts:=[],m:=0 }] }
end Go.Proofs.YtokipodjggomfaaGreatDoor.Abs
namespace Go.Proofs.YtokipodjggomfaaGreatDoor.Abs
open Go
def ib(P:Program)(u:zI)(f n:Nat)(x:String)(a:PD):bp:=
 let g:=u.nG
 { fn:=f,nt:=n,round:=none,t:=[(0,.bS (.sl u.tT) (.var g)),(1,.bS (.sl u.tT) (.var (g+1)))],todo:=yr P f,n:=g+2,pre:=[],
   facts:=[.rel x false a [.var g,.var (g+1)]],outs:=[{ res:=.bool true,post:=[],facts:=[],m:=0 }] }
def fb(P:Program)(u:zI)(f n:Nat)(x:String)(a:PD):bp:=
 let g:=u.nG
 { fn:=f,nt:=n,round:=none,t:=[(0,.bS (.sl u.tT) (.var g)),(1,.bS (.sl u.tT) (.var (g+1))),(5,.bS (.int .i64) (.var (g+2)))],todo:=wR P f 0,n:=g+3,pre:=[],
   facts:=[.rel x false a [.var g,.var (g+1),.var (g+2)],.inr (.var (g+2)) (.int .i64 (.ofNat 1073741825)),.tr (.a2 (.bin .eql) (.a1 .len (.var g)) (.a1 .len (.var (g+1))))],
   outs:=[{ res:=.bool true,post:=[],facts:=[],m:=0 }] }
def KX(P:Program)(u:zI)(a c:PD)(b n m:Nat):de:=
 { Ib P u a b n m with facts:=[.rel "left" false a [.var n,.var (n+2)],.rel "app" false c [.var n,.var (n+2),.var (u.nG+5),.var (u.nG+7),.var (u.nG+8),.var (u.nG+9)]] }
def fc(P:Program)(u:zI)(x:String)(c a b:PD):bp:=
 { a0e P u x c a with outs:=[KX P u a b (u.nG+10) (u.nG+11) 4,KX P u a b (u.nG+4) (u.nG+10) 3] }
def ed(P:Program)(u:zI)(x:String)(a pS b c:PD):bp:=
 { WH P u x a with
   facts:=[.rel x false a [.var (u.nG+6),.var (u.nG+8)],.rel "snd" false pS [.var (u.nG+6),.var (u.nG+8)],.rel "wrd" false b [.var (u.nG+9),.var (u.nG+6),.var (u.nG+8)]],
   outs:=[{ BR P u .ready none 0 with facts:=[.rel "wrds" false c [.var (u.nG+10),.var (u.nG+9),.var (u.nG+6),.var (u.nG+8)]] }] }
end Go.Proofs.YtokipodjggomfaaGreatDoor.Abs
namespace Go.Proofs.YtokipodjggomfaaGreatDoor.Abs
open Go
section tries
variable{α:Type}
theorem Tr.get_nil (i:Nat):(Tr.nil:Tr α).get i=none:=rfl
theorem Tr.mf (v:Option α) (l r:Tr α) (n:Nat):
  (Tr.node v l r).get (n+1)=if n%2=0 then l.get (n/2)else r.get (n/2):=by
 show@Bool.rec (λ_=>Option α) (r.get (Nat.div n 2)) (l.get (Nat.div n 2)) (Nat.beq (Nat.mod n 2) 0)=_;by_cases h:n%2=0
 .have:Nat.beq (Nat.mod n 2) 0=true:=by rw[show Nat.mod n 2=0 from h];rfl
  rw[this,az h];rfl
 .have:Nat.beq (Nat.mod n 2) 0=false:=by
    cases a:Nat.beq (Nat.mod n 2) 0
    .rfl
    .exact absurd (aL a) h
  rw[this,ai h];rfl
theorem Tr.IE (x:Option α) (f:Nat) (t:Tr α):
  Tr.It x (f+1) 0 t=match t with| .nil=>.node x .nil .nil| .node _ l r=>.node x l r:=by
 cases t<;>rfl
theorem Tr.qn (x:Option α) (f n:Nat) (t:Tr α):
  Tr.It x (f+1) (n+1) t=if n%2=0 then
    (match t with| .nil=>.node none (Tr.It x f (n/2) .nil) .nil| .node v l r=>.node v (Tr.It x f (n/2) l) r)
    else(match t with| .nil=>.node none .nil (Tr.It x f (n/2) .nil)| .node v l r=>.node v l (Tr.It x f (n/2) r)):=by
 have key:Tr.It x (f+1) (n+1) t=@Bool.rec (λ_=>Tr α)
  (@Tr.rec α (λ_=>Tr α) (.node none .nil (Tr.It x f (Nat.div n 2) .nil)) (λv l r _ _=>.node v l (Tr.It x f (Nat.div n 2) r)) t)
  (@Tr.rec α (λ_=>Tr α) (.node none (Tr.It x f (Nat.div n 2) .nil) .nil) (λv l r _ _=>.node v (Tr.It x f (Nat.div n 2) l) r) t)
  (Nat.beq (Nat.mod n 2) 0):=rfl
 rw[key];by_cases h:n%2=0
 .have:Nat.beq (Nat.mod n 2) 0=true:=by rw[show Nat.mod n 2=0 from h];rfl
  rw[this,az h];cases t<;>rfl
 .have:Nat.beq (Nat.mod n 2) 0=false:=by
    cases a:Nat.beq (Nat.mod n 2) 0
    .rfl
    .exact absurd (aL a) h
  rw[this,ai h];cases t<;>rfl
theorem Tr.FF (x y:Option α):∀(f i:Nat)(t:Tr α),Tr.It x f i (Tr.It y f i t)=Tr.It x f i t
 |0,_,_=>rfl
 |f+1,0,t=>by cases t<;>rfl
 |f+1,n+1,t=>by
  by_cases a:n%2=0
  .simp only[Tr.qn,az a];cases t<;>simp only[Tr.FF x y f]
  .simp only[Tr.qn,ai a];cases t<;>simp only[Tr.FF x y f]
theorem Tr.set_set (t:Tr α) (i:Nat) (x y:α):(t.set i x).set i y=t.set i y:=Tr.FF _ _ _ _ _
theorem Tr.lu (x:Option α):∀(f i:Nat)(t:Tr α),i<f->(Tr.It x f i t).get i=x
 |0,_,_,h=>absurd h (rS _)
 |f+1,0,t,_=>by rw[Tr.IE];cases t<;>rfl
 |f+1,n+1,t,h=>by
  rw[Tr.qn];have b:n/2<f:=by omega
  by_cases a:n%2=0
  .rw[az a];cases t<;>(simp only[Tr.mf,az a];exact Tr.lu x f _ _ b)
  .rw[ai a];cases t<;>(simp only[Tr.mf,ai a];exact Tr.lu x f _ _ b)
theorem Tr.j6 (x:Option α):∀(f i j:Nat)(t:Tr α),i≠j->(Tr.It x f i t).get j=t.get j
 |0,_,_,_,_=>rfl
 |f+1,0,0,_,h=>absurd rfl h
 |f+1,0,j+1,t,_=>by rw[Tr.IE];cases t<;>simp[Tr.mf,Tr.get_nil]
 |f+1,n+1,0,t,_=>by
  rw[Tr.qn];split<;>cases t<;>rfl
 |f+1,n+1,m+1,t,h=>by
  rw[Tr.qn];by_cases c:n%2=0
  .rw[az c];by_cases b:m%2=0
   .have a:n/2≠m/2:=by omega
    cases t<;>simp only[Tr.mf,az b,Tr.j6 x f _ _ _ a,Tr.get_nil]
   .grind[Tr.mf,Tr.get_nil]
  .rw[ai c];by_cases b:m%2=0
   .grind[Tr.mf,Tr.get_nil]
   .have a:n/2≠m/2:=by omega
    cases t<;>simp only[Tr.mf,ai b,Tr.j6 x f _ _ _ a,Tr.get_nil]
theorem Tr.get_set_same (t:Tr α) (i:Nat) (x:α):(t.set i x).get i=some x:=Tr.lu _ _ _ _ (zQ i)
theorem Tr.get_set_other (t:Tr α) {i j:Nat} (x:α) (h:i≠j):(t.set i x).get j=t.get j:=Tr.j6 _ _ _ _ _ h
theorem Tr.bm (t:Tr α) (i j:Nat) (x:α):(t.set i x).get j=if i=j then some x else t.get j:=by grind[Tr.get_set_same,Tr.get_set_other]
theorem Tr.sF (t:Tr α) (i j:Nat):(t.del i).get j=if i=j then none else t.get j:=by
 split
 .next h=>subst h;exact Tr.lu _ _ _ _ (zQ i)
 .next h=>exact Tr.j6 _ _ _ _ _ h
theorem Tr.F1 (x:α) (xs:List α) (i:Nat) (t:Tr α):Tr.iZ (x::xs) i t=Tr.iZ xs (i+1) (t.set i x):=rfl
theorem Tr.rm:∀(l:List α)(k j:Nat)(t:Tr α),(Tr.iZ l k t).get j=if k<=j/\j<k+l.length then l[j-k]? else t.get j
 | [],k,j,t=>by
   rw[ai (by simp only[dv];omega)];rfl
 |x::xs,k,j,t=>by
  rw[Tr.F1,Tr.rm xs (k+1) j];by_cases A:k+1<=j/\j<k+1+xs.length
  .grind
  .grind[Tr.bm]
theorem Tr.dG (l:List α) (j:Nat):(Tr.ofList l).get j=l[j]? :=by grind[Tr.ofList,Tr.rm,Tr.get_nil]
theorem qU:∀(l:List α)(i:Nat),nth l i=l[i]?
 | [],i=>by simp[nth]
 |x::l,0=>by simp[nth]
 |x::l,i+1=>by simp[nth,qU l i]
end tries
structure Loc where
 ay:Nat
 dl:Nat
 cp:Nat
 v:Option Dt
abbrev G:=Nat->Option Loc
def zB:Value->Bool
 | .agg _=>false
 | .tuple _=>false
 |_=>true
def okV(r:R AV):Option Dt:=
 match r with
 | .ok v=>match v with
   | .int k n=>some (.val (.int k n))
   | .bool b=>some (.val (.bool b))
   | .str s=>some (.val (.string ⟨⟨s⟩⟩))
   |_=>none
 |_=>none
def dW(op:BinOp):Value->Value->Option Dt
 | .int k x,.int k' y=>match bj op with
   |true=>okV (shiftOp op k x y)
   |false=>if k=k' then okV (intOp op k x y)else none
 | .string x,.string y=>okV (strOp op x.data.toList y.data.toList)
 |_,_=>none
def A1:Kd->Nat->Dt
 | .int k,_=>.val (.int k 0)
 | .bool,_=>.val (.bool false)
 | .str,_=>.val (.string ⟨⟨[]⟩⟩)
 | .sl t,g=>.sl (.slice none 0 0) t g []
 | .any,_=>.val (.bool false)
 | .ptr _ _,_=>.val (.bool false)
 | .Sf,_=>.val (.bool false)
def iP:List Kd->List Nat->List Dt
 | [],_=>[]
 |k::l,[]=>A1 k 0::iP l []
 |k::l,n::m=>A1 k n::iP l m
def Jj(z:List Dt):Nat->List Dt
 |0=>[]
 |n+1=>z++Jj z n
def ea(l:List UInt8):List Dt:=l.map λb=>.val (.int .u8 b.toNat)
def jq:List Dt->Option (List UInt8)
 | []=>some []
 |d::l=>match d with
  | .val (.int .u8 n)=>(jq l).map λr=>UInt8.ofNat n.toNat::r
  |_=>none
def e1(o:QV)(x:Dt):Option Dt:=
 match o with
 | .un op=>match x with
   | .val (.int k n)=>okV (ZO op (.int k n))
   | .val (.bool b)=>okV (ZO op (.bool b))
   |_=>none
 | .conv k=>match x with
   | .val (.int _ n)=>some (.val (.int k (k.wrap n)))
   |_=>none
 | .len=>match x with
   | .val (.string s)=>some (.val (.int .i64 s.size))
   | .sl (.slice _ n _) _ _ _=>some (.val (.int .i64 n))
   |_=>none
 | .isNil=>match x with
   | .sl (.slice none _ _) _ _ _=>some (.val (.bool true))
   | .sl (.slice (some _) _ _) _ _ _=>some (.val (.bool false))
   |_=>none
 | .off n=>match x with
   | .pt (.pointer (some a)) t g J i k=>some (.pt (.pointer (some { a with off:=a.off+n })) t g J i (k+n))
   |_=>none
 | .ld n=>match x with
   | .pt _ _ _ J i k=>J[i+k+n]?
   |_=>none
 | .nl P=>some (.ls P [])
 | .ns t g=>some (.sl (.slice none 0 0) t g [])
 | .zs P Xv=>match x with
   | .val (.int _ (.ofNat n))=>if P.all Lg then some (.ls P (Jj (iP P Xv) n))else none
   |_=>none
 | .sb=>match x with
   | .val (.string s)=>some (.ls [.int .u8] (ea s.data.toList))
   |_=>none
 | .bs=>match x with
   | .ls _ J=>(jq J).map λl=>.val (.string ⟨⟨l⟩⟩)
   |_=>none
 |_=>none
def Kd.fits:Kd->Dt->Prop
 | .any,d=>zB d.v=true
 | .int k,d=>∃n,d=.val (.int k n)
 | .bool,d=>∃b,d=.val (.bool b)
 | .str,d=>∃s,d=.val (.string s)
 | .sl t,d=>∃a n c g J,d=.sl (.slice a n c) t g J
 | .ptr t k,d=>∃a g J i,d=.pt (.pointer (some a)) t g J i k
 | .Sf,d=>∃v,d=.val v/\(v=.nilIface\/∃t u,v=.iface t u)
open Classical in
def e2(o:QV)(x y:Dt):Option Dt:=
 match o with
 | .bin op=>match x,y with
   | .val u,.val v=>dW op u v
   |_,_=>none
 | .idx=>match x,y with
   | .val (.string s),.val (.int _ (.ofNat i))=>(s.data.toList[i]?).map λb=>.val (.int .u8 b.toNat)
   |_,_=>none
 | .el=>match x,y with
   | .sl (.slice (some a) n _) t g J,.val (.int _ (.ofNat i))=>if i<n then some (.pt (.pointer (some ⟨a.block,a.off+i*g,none⟩)) t g J (i*g) 0)else none
   |_,_=>none
 | .tk g=>match x,y with
   | .ls P J,.val (.int _ (.ofNat n))=>if n*g<=J.length then some (.ls P (J.take (n*g)))else none
   |_,_=>none
 | .sn=>match x with
   | .ls P J=>if∃k,P[J.length%P.length]? =some k/\k.fits y then some (.ls P (J++[y]))else none
   |_=>none
 | .at g k=>match x,y with
   | .ls _ J,.val (.int _ (.ofNat i))=>J[i*g+k]?
   |_,_=>none
 | .cat=>match x,y with
   | .ls P J,.ls c j7=>if P=[.int .u8]/\c=[.int .u8]then some (.ls P (J++j7))else none
   |_,_=>none
 |_=>none
open Classical in
def e3(o:QV)(x y z:Dt):Option Dt:=
 match o with
 | .up g k=>match x,y with
   | .ls P J,.val (.int _ (.ofNat i))=>if i*g+k<J.length/\∃q,P[(i*g+k)%P.length]? =some q/\q.fits z then some (.ls P (J.set (i*g+k) z))else none
   |_,_=>none
 | .sub=>match x,y,z with
   | .val (.string s),.val (.int _ lo),.val (.int _ V)=>some (.val (.string ⟨⟨(s.data.toList.take V.toNat).drop lo.toNat⟩⟩))
   |_,_,_=>none
 | .ite=>match x with
   | .val (.bool b)=>some (if b then y else z)
   |_=>none
 |_=>none
def aj(E:G):SE->Option Dt
 | .var i=>(E i).bind λl=>l.v
 | .int k n=>some (.val (.int k n))
 | .bool b=>some (.val (.bool b))
 | .str s=>some (.val (.string ⟨⟨s⟩⟩))
 | .a1 o x=>(aj E x).bind (e1 o)
 | .a2 o x y=>(aj E x).bind λu=>(aj E y).bind (e2 o u)
 | .a3 o x y z=>(aj E x).bind λu=>(aj E y).bind λv=>(aj E z).bind (e3 o u v)
def gZ(E:G):List SE->Option (List Dt)
 | []=>some []
 |x::l=>(aj E x).bind λd=>(gZ E l).map λr=>d::r
open Classical in
def Kd.see (k:Kd) (d:Dt):Option Value:=if k.fits d then some d.v else none
def Fact.holds (E:G):Fact->Prop
 | .tr e=>aj E e=some (.val (.bool true))
 | .fl e=>aj E e=some (.val (.bool false))
 | .inr i n=>∃k a m,aj E i=some (.val (.int k a))/\aj E n=some (.val (.int .i64 m))/\0<=a/\a<m
 | .rel _ false p l=>∃ds,gZ E l=some ds/\p ds
 | .rel _ true p l=>¬∃ds,gZ E l=some ds/\p ds
def Fact.pos:Fact->Bool
 | .rel _ b _ _=> !b
 |_=>true
def TW(l:Loc):Dt->Dt->Option Value
 | .val (.int .i64 (.ofNat n)),.val (.int .i64 (.ofNat c))=>if n<=c/\c<=l.cp then some (.slice (some ⟨l.ay,l.dl,none⟩) n c)else none
 |_,_=>none
def IB(l:Loc)(g k:Nat):Dt->Option Value
 | .val (.int _ (.ofNat i))=>if i<l.cp then some (.pointer (some ⟨l.ay,l.dl+(i*g+k),none⟩))else none
 |_=>none
mutual
def ag(E:G):AV->Option Value
 | .int k n=>some (.int k n)
 | .bool b=>some (.bool b)
 | .str s=>some (.string ⟨⟨s⟩⟩)
 | .ptr b off=>(E b).map λl=>.pointer (some ⟨l.ay,l.dl+off,none⟩)
 | .o9=>some (.pointer none)
 | .sl b off len cap=>(E b).map λl=>.slice (some ⟨l.ay,l.dl+off,none⟩) len cap
 | .np b pre e0 len g=>(E b).map λl=>.slice (some ⟨l.ay,l.dl+(if e0<l.cp then e0 else pre)*g,none⟩) len (l.cp-e0)
 | .dh=>some (.slice none 0 0)
 | .l5 r=>(E r).map λl=>.map (some l.ay)
 | .iw=>some (.map none)
 | .fn f a b=>match ji f,ax E a,ax E b with
   |true,some a,some b=>some (.func f ⟨a⟩ ⟨b⟩)
   |_,_,_=>none
 | .yield l=>(E l).map λx=>.func (.yield x.ay) ⟨[]⟩ ⟨[]⟩
 | .p0=>some .nilFunc
 | .iface t v=>(ag E v).map λv=>.iface t v
 | .lY=>some .nilIface
 | .agg cs=>(ax E cs).map λl=>.agg ⟨l⟩
 | .jy vs=>(ax E vs).map λl=>.tuple ⟨l⟩
 | .junk=>none
 | .raw v=>some v
 | .bS k e=>(aj E e).bind k.see
 | .gR b n c=>(E b).bind λl=>(aj E n).bind λx=>(aj E c).bind λy=>TW l x y
 | .gS b i g k=>(E b).bind λl=>(aj E i).bind λx=>IB l g k x
def ax(E:G):List AV->Option (List Value)
 | []=>some []
 |v::l=>match ag E v,ax E l with
  |some a,some b=>some (a::b)
  |_,_=>none
end
theorem gH{E:G}{b:Nat}{n c:SE}{v:Value}(h:ag E (.gR b n c)=some v):∃l k q,E b=some l/\aj E n=some (.val (.int .i64 (.ofNat k)))/\aj E c=some (.val (.int .i64 (.ofNat q)))/\k<=q/\q<=l.cp/\v=.slice (some ⟨l.ay,l.dl,none⟩) k q:=by
 simp only[ag,bW]at h;obtain⟨l,a,x,Y,y,d,h⟩:=h;unfold TW at h;split at h
 .grind
 .cases h
theorem om{E:G}{b g k:Nat}{i:SE}{v:Value}(h:ag E (.gS b i g k)=some v):∃l q a,E b=some l/\aj E i=some (.val (.int a (.ofNat q)))/\q<l.cp/\v=.pointer (some ⟨l.ay,l.dl+(q*g+k),none⟩):=by
 simp only[ag,bW]at h;obtain⟨l,c,x,Y,h⟩:=h;unfold IB at h;split at h
 .grind
 .cases h
theorem av{E:G}{v:AV}{l:List AV}{r:List Value}:ax E (v::l)=some r↔∃a b,ag E v=some a/\ax E l=some b/\r=a::b:=by grind[ax,ag]
theorem ba{E:G}:∀{l:List AV}{r:List Value},ax E l=some r->r.length=l.length
 | [],_,h=>by simp[ax]at h;subst h;rfl
 |v::l,r,h=>by
  obtain⟨a,b,_,c,rfl⟩:=av.1 h;simp[ba c]
theorem jT{E:G}:∀{l:List AV}{r:List Value}(i:Nat)(v:AV),ax E l=some r->l[i]? =some v->∃c,ag E v=some c/\r[i]? =some c
 | [],_,i,v,_,V=>by simp at V
 |x::l,r,i,v,h,V=>by
  obtain⟨a,b,d,e,rfl⟩:=av.1 h;cases i with
  |zero=>simp at V;subst V;exact⟨a,d,by simp⟩
  |succ i=>simpa using jT i v e (by simpa using V)
theorem dI{E:G}:∀{l m:List AV}{r s:List Value},ax E l=some r->ax E m=some s->ax E (l++m)=some (r++s)
 | [],m,r,s,h,c=>by simp[ax]at h;subst h;simpa using c
 |x::l,m,r,s,h,c=>by
  obtain⟨a,b,d,e,rfl⟩:=av.1 h;exact av.2 ⟨a,b++s,d,dI e c,rfl⟩
theorem uU{E:G}:∀{l:List AV}{r:List Value}(n:Nat),ax E l=some r->ax E (l.take n)=some (r.take n)
 |_,_,0,_=>by simp[ax]
 | [],r,n+1,h=>by simp[ax]at h;subst h;simp[ax]
 |x::l,r,n+1,h=>by
  obtain⟨a,b,c,d,rfl⟩:=av.1 h;exact av.2 ⟨a,_,c,uU n d,rfl⟩
theorem uV{E:G}:∀{l:List AV}{r:List Value}(n:Nat),ax E l=some r->ax E (l.drop n)=some (r.drop n)
 |_,_,0,h=>by simpa using h
 | [],r,n+1,h=>by simp[ax]at h;subst h;simp[ax]
 |x::l,r,n+1,h=>by
  obtain⟨a,b,d,c,rfl⟩:=av.1 h;simpa using uV n c
def Loc.same (l O:Loc):Prop:=O.ay=l.ay/\O.dl=l.dl/\(O.cp,O.v)=(l.cp,l.v)
def Grow(E B:G):Prop:=∀id l,E id=some l->∃O,B id=some O/\l.same O
theorem Grow.refl (E:G):Grow E E:=λ_ l h=>⟨l,h,rfl,rfl,rfl⟩
theorem Grow.trans {a b c:G} (h:Grow a b) (d:Grow b c):Grow a c:=λid l e=>by
 obtain⟨f,e1,s1⟩:=h id l e;obtain⟨g,e2,s2⟩:=d id f e1;exact⟨g,e2,s2.1.trans s1.1,s2.2.1.trans s1.2.1,s2.2.2.trans s1.2.2⟩
theorem c7{E:G}{k:Kd}{e:SE}{c:Value}(h:ag E (.bS k e)=some c):∃d,aj E e=some d/\k.fits d/\c=d.v:=by grind[ag,Kd.see,Option.bind_eq_some_iff]
theorem V5{k:Kd}{d:Dt}(h:k.fits d):zB d.v=true:=by
 cases k with
 |any=>exact h
 |int k=>obtain⟨n,rfl⟩:=h;rfl
 |bool=>obtain⟨n,rfl⟩:=h;rfl
 |str=>obtain⟨n,rfl⟩:=h;rfl
 |sl t=>obtain⟨a,n,c,g,J,rfl⟩:=h;rfl
 |ptr t k=>obtain⟨a,g,J,i,rfl⟩:=h;rfl
 |Sf=>obtain⟨v,rfl,h⟩:=h;rcases h with rfl|⟨t,u,rfl⟩<;>rfl
theorem KD{E:G}{k:Kd}{e:SE}{c:Value}(h:ag E (.bS k e)=some c):zB c=true:=by grind[c7,V5]
theorem gw{E:G}{k:Kd}{e:SE}{d:Dt}(h:aj E e=some d)(a:k.fits d):ag E (.bS k e)=some d.v:=by grind[ag,Kd.see]
theorem a7{E B:G}(h:Grow E B):∀(e:SE)(d:Dt),aj E e=some d->aj B e=some d
 | .var i,d,e=>by
   simp only[aj,bW]at e ⊢;obtain⟨l,f,e⟩:=e;obtain⟨O,b,s1,s2,g⟩:=h i l f;exact⟨O,b,by rw[(j3 g).2];exact e⟩
 | .int _ _,d,e| .bool _,d,e| .str _,d,e=>e
 | .a1 o x,d,e=>by
   simp only[aj,bW]at e ⊢;obtain⟨u,a,e⟩:=e;exact⟨u,a7 h x u a,e⟩
 | .a2 o x y,d,e=>by
   simp only[aj,bW]at e ⊢;obtain⟨u,a,v,c,e⟩:=e;exact⟨u,a7 h x u a,v,a7 h y v c,e⟩
 | .a3 o x y z,d,e=>by
   simp only[aj,bW]at e ⊢;obtain⟨u,a,v,c,q,j,e⟩:=e;exact⟨u,a7 h x u a,v,a7 h y v c,q,a7 h z q j,e⟩
theorem Oq{E B:G}(h:Grow E B):∀(l:List SE)(r:List Dt),gZ E l=some r->gZ B l=some r
 | [],r,e=>e
 |x::l,r,e=>by
  simp only[gZ,bW,aN]at e ⊢;obtain⟨d,a,q,b,e⟩:=e;exact⟨d,a7 h x d a,q,Oq h l q b,e⟩
theorem Fact.Sl {E B:G} (h:Grow E B):∀{f:Fact},f.pos=true->f.holds E->f.holds B
 | .tr e,_,b=>a7 h _ _ b
 | .fl e,_,b=>a7 h _ _ b
 | .inr i n,_,⟨k,a,m,A,I,W⟩=>⟨k,a,m,a7 h _ _ A,a7 h _ _ I,W⟩
 | .rel _ false p l,_,⟨ds,A,I⟩=>⟨ds,Oq h _ _ A,I⟩
 | .rel _ true p l,c,_=>by cases c
mutual
theorem e9{E B:G}(h:Grow E B):∀(v:AV)(c:Value),ag E v=some c->ag B v=some c
 | .int _ _,c,e| .bool _,c,e| .str _,c,e| .o9,c,e| .dh,c,e| .iw,c,e| .p0,c,e| .lY,c,e| .raw _,c,e=>by
   simpa[ag]using e
 | .junk,c,e=>by simp[ag]at e
 | .bS k i,c,e=>by grind[ag,a7,Option.bind_eq_some_iff]
 | .gR b n c',c,e=>by
   simp only[ag,bW]at e ⊢;obtain⟨l,j,x,Y,y,r,e⟩:=e;obtain⟨O,d,s1,s2,m⟩:=h b l j;refine⟨O,d,x,a7 h n x Y,y,a7 h c' y r,?_⟩;rw[<-e];unfold TW;rw[s1,s2,(j3 m).1]
 | .gS b i g k,c,e=>by
   simp only[ag,bW]at e ⊢;obtain⟨l,j,x,Y,e⟩:=e;obtain⟨O,d,s1,s2,m⟩:=h b l j;refine⟨O,d,x,a7 h i x Y,?_⟩;rw[<-e];unfold IB;rw[s1,s2,(j3 m).1]
 | .ptr b off,c,e=>by
   simp only[ag,aN]at e ⊢;obtain⟨l,j,rfl⟩:=e;obtain⟨O,d,s1,s2,m⟩:=h b l j;exact⟨O,d,by rw[s1,s2]⟩
 | .sl b off len cap,c,e=>by
   simp only[ag,aN]at e ⊢;obtain⟨l,j,rfl⟩:=e;obtain⟨O,d,s1,s2,m⟩:=h b l j;exact⟨O,d,by rw[s1,s2]⟩
 | .np b pre e0 len g,c,e=>by
   simp only[ag,aN]at e ⊢;obtain⟨l,j,rfl⟩:=e;obtain⟨O,d,s1,s2,m⟩:=h b l j;exact⟨O,d,by rw[s1,s2,(j3 m).1]⟩
 | .l5 b,c,e=>by
   simp only[ag,aN]at e ⊢;obtain⟨l,j,rfl⟩:=e;obtain⟨O,d,s1,s2,m⟩:=h b l j;exact⟨O,d,by rw[s1]⟩
 | .yield b,c,e=>by
   simp only[ag,aN]at e ⊢;obtain⟨l,j,rfl⟩:=e;obtain⟨O,d,s1,s2,m⟩:=h b l j;exact⟨O,d,by rw[s1]⟩
 | .fn f a b,c,e=>by
   simp only[ag]at e ⊢;cases o:ji f with
   |false=>simp[o]at e
   |true=>
    cases p:ax E a with
    |none=>simp[o,p]at e
    |some x=>
     cases q:ax E b with
     |none=>simp[o,p,q]at e
     |some y=>simp only[o,p,q,jU h a x p,jU h b y q]at e ⊢;exact e
 | .iface t v,c,e=>by
   simp only[ag,aN]at e ⊢;obtain⟨x,Y,rfl⟩:=e;exact⟨x,e9 h v x Y,rfl⟩
 | .agg cs,c,e=>by
   simp only[ag,aN]at e ⊢;obtain⟨x,Y,rfl⟩:=e;exact⟨x,jU h cs x Y,rfl⟩
 | .jy cs,c,e=>by
   simp only[ag,aN]at e ⊢;obtain⟨x,Y,rfl⟩:=e;exact⟨x,jU h cs x Y,rfl⟩
theorem jU{E B:G}(h:Grow E B):∀(l:List AV)(r:List Value),ax E l=some r->ax B l=some r
 | [],r,e=>by simpa[ax]using e
 |v::l,r,e=>by
  obtain⟨a,b,c,d,rfl⟩:=av.1 e;exact av.2 ⟨a,b,e9 h v a c,jU h l b d,rfl⟩
end
def R.path {α:Type} (r:R α) (Q:α->Prop):Prop:=
 match r with
 | .ok a=>Q a
 | .bad _=>True
 | .ask n k=>∃i,i<n/\(k i).path Q
 | .must pc k=>(∃E:G,∀f∈pc,f.holds E)\/k.path Q
theorem R.aJ {α:Type} (w:String) (Q:α->Prop):(R.bad w:R α).path Q:=trivial
theorem R.aE {α:Type} {Q c:α->Prop} (h:∀a,Q a->c a):∀{r:R α},r.path Q->r.path c
 | .ok _,b=>h _ b
 | .bad _,_=>trivial
 | .ask _ _,⟨i,V,b⟩=>⟨i,V,R.aE h b⟩
 | .must _ _,b=>b.imp id λb=>R.aE h b
theorem R.nX {α j:Type} {Q:j->Prop} {f:α->R j}:∀{r:R α},r.path (λa=>(f a).path Q)->(r.bind f).path Q
 | .ok _,h=>h
 | .bad _,_=>trivial
 | .ask _ _,⟨i,V,h⟩=>⟨i,V,R.nX h⟩
 | .must _ _,h=>h.imp id λh=>R.nX h
theorem R.pb {α j:Type} {Q:j->Prop} {f:α->R j} {r:R α} (P:α->Prop) (h:r.path P) (b:∀a,P a->(f a).path Q):(r.bind f).path Q:=
 R.nX (R.aE b h)
theorem R.bh {α j:Type} {Q:j->Prop} {f:α->R j} {r:R α} (P:α->Prop) (h:r.path P) (b:∀a,P a->(f a).path Q):(r>>=f).path Q:=
 R.nX (R.aE b h)
theorem R.fD {α:Type} (TT:String) (o:Option α):(R.tc TT o).path (λa=>o=some a):=by cases o<;>simp[R.tc,R.path]
theorem R.aI (b:Bool) (TT:String):(bD b TT).path (λ_=>b=true):=by cases b<;>simp[bD,R.path]
def VR(E:G)(v:AV)(c:Value):Prop:=v=.junk\/ag E v=some c
def kY(E:G)(d:AD):Option Deferred:=
 match ag E d.target,ax E d.args with
 |some (.func f a b),some l=>some { target:=.fn f b,args:=a++⟨l⟩ }
 |_,_=>none
def fE(E:G):List AD->Option (List Deferred)
 | []=>some []
 |d::l=>match kY E d,fE E l with
  |some a,some b=>some (a::b)
  |_,_=>none
def aD(E:G)(nt:Nat)(t:Tr AV)(a:Array Value):Prop:=
 a.size=nt/\(∀d v,t.get d=some v->d<nt/\∃c,a[d]? =some c/\VR E v c)/\(∀d,t.get d=none->a.getD d undef=undef)
def dm:eD->Bool
 | .cells _ _ _ _ _ st _=>st
 | .Dp _ _ _=>true
 |_=>false
def sL(E:G)(e:ME)(m:MapEntry):Prop:=
 ag E e.k=some m.key/\ag E e.v=some m.val/\m.born=e.born
def db(E:G):List ME->List MapEntry->Prop
 | [],[]=>True
 |e::J,m::ms=>sL E e m/\db E J ms
 |_,_=>False
def iY(C:Ctx)(t:TypeId):Nat:=(aq C t).length
def cw(C:Ctx)(E:G)(l:Loc):eD->Obj->Prop
 | .cells elem cs n fz _ st sg,o=>∃(vs:Array Value)(lo V:Nat),o=.cells vs elem (lo,V)/\l.dl+n<=vs.size/\
     (∀i v,i<n->cs.get i=some v->∃c,vs[l.dl+i]? =some c/\VR E v c)/\
     (∃i,C.T.get elem=some i/\n<=l.cp*i.size/\l.dl+l.cp*i.size<=vs.size/\∃q,l.dl=q*i.size)/\
     (st=false->∀off,lo<=off->off<V->off<l.dl+fz\/(sg=true/\vs.size<=off))/\lo<=V
 | .map J c,o=>∃(gG:Array MapEntry),o=.map gG c/\db E J gG.toList/\(∃d,∀e∈J,keyOf d e.k=true)
 | .Pk none _ _ _,o=>l.dl=0/\o=.mapIter none 0 #[] 0
 | .Pk (some m) since seen last,o=>l.dl=0/\∃(lm:Loc),E m=some lm/\o=.mapIter (some lm.ay) since ⟨seen.reverse⟩ last
 | .a1a s pos,o=>l.dl=0/\o=.stringIter ⟨⟨s⟩⟩ pos
 | .Dp elem k zs,o=>o=.cells ⟨zs.map (.int k)⟩ elem (0,0)
 | .eC none,o=>o=.deferred none
 | .eC (some ds),o=>∃l,fE E ds=some l/\o=.deferred (some l)
 | .vec elem e,o=>∃(vs:Array Value)(lo V:Nat)(J:List Dt),o=.cells vs elem (lo,V)/\aj E e=some (.ls (aq C elem) J)/\
     (∀j d,J[j]? =some d->vs[l.dl+j]? =some d.v)/\
     (∃i,C.T.get elem=some i/\i.size=iY C elem/\J.length<=l.cp*i.size/\l.dl+l.cp*i.size<=vs.size/\∃q,l.dl=q*i.size)/\
     (∀off,lo<=off->off<V->off<l.dl\/vs.size<=off)/\lo<=V
 | .loop st pending fn nt tmps params assign body defers,o=>∃(a:Array Value)(ld:Loc),aD E nt tmps a/\E defers=some ld/\
     o=.loop { state:=st,pending,fn,tmps:=a,params:=⟨params⟩,assign,body,defers:=ld.ay }
def fg(b:eD)(u:Nat)(N:eD)(l O:Loc):Prop:=
 match b,N with
 | .cells _ _ n _ fh _ _,.cells _ _ c _ _ a _=>u∈fh/\a=true/\O.dl+c<=l.dl+n
 |_,_=>False
def Live(E:G)(s:S)(k:Nat):Prop:=∃id b l,s.h.get id=some b/\dm b=false/\E id=some l/\l.ay=k
def jv(w:World)(F:Nat->Prop)(b o:Nat)(J:List Dt):Prop:=
 F b/\∃(vs:Array Value)(t:TypeId)(lo V:Nat),w.heap[b]? =some (.cells vs t (lo,V))/\∀(j:Nat)d,J[j]? =some d->vs[o+j]? =some d.v
mutual
def Dt.c6 (C:Ctx) (w:World) (F:Nat->Prop):Dt->Prop
 | .val v=>zB v=true
 | .sl v t g J=>(v=.slice none 0 0/\J=[])\/(g=iY C t/\(∃a n c,v=.slice (some a) n c/\J.length=n*g/\(n≠0->a.spot=none/\jv w F a.block a.off J))/\Dt.bG C w F (aq C t) 0 J)
 | .ls P J=>Dt.bG C w F P 0 J
 | .pt v t g J i k=>g=iY C t/\(∃a q r,v=.pointer (some a)/\a.spot=none/\i=q*g/\q<r/\J.length=r*g/\i+k<=a.off/\jv w F a.block (a.off-(i+k)) J)/\Dt.bG C w F (aq C t) 0 J
def Dt.bG (C:Ctx) (w:World) (F:Nat->Prop) (P:List Kd):Nat->List Dt->Prop
 |_,[]=>True
 |j,d::l=>(∃k,P[j%P.length]? =some k/\k.fits d)/\Dt.c6 C w F d/\Dt.bG C w F P (j+1) l
end
def cy(C:Ctx)(E:G)(s:S)(w:World)(Z:Nat->Prop):Prop:=∀id l d,E id=some l->l.v=some d->d.c6 C w λk=>k<w.heap.size/\¬Live E s k/\¬Z k
structure Rel(C:Ctx)(base:Nat)(E:G)(s:S)(w:World):Prop where
 ay:∀id b,s.h.get id=some b->∃l o,E id=some l/\w.heap[l.ay]? =some o/\cw C E l b o
 sep:∀id u b N l O,s.h.get id=some b->s.h.get u=some N->E id=some l->E u=some O->id≠u->l.ay=O.ay->
  fg b u N l O\/fg N id b O l
 new:∀id,s.next<=id->E id=none
 eM:∀g,g<C.nG->∃l,E g=some l/\l.ay=g/\l.dl=0
 low:∀id b l,s.h.get id=some b->E id=some l->l.ay<base->dm b=true
 bs:base<=w.heap.size
 pc:∀f∈s.pc,f.pos=true/\f.holds E
 rd:cy C E s w λ_=>False
structure qg(E:G)(s:S)(w M:World):Prop where
 size:w.heap.size<=M.heap.size
 tape:M.tape=w.tape
 os:M.os=w.os
 output:M.output=w.output
 stays:∀(k:Nat)(o:Obj),w.heap[k]? =some o->¬Live E s k->M.heap[k]? =some o
structure Step(C:Ctx)(base:Nat)(E:G)(s:S)(w:World)(B:G)(U:S)(M:World):Prop where
 grow:Grow E B
 rel:Rel C base B U M
 keep:qg E s w M
 live:∀k,Live B U k->k<w.heap.size->Live E s k
 next:s.next<=U.next
 SW:∀id l,E id=some l->id<s.next
 MT:∀id O,B id=some O->(∃l,E id=some l)\/(s.next<=id/\(w.heap.size<=O.ay\/∃id0 b0 l0,s.h.get id0=some b0/\E id0=some l0/\l0.ay=O.ay))
 lV:∀id N,U.h.get id=some N->id<s.next->∃b,s.h.get id=some b
 Xw:∀Z:Nat->Prop,(∀k,Z k->k<w.heap.size/\¬Live E s k)->cy C E s w Z->cy C B U M Z
theorem Rel.lt {C:Ctx} {base:Nat} {E:G} {s:S} {w:World} (b:Rel C base E s w) {id:Nat} {l:Loc} (h:E id=some l):id<s.next:=by
 rcases cV id s.next with a|a
 .exact a
 .rw[b.new id a]at h;cases h
theorem qg.refl (E:G) (s:S) (w:World):qg E s w w:=⟨aX _,rfl,rfl,rfl,λ_ _ h _=>h⟩
theorem Step.refl {C:Ctx} {base:Nat} {E:G} {s:S} {w:World} (a:Rel C base E s w):Step C base E s w E s w:=
 ⟨Grow.refl E,a,qg.refl E s w,λ_ h _=>h,aX _,λ_ _ h=>a.lt h,λ_ l h=>.inl ⟨l,h⟩,λ_ b h _=>⟨b,h⟩,λ_ _ h=>h⟩
theorem Step.trans {C:Ctx} {base:Nat} {E f j:G} {s t u:S} {w v w2:World} (h:Step C base E s w f t v) (c:Step C base f t v j u w2):
  Step C base E s w j u w2:=by
 refine⟨h.grow.trans c.grow,c.rel,⟨gn h.keep.size c.keep.size,c.keep.tape.trans h.keep.tape,c.keep.os.trans h.keep.os,c.keep.output.trans h.keep.output,?_⟩,?_,gn h.next c.next,h.SW,?_,?_,λa m x=>c.Xw a (λk Z=>⟨iT (m k Z).1 h.keep.size,λd=>(m k Z).2 (h.live k d (m k Z).1)⟩) (h.Xw a m x)⟩
 .intro k o Z n;have e:k<w.heap.size:=by grind
  exact c.keep.stays k o (h.keep.stays k o Z n) (λd=>n (h.live k d e))
 .intro k d Z;exact h.live k (c.live k d (iT Z h.keep.size)) Z
 .intro id y I;have key:∀id i,f id=some i->(∃l,E id=some l)\/(s.next<=id/\(w.heap.size<=i.ay\/∃id0 b0 l0,s.h.get id0=some b0/\E id0=some l0/\l0.ay=i.ay)):=h.MT;rcases c.MT id y I with⟨i,A⟩|⟨n,V⟩
  .obtain⟨z,W,e1,_⟩:=c.grow id i A;rw[I]at W;obtain rfl:=ae W;rcases key id i A with Z|⟨p,g⟩
   .exact .inl Z
   .exact .inr ⟨p,by rw[e1];exact g⟩
  .refine .inr ⟨gn h.next n,?_⟩;rcases V with V|⟨id0,b0,l0,g1,g2,g3⟩
   .exact .inl (gn h.keep.size V)
   .rw[<-g3];rcases key id0 l0 g2 with⟨l,d⟩|⟨_,g⟩
    .obtain⟨b,q⟩:=h.lV id0 b0 g1 (h.SW id0 l d);obtain⟨B,W,e1,_⟩:=h.grow id0 l d;rw[g2]at W;obtain rfl:=ae W;exact .inr ⟨id0,b,l,q,d,e1.symm⟩
    .exact g
 .intro id N q e;obtain⟨D,r⟩:=c.lV id N q (iT e h.next);exact h.lV id D r e
end Go.Proofs.YtokipodjggomfaaGreatDoor.Abs
namespace Go.Proofs.YtokipodjggomfaaGreatDoor.Abs
open Go
def aC(fi:FI)(ro:Option Nat)(tm:Array Value)(todo:List Item)(ds:List Deferred)(m:FrameMode):Frame:=
 { fn:=fi.fn,tmps:=tm,todo,defers:=ds,mode:=m,kind:=fi.kind,roundOf:=ro }
def mX(E:G):Option Nat->Option Nat->Prop
 |none,none=>True
 |some l,some b=>∃F,E l=some F/\F.ay=b
 |_,_=>False
def iI(E:G):bH->Option Item
 | .code c=>some (.code c)
 | .inBlock id=>some (.inBlock id)
 | .inLoop b=>some (.inLoop b)
 | .inScope b=>some (.inScope b)
 | .inRange l=>(E l).map λF=>.inRangeFunc F.ay
 | .endRange l=>(E l).map λF=>.endRangeFunc F.ay
 | .beginRound=>some .beginRound
def gJ(E:G):List bH->Option (List Item)
 | []=>some []
 |x::l=>match iI E x,gJ E l with
  |some a,some b=>some (a::b)
  |_,_=>none
def pF(E:G):gO->Option Deferred
 | .call d=>kY E d
 | .collected r=>(E r).map λF=>{ target:=.collected F.ay,args:=#[] }
def cN(tl:List Deferred)(E:G):List gO->Option (List Deferred)
 | []=>some tl
 |x::l=>match pF E x,cN tl E l with
  |some a,some b=>some (a::b)
  |_,_=>none
def iA(E:G)(p:PE):Option PanicEntry:=(ag E p.v).map λv=>{ v,recovered:=p.recovered }
def fa(E:G):List PE->Option (List PanicEntry)
 | []=>some []
 |x::l=>match iA E x,fa E l with
  |some a,some b=>some (a::b)
  |_,_=>none
def mZ(E:G):ku->FrameMode->Prop
 | .run,m=>m=.run
 | .ret,m=>m=.returning
 | .eH ch,m=>∃c,fa E ch=some c/\m=.panicking c
def eu(E:G)(k:CallKind)(ctx:Option (List PE))(cs:List Frame):Prop:=
 match k with
 | .normal=>ctx=none
 | .deferred=>∃c rest,cs=c::rest/\(match ctx with|none=>c.mode=.returning|some ch=>∃a,fa E ch=some a/\c.mode=.panicking a)
 |_=>False
def bN(k:CallKind)(cs a:List Frame):Prop:=
 match k with
 | .normal=>a=cs
 |_=>∃c rest m,cs=c::rest/\a={ c with mode:=m }::rest
theorem bN.refl {k:CallKind} {E:G} {ctx:Option (List PE)} {cs:List Frame} (h:eu E k ctx cs):bN k cs cs:=by
 cases k with
 |normal=>rfl
 |deferred=>obtain⟨c,rest,rfl,_⟩:=h;exact⟨c,rest,c.mode,rfl,rfl⟩
 |_=>exact h.elim
theorem bN.trans {k:CallKind} {a b c:List Frame} (h:bN k a b) (d:bN k b c):bN k a c:=by
 cases k with
 |normal=>exact Eq.trans (show c=b from d) (show b=a from h)
 |_=>obtain⟨c1,e,m1,rfl,rfl⟩:=h;obtain⟨c2,r2,m2,I,rfl⟩:=d;injection I with W D;subst W;subst D;exact⟨c1,e,m2,rfl,rfl⟩
structure gN(C:Ctx)(base:Nat)(E:G)(fi:FI)(ro:Option Nat)(t:Tr AV)(todo:List bH)(ds:List gO)(mode:ku)(ctx:Option (List PE))(s:S)
  (tm:Array Value) (items:List Item) (bz:List Deferred) (m:FrameMode) (cs:List Frame) (w:World):Prop where
 rel:Rel C base E s w
 ro:mX E fi.roundOf ro
 tmps:aD E fi.nt t tm
 todo:mode=.run->gJ E todo=some items
 defs:cN fi.tl E ds=some bz
 mode:mZ E mode m
 ctx:eu E fi.kind ctx cs
 fn:∃fn,C.P.funcs[fi.fn]? =some fn
 rk:∀l,fi.roundOf=some l->fi.kind=.normal
def cD(C:Ctx)(base:Nat)(E:G)(s:S)(w:World)(fi:FI)(cs:List Frame)(m0:Machine)(o:Out):Prop:=
 ∃B M b,Step C base E s w B o.s M/\eu B fi.kind o.ctx b/\bN fi.kind cs b/\
  match o.res with
  | .ret v=>∃e,ag B v=some e/\
    (match fi.roundOf with
    |none=>∃a,Steps C.P m0 (lone a b M)/\a.fn=fi.fn/\a.kind=fi.kind/\a.mode=.returning/\a.defers=fi.tl/\∃fn,C.P.funcs[fi.fn]? =some fn/\(results fn a.tmps).run C.P M=.ok e M
    |some _=>∀c rest,b=c::rest->Steps C.P m0 (lone (c.finish e) rest M))
  | .eH ch=>∃d,fa B ch=some d/\∃a,Steps C.P m0 (lone a b M)/\a.fn=fi.fn/\a.mode=.panicking d/\a.defers=fi.tl
def K9(C:Ctx)(fi:FI)(cs:List Frame)(m0:Machine)(M:World)(b:Value):Prop:=
 match fi.roundOf with
 |none=>∃a,Steps C.P m0 (lone a cs M)/\a.fn=fi.fn/\a.kind=fi.kind/\a.mode=.returning/\a.defers=fi.tl/\∃fn,C.P.funcs[fi.fn]? =some fn/\(results fn a.tmps).run C.P M=.ok b M
 |some _=>∀c rest,cs=c::rest->Steps C.P m0 (lone (c.finish b) rest M)
def a8y(C:Ctx)(fi:FI)(cs:List Frame)(m0:Machine)(M:World)(b:Value):Prop:=
 ∃a,Steps C.P m0 (lone a cs M)/\a.fn=fi.fn/\a.mode=.panicking [{ v:=b,recovered:=false }]/\a.defers=fi.tl
def a7k(C:Ctx)(fi:FI)(cs:List Frame)(m0:Machine)(M:World)(a:Value)(eH:Bool):Prop:=
 match eH with
 |false=>K9 C fi cs m0 M a
 |true=>a8y C fi cs m0 M a
def bp.S (c:bp):S:=⟨I3 SV .var c.pre .nil,c.n,c.facts⟩
def bp.tr (c:bp):Tr AV:=Dv c.nt (vL SV .var c.t)
def bp.fi (c:bp) (tl:List Deferred):FI:=⟨c.fn,c.nt,.normal,c.round,tl⟩
def Ip(P:Program)(c:bp)(base:Nat)(E:G)(m0:Machine)(tl:List Deferred)(cs:List Frame)(w:World):Prop:=
    ∃o,o∈c.outs/\∃(a:G)(j:S)(M:World)(b:Nat->Nat)(d:Nat->SE)(k:Value),
     Step (gk P (λ_=>false) []) base E c.S w a j M/\
     (∀i,i<c.n->b i=i/\d i=.var i)/\(∀i,c.n<=i->c.n<=b i)/\
     (∀x∈o.post,∃e g,j.h.get (b x.1)=some e/\dm e=false/\a (b x.1)=some g/\∀l,cw (gk P (λ_=>false) []) a g e l->cw (gk P (λ_=>false) []) a g (x.2.sub b d).ay l)/\
     (∀x∈o.post,∀y∈o.post,x.1≠y.1->b x.1≠b y.1)/\
     (∀i,c.n+o.m<=i->aj a (d i)=none)/\
     (∀f∈o.facts,f.pos=true/\(f.sub d).holds a)/\
     ag a (o.res.sub b d)=some k/\a7k (gk P (λ_=>false) []) (c.fi tl) cs m0 M k o.eH
def eb(P:Program)(c:bp):Prop:=
 ∀(base:Nat)(E:G)(ro:Option Nat)(tl:List Deferred)(tm:Array Value)(items:List Item)(cs:List Frame)(w:World),
  gN (gk P (λ_=>false) []) base E (c.fi tl) ro c.tr c.todo [] .run none c.S tm items tl .run cs w->Ip P c base E (lone (aC (c.fi tl) ro tm items tl .run) cs w) tl cs w
def ep(C:Ctx)(base:Nat)(rec:Rec):Prop:=
 ∀(E:G)(fi:FI)(ro:Option Nat)(t:Tr AV)(todo:List bH)(ds:List gO)(mode:ku)(ctx:Option (List PE))(s:S)
  (tm:Array Value) (items:List Item) (bz:List Deferred) (m:FrameMode) (cs:List Frame) (w:World),
  gN C base E fi ro t todo ds mode ctx s tm items bz m cs w->
  (rec fi t todo ds mode ctx s).path (cD C base E s w fi cs (lone (aC fi ro tm items bz m) cs w))
end Go.Proofs.YtokipodjggomfaaGreatDoor.Abs
namespace Go.Proofs.YtokipodjggomfaaGreatDoor.Abs
open Go
theorem SB{E:G}{v:AV}{c c':Value}(h:ag E v=some c)(a:ag E v=some c'):c=c':=by grind
mutual
theorem lv(E:G):∀v:Value,ag E (AV.ofConst v)=some v
 | .int _ _| .bool _| .nilFunc| .nilIface| .float _ _| .complex _ _ _| .chan _| .pointer (some _)=>by simp[AV.ofConst,ag]
 | .string s=>by cases s with|mk d=>cases d with|mk l=>simp[AV.ofConst,ag]
 | .pointer none=>by simp[AV.ofConst,ag]
 | .slice (some _) _ _=>by simp[AV.ofConst,ag]
 | .slice none 0 0=>by simp[AV.ofConst,ag]
 | .slice none 0 (n+1)=>by simp[AV.ofConst,ag]
 | .slice none (n+1) m=>by simp[AV.ofConst,ag]
 | .map none=>by simp[AV.ofConst,ag]
 | .map (some _)=>by simp[AV.ofConst,ag]
 | .func f ⟨[]⟩ ⟨[]⟩=>by
   simp only[AV.ofConst];cases h:ji f
   .simp[ag]
   .simp[ag,ax,h]
 | .func f ⟨a::l⟩ b=>by simp[AV.ofConst,ag]
 | .func f ⟨[]⟩ ⟨a::l⟩=>by simp[AV.ofConst,ag]
 | .iface t v=>by simp[AV.ofConst,ag,lv E v]
 | .agg ⟨l⟩=>by simp[AV.ofConst,ag,jo E l]
 | .tuple ⟨l⟩=>by simp[AV.ofConst,ag,jo E l]
theorem jo(E:G):∀l:List Value,ax E (AV.lX l)=some l
 | []=>by simp[AV.lX,ax]
 |v::l=>by simp[AV.lX,ax,lv E v,jo E l]
end
theorem yO(v:AV):(qV v).path (λx=>x=v/\v≠.junk):=by cases v<;>simp[qV,R.path]
theorem bf{C:Ctx}{base:Nat}{E:G}{s:S}{w:World}{nt:Nat}{t:Tr AV}{a:Act}(i:Rel C base E s w)(e:aD E nt t a.tmps)(x:Operand):
  (kW C t x).path (λv=>ag E v=some (a.eval x)):=by
 cases x with
 |tmp d=>
  show(@Option.rec AV (λ_=>R AV) (.ok (.jy [])) (λv=>qV v) (t.get d)).path _;cases h:t.get d with
  |none=>have:=e.2.2 d h;show ag E (.jy [])=some (a.tmps.getD d undef);rw[this];simp[ag,ax,undef]
  |some v=>
   obtain⟨_,c,j,b⟩:=e.2.1 d v h;refine R.aE ?_ (yO v);rintro x ⟨rfl,k⟩;rcases b with b|b
   .exact absurd b k
   .rw[b];simp[Act.eval,kD,j]
 |const v=>exact lv E v
 |global g=>
  show(@Bool.rec (λ_=>R AV) (.bad "global") (.ok (.ptr g 0)) (Nat.blt g C.nG)).path _;cases h:Nat.blt g C.nG with
  |false=>trivial
  |true=>
   have m:g<C.nG:=by simpa[rG]using h
   obtain⟨l,n,A,I⟩:=i.eM g m;simp[R.path,ag,n,A,I,Act.eval]
 |func f=>simp[kW,R.path,ag,ax,ji,Act.eval]
theorem qO{C:Ctx}{base:Nat}{E:G}{s:S}{w:World}{nt:Nat}{t:Tr AV}{a:Act}(c:Rel C base E s w)(d:aD E nt t a.tmps):
  ∀l:List Operand,(Wg C t l).path (λvs=>ax E vs=some (l.map a.eval))
 | []=>by simp[Wg,R.path,ax]
 |x::l=>by
  unfold Wg;refine R.bh _ (bf c d x) λv e=>?_
  refine R.bh _ (qO c d l) λvs b=>?_
  exact av.2 ⟨_,_,e,b,rfl⟩
def FD(P:Program):Bool:=P.types.toList.all λi=>match(zC P.types i).desc with| .invalid=>false|_=>true
def Wd(fn:Func):Ext->Array Value->Sem Value
 | .wP=>Extern.AbiNoEscape.same
 | .indexByte=>Extern.BytealgIndexByte.indexByte
 | .index _=>λ_=>pure undef
structure Kept(w M:World):Prop where
 size:w.heap.size<=M.heap.size
 tape:M.tape=w.tape
 os:M.os=w.os
 output:M.output=w.output
 stays:∀(k:Nat)(o:Obj),w.heap[k]? =some o->M.heap[k]? =some o
def a0F(P:Program)(f:FuncId)(g:Nat):Prop:=
 (∃fn,P.funcs[f]? =some fn)/\∀(s sub:ByteArray)(m:Int)(w:World),s.size<4294967281->w.cell? ⟨g,0,none⟩=some (.int .i64 m)->
   Calls P f #[.string s,.string sub] w λe M=>e=.returned (.int .i64 (Lib.index s.data.toList sub.data.toList))/\M=w
def ju(P:Program)(c:bp):Prop:=
 (∃fn,P.funcs[c.fn]? =some fn)/\c.round=none/\(∀o∈c.outs,o.eH=false)/\
 ∀(base:Nat)(E:G)(a:List Value)(w:World),Rel (gk P (λ_=>false) []) base E c.S w->aD E c.nt c.tr ⟨a⟩->a.length=c.nt->
  Calls P c.fn ⟨a⟩ w λe M=>∃o,o∈c.outs/\∃(b:G)(l:S)(d:Nat->Nat)(g:Nat->SE)(p:Value),
   Step (gk P (λ_=>false) []) base E c.S w b l M/\
   (∀i,i<c.n->d i=i/\g i=.var i)/\(∀i,c.n<=i->c.n<=d i)/\
   (∀x∈o.post,∃j k,l.h.get (d x.1)=some j/\dm j=false/\b (d x.1)=some k/\∀q,cw (gk P (λ_=>false) []) b k j q->cw (gk P (λ_=>false) []) b k (x.2.sub d g).ay q)/\
   (∀x∈o.post,∀y∈o.post,x.1≠y.1->d x.1≠d y.1)/\
   (∀i,c.n+o.m<=i->aj b (g i)=none)/\
   (∀f∈o.facts,f.pos=true/\(f.sub g).holds b)/\
   ag b (o.res.sub d g)=some p/\e=.returned p
def Io(P:Program)(f:FuncId)(e:Ext):Prop:=
 match e with
 | .index g=>a0F P f g
 |e=>∃fn,P.funcs[f]? =some fn/\fn.body=none/\(fn.name== "runtime.NumGoroutine")=false/\Extern.findNext fn=none/\Extern.find fn=some (Wd fn e)
structure Good(C:Ctx):Prop where
 eq:C=gk C.P C.eqT C.X C.K C.L
 con:∀c∈C.K,eb C.P c
 lib:∀c∈C.L,ju C.P c
 valid:FD C.P=true
 a5X:∀(f:Nat)(fn:Func),C.P.funcs[f]? =some fn->fn.body.isSome=true->(fn.name== "runtime.NumGoroutine")=false
 ext:∀f e,rp f C.X=some e->Io C.P f e
theorem X2{C:Ctx}(f:Good C){t:TypeId}{i:TI}(h:C.T.get t=some i):
  ∃ti,C.P.info? t=some ti/\C.P.types[t]? =some ti/\i=zC C.P.types ti/\i.desc≠.invalid:=by
 have c:(Tr.ofList (C.P.types.toList.map (zC C.P.types))).get t=some i:=by have e:=f.eq;rw[e]at h;exact h
 rw[Tr.dG]at c;simp only[ik,aN,xN]at c;obtain⟨ti,a,rfl⟩:=c;refine⟨ti,?_,a,rfl,?_⟩
 .have d:t<C.P.types.size:=by
    rcases cV t C.P.types.size with h|h
    .exact h
    .grind
  show Tables.info? _ t=_;unfold Tables.info?;rw[az d];exact a
 .have g:=f.valid;unfold FD at g;have b:ti∈C.P.types.toList:=by grind
  have:=qj.1 g ti b;intro j;rw[j]at this;cases this
theorem xf{C:Ctx}(b:Good C){f:FuncId}{fn:Func}(h:C.F.get f=some fn):C.P.funcs[f]? =some fn:=by
 have a:(Tr.ofList C.P.funcs.toList).get f=some fn:=by have e:=b.eq;rw[e]at h;exact h
 rw[Tr.dG]at a;simpa using a
structure tA(P:Program)(t:TypeId)(i:TI):Prop where
 und:P.underlying t=some i.desc
 size:∀w,(sizeOf t).run P w=.ok i.size w
 info:∃ti,P.info? t=some ti/\ti.bytes=i.bytes/\ti.size=i.size/\P.types[t]? =some ti
 zero:∀z,i.zero=some z->∃v,(∀w,(zeroValue t).run P w=.ok v w)/\(∀E,ax E z=some v.cells.toList)
 agg:∀w,(isAgg t).run P w=.ok i.agg w
 zv:∀z,i.zv=some z->∃v,(∀w,(zeroValue t).run P w=.ok v w)/\(∀E,ag E z=some v)
theorem II{C:Ctx}(j:Good C){t:TypeId}{i:TI}(h:C.T.get t=some i):tA C.P t i:=by
 obtain⟨ti,A,I,rfl,d⟩:=X2 j h;have a:C.P.underlying t=some (zC C.P.types ti).desc:=by
  revert d;unfold zC Program.underlying;rw[A];cases c:ti.desc with
  |named n u=>
   cases e:C.P.types[u]? with
   |none=>simp[e]
   |some k=>
    intro _;have f:u<C.P.types.size:=by grind
    have:C.P.info? u=some k:=by show Tables.info? _ u=_;unfold Tables.info?;rw[az f];exact e
    cases ti;simp at c;subst c;simp[e,this]
  |_=>intro _;cases ti;simp at c;subst c;simp
 refine⟨a,λw=>?_,⟨ti,A,rfl,rfl,I⟩,?_,?_,?_⟩
 .simp[sizeOf,typeInfo,A,zC]
 .intro z b;simp only[zC,aN]at b;obtain⟨v,g,rfl⟩:=b;exact⟨v,λw=>by simp[zeroValue,typeInfo,A,g],λE=>jo E _⟩
 .intro w;simp only[isAgg,underlying,aA,iV,aP,a,aY];have:(zC C.P.types ti).agg=VO (zC C.P.types ti).desc:=rfl;rw[this];cases(zC C.P.types ti).desc<;>rfl
 .intro z b;simp only[zC,aN]at b;obtain⟨v,g,rfl⟩:=b;exact⟨v,λw=>by simp[zeroValue,typeInfo,A,g],λE=>lv E v⟩
theorem wq{C:Ctx}(a:Good C)(e:TypeId):(mB C e).path (λv=>∃c,(∀w,(zeroValue e).run C.P w=.ok c w)/\∀E,ag E v=some c):=by
 unfold mB;refine R.bh (λi=>tA C.P e i) (R.aE (λ_ h=>II a h) (R.fD _ _)) λi V=>?_
 exact R.aE (λz b=>V.zv z b) (R.fD _ _)
theorem bY{C:Ctx}(a:Good C)(t:TypeId):(ti C t).path (λi=>C.T.get t=some i/\tA C.P t i):=
 R.aE (λ_ h=>⟨h,II a h⟩) (R.fD _ _)
theorem bw{C:Ctx}(a:Good C)(t:TypeId):(under C t).path (λd=>C.P.underlying t=some d):=by
 unfold under;refine R.bh _ (bY a t) λi V=>?_
 exact V.2.und
theorem sd{C:Ctx}(b:Good C)(t:TypeId):(zeroOf C t).path (λz=>∃i v,C.T.get t=some i/\i.zero=some z/\(∀w,(zeroValue t).run C.P w=.ok v w)/\(∀E,ax E z=some v.cells.toList)):=by
 unfold zeroOf;refine R.bh _ (bY b t) λi V=>?_
 refine R.aE ?_ (R.fD _ _);intro z a;obtain⟨v,A,I⟩:=V.2.zero z a;exact⟨i,v,V.1,a,A,I⟩
theorem eQ{P:Program}{t:TypeId}{d:TypeDesc}(h:P.underlying t=some d)(w:World):(underlying t).run P w=.ok d w:=by simp[underlying,h]
theorem VR.grow {E B:G} (h:Grow E B) {v:AV} {c:Value} (a:VR E v c):VR B v c:=a.imp id (e9 h v c)
theorem CZ{E B:G}(h:Grow E B){d:AD}{x:Deferred}(a:kY E d=some x):kY B d=some x:=by grind[kY,ag,ax,e9,jU]
theorem zf{E B:G}(h:Grow E B):∀{l:List AD}{r:List Deferred},fE E l=some r->fE B l=some r
 | [],r,e=>by simpa[fE]using e
 |d::l,r,e=>by
  simp only[fE]at e ⊢;cases A:kY E d with
  |none=>simp[A]at e
  |some x=>
   cases I:fE E l with
   |none=>simp[A,I]at e
   |some y=>simp only[A,I,CZ h A,zf h I]at e ⊢;exact e
theorem aD.grow {E B:G} (h:Grow E B) {nt:Nat} {t:Tr AV} {a:Array Value} (b:aD E nt t a):aD B nt t a:=
 ⟨b.1,λd v e=>let⟨A,c,f,g⟩:=b.2.1 d v e;⟨A,c,f,g.grow h⟩,b.2.2⟩
theorem db.grow {E B:G} (h:Grow E B):∀{J:List ME}{L:List MapEntry},db E J L->db B J L
 | [],[],_=>trivial
 |_::_,_::_,⟨⟨A,I,W⟩,b⟩=>⟨⟨e9 h _ _ A,e9 h _ _ I,W⟩,db.grow h b⟩
 | [],_::_,a=>a.elim
 |_::_,[],a=>a.elim
theorem cw.mono {C:Ctx} {E B:G} (g:Grow E B) {l O:Loc} (x:l.same O) {b:eD} {o:Obj} (f:cw C E l b o):cw C B O b o:=by
 obtain⟨s1,s2,w⟩:=x;cases b with
 |cells elem cs n fz fh st sg=>
  obtain⟨vs,lo,V,rfl,A,I,W,D⟩:=f;refine⟨vs,lo,V,rfl,by rw[s2];exact A,λi v V y=>?_,?_,?_⟩
  .obtain⟨c,z,F⟩:=I i v V y;exact⟨c,by rw[s2];exact z,F.grow g⟩
  .rw[s2,(j3 w).1];exact W
  .rw[s2];exact D
 |map J c=>obtain⟨gG,rfl,A,I⟩:=f;exact⟨gG,rfl,A.grow g,I⟩
 |Pk m since seen last=>
  cases m with
  |none=>exact⟨s2.trans f.1,f.2⟩
  |some m=>obtain⟨H,lm,q,rfl⟩:=f;obtain⟨t,h,t1,t2,t3⟩:=g m lm q;exact⟨s2.trans H,t,h,by rw[t1]⟩
 |a1a s pos=>exact⟨s2.trans f.1,f.2⟩
 |Dp e k zs=>exact f
 |vec elem e=>obtain⟨vs,lo,V,J,rfl,A,I,W,D,h5⟩:=f;exact⟨vs,lo,V,J,rfl,a7 g e _ A,λj d K=>by rw[s2];exact I j d K,by rw[s2,(j3 w).1];exact W,by rw[s2];exact D,h5⟩
 |eC ds=>
  cases ds with
  |none=>exact f
  |some ds=>obtain⟨r,A,I⟩:=f;exact⟨r,zf g A,I⟩
 |loop st pending fn nt tmps params assign body defers=>obtain⟨a,ld,A,I,rfl⟩:=f;obtain⟨u,p,t1,_,_⟩:=g defers ld I;exact⟨a,u,A.grow g,p,by rw[t1]⟩
theorem jv.stays {w M:World} {F F':Nat->Prop} (h:∀k,F k->F' k/\M.heap[k]? =w.heap[k]?) {b o:Nat} {J:List Dt} (a:jv w F b o J):jv M F' b o J:=by obtain⟨A,vs,t,lo,V,I,W⟩:=a;exact⟨(h b A).1,vs,t,lo,V,by rw[(h b A).2];exact I,W⟩
mutual
theorem Dt.c6.stays {C:Ctx} {w M:World} {F F':Nat->Prop} (h:∀k,F k->F' k/\M.heap[k]? =w.heap[k]?):∀(d:Dt),d.c6 C w F->d.c6 C M F'
 | .val v,b=>b
 | .sl v t g J,b=>by
   rcases b with b|⟨f,⟨a,n,c,e1,e3,e⟩,I⟩
   .exact .inl b
   .exact .inr ⟨f,⟨a,n,c,e1,e3,λj=>⟨(e j).1,(e j).2.stays h⟩⟩,Dt.bG.stays h _ 0 J I⟩
 | .pt v t g J i k,⟨f,⟨a,q,r,e1,e2,e3,e,l,m,o⟩,I⟩=>⟨f,⟨a,q,r,e1,e2,e3,e,l,m,o.stays h⟩,Dt.bG.stays h _ 0 J I⟩
 | .ls P J,I=>Dt.bG.stays h P 0 J I
theorem Dt.bG.stays {C:Ctx} {w M:World} {F F':Nat->Prop} (h:∀k,F k->F' k/\M.heap[k]? =w.heap[k]?) (P:List Kd):∀(j:Nat)(l:List Dt),Dt.bG C w F P j l->Dt.bG C M F' P j l
 |_,[],_=>trivial
 |j,d::l,⟨A,I,W⟩=>⟨A,Dt.c6.stays h d I,Dt.bG.stays h P (j+1) l W⟩
end
theorem jv.and {w:World} {F F':Nat->Prop} {b o:Nat} {J:List Dt} (h:jv w F b o J) (a:jv w F' b o J):jv w (λk=>F k/\F' k) b o J:=⟨⟨h.1,a.1⟩,h.2⟩
mutual
theorem Dt.c6.and {C:Ctx} {w:World} {F F':Nat->Prop}:∀(d:Dt),d.c6 C w F->d.c6 C w F'->d.c6 C w λk=>F k/\F' k
 | .val v,f,_=>f
 | .sl v t g J,f,j=>by
   rcases f with f|⟨l,⟨a,n,c,e1,e3,h⟩,I⟩
   .exact .inl f
   .rcases j with⟨e, -⟩|⟨_,⟨a',u,c',f1,f3,f4⟩,b⟩
    .rw[e1]at e;cases e
    .rw[e1]at f1;injection f1 with f5 f6 f7;obtain rfl:=ae f5;subst f6;exact .inr ⟨l,⟨a,n,c,e1,e3,λm=>⟨(h m).1,(h m).2.and (f4 m).2⟩⟩,Dt.bG.and _ 0 J I b⟩
 | .pt v t g J i k,⟨l,⟨a,q,r,e1,e2,e3,h,o,p,s⟩,I⟩,⟨_,⟨a',x,y,f1,f2,f3,f4,f5,f6,f7⟩,b⟩=>by
   rw[e1]at f1;obtain rfl:=ae (Fj f1);exact⟨l,⟨a,q,r,e1,e2,e3,h,o,p,s.and f7⟩,Dt.bG.and _ 0 J I b⟩
 | .ls P J,I,b=>Dt.bG.and P 0 J I b
theorem Dt.bG.and {C:Ctx} {w:World} {F F':Nat->Prop} (P:List Kd):∀(j:Nat)(l:List Dt),Dt.bG C w F P j l->Dt.bG C w F' P j l->Dt.bG C w (λk=>F k/\F' k) P j l
 |_,[],_,_=>trivial
 |j,d::l,⟨A,I,W⟩,⟨_,a,b⟩=>⟨A,Dt.c6.and d I a,Dt.bG.and P (j+1) l W b⟩
end
theorem M0{C:Ctx}{E B:G}{s U:S}{w M:World}{a:Nat->Prop}(c:w.heap.size<=M.heap.size)(Z:∀k,k<w.heap.size->¬Live E s k->M.heap[k]? =w.heap[k]?)
  (e:∀k,k<w.heap.size->Live B U k->Live E s k) (f:∀id O d,B id=some O->O.v=some d->∃id0 l,E id0=some l/\l.v=some d) (g:cy C E s w a):cy C B U M a:=λid O d A I=>by
 obtain⟨id0,l,W,D⟩:=f id O d A I;exact Dt.c6.stays (λk b=>⟨⟨iT b.1 c,λhh=>b.2.1 (e k b.1 hh),b.2.2⟩,Z k b.1 b.2.1⟩) d (g id0 l d W D)
theorem UI{C:Ctx}{E B:G}{s U:S}{w M:World}(c:w.heap.size<=M.heap.size)(Z:∀k,k<w.heap.size->¬Live E s k->M.heap[k]? =w.heap[k]?)
  (e:∀k,k<w.heap.size->Live B U k->Live E s k) (f:∀id O d,B id=some O->O.v=some d->∃id0 l,E id0=some l/\l.v=some d):
  ∀a:Nat->Prop,(∀k,a k->k<w.heap.size/\¬Live E s k)->cy C E s w a->cy C B U M a:=λa _ g id O d A I=>by
 obtain⟨id0,l,W,D⟩:=f id O d A I;exact Dt.c6.stays (λk b=>⟨⟨iT b.1 c,λhh=>b.2.1 (e k b.1 hh),b.2.2⟩,Z k b.1 b.2.1⟩) d (g id0 l d W D)
theorem Rel.YG {C:Ctx} {base:Nat} {E B:G} {s U:S} {w M:World} (b:Rel C base E s w) (a:w.heap.size<=M.heap.size) (Z:∀k,k<w.heap.size->¬Live E s k->M.heap[k]? =w.heap[k]?)
  (c:∀k,k<w.heap.size->Live B U k->Live E s k) (e:∀id O d,B id=some O->O.v=some d->∃id0 l,E id0=some l/\l.v=some d):cy C B U M λ_=>False:=
 UI a Z c e _ (λ_ h=>h.elim) b.rd
theorem Jn{C:Ctx}{E B:G}{s U:S}{w M:World}(Z:qg E s w M)(b:∀k,Live B U k->k<w.heap.size->Live E s k)
  (c:∀id O d,B id=some O->O.v=some d->∃id0 l,E id0=some l/\l.v=some d):
  ∀a:Nat->Prop,(∀k,a k->k<w.heap.size/\¬Live E s k)->cy C E s w a->cy C B U M a:=
 UI Z.size (λk h e=>by rw[dR h];exact Z.stays k _ (dR h) e) (λk h f=>b k f h) c
structure a1N(C:Ctx)(base:Nat)(E:G)(s:S)(w:World)(B:G)(U:S)(M:World):Prop where
 grow:Grow E B
 rel:Rel C base B U M
 keep:qg E s w M
 live:∀k,Live B U k->k<w.heap.size->Live E s k
 next:s.next<=U.next
 SW:∀id l,E id=some l->id<s.next
 MT:∀id O,B id=some O->(∃l,E id=some l)\/(s.next<=id/\(w.heap.size<=O.ay\/∃id0 b0 l0,s.h.get id0=some b0/\E id0=some l0/\l0.ay=O.ay))
 lV:∀id N,U.h.get id=some N->id<s.next->∃b,s.h.get id=some b
theorem Step.of' {C:Ctx} {base:Nat} {E B:G} {s U:S} {w M:World} (h:a1N C base E s w B U M) (a:∀id O d,B id=some O->O.v=some d->∃id0 l,E id0=some l/\l.v=some d):Step C base E s w B U M:=
 ⟨h.grow,h.rel,h.keep,h.live,h.next,h.SW,h.MT,h.lV,Jn h.keep h.live a⟩
theorem Step.of {C:Ctx} {base:Nat} {E:G} {s U:S} {w M:World} (h:a1N C base E s w E U M):Step C base E s w E U M:=Step.of' h λid l _ A I=>⟨id,l,A,I⟩
theorem Rel.Gv {C:Ctx} {base:Nat} {E B:G} {s:S} {w:World} (a:Rel C base E s w) (c:Grow E B):∀f∈s.pc,f.pos=true/\f.holds B:=λf b=>
 ⟨(a.pc f b).1,Fact.Sl c (a.pc f b).1 (a.pc f b).2⟩
theorem Rel.alloc {C:Ctx} {base:Nat} {E:G} {s:S} {w:World} (c:Rel C base E s w) (b:eD) (o:Obj) (dl cp:Nat) {M:World}
  (q:M.heap=w.heap.push o)
  (K:∀B,Grow E B->cw C B ⟨w.heap.size,dl,cp,none⟩ b o):
  Rel C base (λid=>if id=s.next then some ⟨w.heap.size,dl,cp,none⟩else E id) (s.new b) M:=by
 have f:Grow E (λid=>if id=s.next then some ⟨w.heap.size,dl,cp,none⟩else E id):=by intro id l r;have:id≠s.next:=eS (c.lt r);exact⟨l,by simp[this,r],rfl,rfl,rfl⟩
 have m:∀(k:Nat)(x:Obj),w.heap[k]? =some x->M.heap[k]? =some x:=by grind
 have v:∀{id b l},s.h.get id=some b->E id=some l->l.ay<w.heap.size:=by
  intro id b l A I;obtain⟨O,T,W,D,_⟩:=c.ay id b A;rw[I]at W;obtain rfl:=ae W;rcases cV l.ay w.heap.size with h|h
  .exact h
  .grind
 refine⟨?_,?_,?_,?_,?_,?_,c.Gv f,?_⟩
 .intro id N a;simp only[S.new]at a;rw[Tr.bm]at a;split at a
  .grind
  .next y=>
   obtain⟨l,T,A,I,W⟩:=c.ay id N a;have i:id≠s.next:=λh=>y h.symm
   exact⟨l,T,by simp[i,A],m _ _ I,W.mono f ⟨rfl,rfl,rfl⟩⟩
 .intro id u z F l O A I W D i n;simp only[S.new,Tr.bm]at A I;by_cases e1:s.next=id
  .grind
  .rw[ai e1]at A;have j:id≠s.next:=cm e1;simp only[j,aQ]at W;by_cases e2:s.next=u
   .grind
   .rw[ai e2]at I;have p:u≠s.next:=cm e2;simp only[p,aQ]at D;exact c.sep id u z F l O A I W D i n
 .intro id a;simp only[S.new]at a;have t:s.next+1<=id:=a;have:id≠s.next:=by omega
  simp only[this,aQ];exact c.new id (by omega)
 .intro g H;obtain⟨l,A,I,W⟩:=c.eM g H;have:g≠s.next:=eS (c.lt A);exact⟨l,by simp[this,A],I,W⟩
 .intro id N l A I W;simp only[S.new,Tr.bm]at A;by_cases e1:s.next=id
  .subst e1;simp only[aH]at I;obtain rfl:=ae I;have:=c.bs;simp at W;omega
  .rw[ai e1]at A;have j:id≠s.next:=cm e1;simp only[j,aQ]at I;exact c.low id N l A I W
 .have:=c.bs;rw[q];simp;omega
 .refine c.YG (by rw[q];simp) (λk Z _=>?_) (λk Z=>?_) (λid O d A I=>?_)
  .grind
  .rintro⟨id,N,l,A,I,W,D⟩;simp only[S.new,Tr.bm]at A;by_cases e:s.next=id
   .grind
   .rw[ai e]at A;have J:id≠s.next:=cm e;simp only[J,aQ]at W;exact⟨id,N,l,A,I,W,D⟩
  .grind
theorem qg.alloc {E:G} {s:S} {w M:World} (o:Obj) (b:M.heap=w.heap.push o) (c:M.tape=w.tape) (ho:M.os=w.os) (d:M.output=w.output):qg E s w M:=by
 refine⟨by rw[b];simp,c,ho,d,λk x Z _=>?_⟩;have a:k<w.heap.size:=by grind
 rw[b,Array.getElem?_push,ai (eS a)];exact Z
theorem Step.alloc {C:Ctx} {base:Nat} {E:G} {s:S} {w:World} (c:Rel C base E s w) (b:eD) (o:Obj) (dl cp:Nat) {M:World}
  (f:M.heap=w.heap.push o) (g:M.tape=w.tape) (ho:M.os=w.os) (i:M.output=w.output)
  (m:∀B,Grow E B->cw C B ⟨w.heap.size,dl,cp,none⟩ b o):
  Step C base E s w (λid=>if id=s.next then some ⟨w.heap.size,dl,cp,none⟩else E id) (s.new b) M:=by
 have a:∀k,Live (λid=>if id=s.next then some ⟨w.heap.size,dl,cp,none⟩else E id) (s.new b) k->k<w.heap.size->Live E s k:=by
  rintro k ⟨id,N,l,A,I,W,D⟩ Z;simp only[S.new,Tr.bm]at A;by_cases e:s.next=id
  .grind
  .rw[ai e]at A;have n:id≠s.next:=cm e;simp only[n,aQ]at W;exact⟨id,N,l,A,I,W,D⟩
 refine⟨?_,c.alloc b o dl cp f m,qg.alloc o f g ho i,?_,oG _,λ_ _ h=>c.lt h,?_,?_,Jn (qg.alloc o f g ho i) a λid O d A I=>?_⟩
 .intro id l j;have:id≠s.next:=eS (c.lt j);exact⟨l,by simp[this,j],rfl,rfl,rfl⟩
 .exact a
 .grind
 .grind[S.new,Tr.bm]
 .grind
theorem Rel.xV {C:Ctx} {base:Nat} {E B:G} {s:S} {w M:World} (p:Rel C base E s w) {id:Nat} {b N:eD} {l O:Loc} {T:Obj} {F:Tr eD}
  (t:s.h.get id=some b) (v:E id=some l) (m:B id=some O) (z:l.same O) (c:dm b=false)
  (a:∀i,i≠id->B i=E i)
  (hh:∀i x,i≠id->F.get i=some x->s.h.get i=some x) (n:F.get id=some N)
  (P:∀k,k≠l.ay->M.heap[k]? =w.heap[k]?) (K:M.heap[l.ay]? =some T) (H:M.heap.size=w.heap.size)
  (U:cw C B O N T)
  (J:∀i x li,i≠id->F.get i=some x->E i=some li->li.ay=l.ay->cw C B li x T)
  (r:∀i x li,i≠id->F.get i=some x->E i=some li->li.ay=l.ay->fg N i x O li):
  Rel C base B ⟨F,s.next,s.pc⟩ M:=by
 have f:Grow E B:=by
  intro i li V;by_cases e:i=id
  .grind
  .exact⟨li,by rw[a i e];exact V,rfl,rfl,rfl⟩
 refine⟨?_,?_,?_,?_,?_,?_,p.Gv f,?_⟩
 .intro i x Y;by_cases e:i=id
  .subst e;rw[n]at Y;obtain rfl:=ae Y;exact⟨O,T,m,by rw[z.1];exact K,U⟩
  .obtain⟨li,o,A,I,W⟩:=p.ay i x (hh i x e Y);refine⟨li,?_⟩;by_cases e2:li.ay=l.ay
   .grind
   .exact⟨o,by rw[a i e];exact A,by rw[P _ e2];exact I,W.mono f ⟨rfl,rfl,rfl⟩⟩
 .intro i j x y li Q A I W D q u;by_cases e:i=id
  .subst e;rw[m]at W;obtain rfl:=ae W;have R:j≠i:=cm q;rw[n]at A;obtain rfl:=ae A;rw[a j R]at D;left;exact r j y Q R I D (by rw[<-u,z.1])
  .by_cases e2:j=id
   .subst e2;rw[m]at D;obtain rfl:=ae D;rw[n]at I;obtain rfl:=ae I;rw[a i e]at W;right;exact r i x li e A W (by rw[u,z.1])
   .rw[a i e]at W;rw[a j e2]at D;exact p.sep i j x y li Q (hh i x e A) (hh j y e2 I) W D q u
 .intro i V;have q:i≠id:=λh=>by subst h;rw[p.new i V]at v;cases v
  rw[a i q];exact p.new i V
 .intro g X;obtain⟨Z,A,I,W⟩:=p.eM g X;obtain⟨L,D,t1,t2,_⟩:=f g Z A;exact⟨L,D,t1.trans I,t2.trans W⟩
 .intro i x li A I W;by_cases e:i=id
  .subst e;rw[m]at I;obtain rfl:=ae I;rw[z.1]at W;have:=p.low i b l t v W;rw[c]at this;cases this
  .rw[a i e]at I;exact p.low i x li (hh i x e A) I W
 .rw[H];exact p.bs
 .refine p.YG (Nat.le_of_eq H.symm) (λk _ hn=>P k λe=>hn ⟨id,b,l,t,c,v,e.symm⟩) (λk _=>?_) (λi li d A I=>?_)
  .rintro⟨i,x,li,A,I,W,D⟩;by_cases e:i=id
   .subst e;rw[m]at W;obtain rfl:=ae W;exact⟨i,b,l,t,c,v,by rw[<-z.1];exact D⟩
   .exact⟨i,x,li,hh i x e A,I,by rw[<-a i e];exact W,D⟩
  .by_cases e:i=id
   .subst e;rw[m]at A;obtain rfl:=ae A;exact⟨i,l,v,by rw[<-(j3 z.2.2).2];exact I⟩
   .grind
theorem dP{a b:IntKind}(h:n9 a b=true):a=b:=bq h
theorem iH{a b:Kd}(h:ny a b=true):a=b:=by
 cases a<;>cases b<;>first|rfl|(cases h;done)|skip
 .rw[dP h]
 .rw[aL h]
 .simp only[ny,aw]at h;rw[aL h.1,aL h.2]
theorem FX{E:G}{v:AV}{c:Value}(h:ag E v=some c)(Z:zt v≠.any):∃d,aj E (cT v)=some d/\(zt v).fits d/\c=d.v:=by
 cases v<;>first|exact absurd rfl Z|skip
 .simp only[ag,ar]at h;exact⟨_,rfl,⟨_,rfl⟩,h.symm⟩
 .simp only[ag,ar]at h;exact⟨_,rfl,⟨_,rfl⟩,h.symm⟩
 .simp only[ag,ar]at h;exact⟨_,rfl,⟨_,rfl⟩,h.symm⟩
 .exact c7 h
theorem ug{E:G}{v:AV}{c:Value}{k:IntKind}(h:ag E v=some c)(Z:zt v=.int k):∃n,aj E (cT v)=some (.val (.int k n))/\c=.int k n:=by obtain⟨d,A,I,W⟩:=FX h (by rw[Z];intro e;cases e);rw[Z]at I;obtain⟨n,rfl⟩:=I;exact⟨n,A,W⟩
theorem FW{E:G}{v:AV}{c:Value}(h:ag E v=some c)(Z:zt v=.str):∃s,aj E (cT v)=some (.val (.string s))/\c=.string s:=by obtain⟨d,A,I,W⟩:=FX h (by rw[Z];intro e;cases e);rw[Z]at I;obtain⟨n,rfl⟩:=I;exact⟨n,A,W⟩
theorem pq{k:Kd}(h:uF k=true):∃q,k=.int q:=by cases k<;>first|exact⟨_,rfl⟩|cases h
theorem R.ew {α:Type} {C:Ctx} {base:Nat} {E:G} {s:S} {w:World} (b:Rel C base E s w) {f:Fact} {r:R α} {Q:α->Prop} (h:¬f.holds E->r.path Q):(R.must (f::s.pc) r).path Q:=by
 by_cases a:f.holds E
 .left;refine⟨E,λx Y=>?_⟩;cases Y with
  |head=>exact a
  |tail _ Y=>exact(b.pc x Y).2
 .exact .inr (h a)
theorem h4{E:G}{nm:String}{p:List Dt->Prop}{l:List SE}{ds:List Dt}(h:¬(Fact.rel nm false p l).holds E)(a:gZ E l=some ds):¬p ds:=λb=>h ⟨ds,a,b⟩
theorem a2u{E:G}{x:SE}{d:Dt}(h:aj E x=some d):gZ E [x]=some [d]:=by simp[gZ,h]
theorem vU{E:G}{x y:SE}{d e:Dt}(h:aj E x=some d)(a:aj E y=some e):gZ E [x,y]=some [d,e]:=by simp[gZ,h,a]
theorem Dy{E:G}{x y z:SE}{d e f:Dt}(h:aj E x=some d)(a:aj E y=some e)(I:aj E z=some f):gZ E [x,y,z]=some [d,e,f]:=by simp[gZ,h,a,I]
theorem dn{E:G}{k:Kd}{e:SE}{d:Dt}{v:Value}(h:aj E e=some d)(a:k.fits d)(b:d.v=v):ag E (.bS k e)=some v:=by rw[gw h a,b]
theorem Dt.bG.get {C:Ctx} {w:World} {F:Nat->Prop} {P:List Kd}:∀{l:List Dt}{j i:Nat}{d:Dt},Dt.bG C w F P j l->l[i]? =some d->(∃k,P[(j+i)%P.length]? =some k/\k.fits d)/\d.c6 C w F
 | [],_,_,_,_,h=>by simp at h
 |x::l,j,0,d,⟨A,I,W⟩,h=>by grind
 |x::l,j,i+1,d,⟨A,I,W⟩,h=>by
  have:=W.get (i:=i) (d:=d) (by simpa using h)
  rwa [show j+1+i=j+(i+1) by omega]at this
theorem B4{C:Ctx}{w:World}{F:Nat->Prop}{r:R AV}{d:Dt}(h:okV r=some d):d.c6 C w F:=by
 unfold okV at h;split at h
 .split at h<;>first|(obtain rfl:=ae h;rfl)|cases h
 .cases h
theorem SH{C:Ctx}{w:World}{F:Nat->Prop}{op:BinOp}{u v:Value}{d:Dt}(h:dW op u v=some d):d.c6 C w F:=by
 unfold dW at h;split at h
 .grind[B4]
 .exact B4 h
 .cases h
theorem Iw:∀(k:Kd)(n:Nat),Lg k=true->k.fits (A1 k n)
 | .int k,_,_=>⟨0,rfl⟩
 | .bool,_,_=>⟨false,rfl⟩
 | .str,_,_=>⟨_,rfl⟩
 | .sl t,n,_=>⟨none,0,0,n,[],rfl⟩
 | .any,_,h=>by cases h
 | .ptr _ _,_,h=>by cases h
 | .Sf,_,h=>by cases h
theorem Iv{C:Ctx}{w:World}{F:Nat->Prop}:∀(k:Kd)(n:Nat),(A1 k n).c6 C w F
 | .int _,_=>rfl
 | .bool,_=>rfl
 | .str,_=>rfl
 | .sl _,_=>.inl ⟨rfl,rfl⟩
 | .any,_=>rfl
 | .ptr _ _,_=>rfl
 | .Sf,_=>rfl
theorem tM:∀(P:List Kd)(Xv:List Nat),(iP P Xv).length=P.length
 | [],_=>rfl
 |_::l,[]=>by simp[iP,tM l []]
 |_::l,_::m=>by simp[iP,tM l m]
theorem tN:∀(P:List Kd)(Xv:List Nat)(i:Nat)(d:Dt),(iP P Xv)[i]? =some d->∃k n,P[i]? =some k/\d=A1 k n
 | [],_,i,d,h=>by simp[iP]at h
 |k::l,[],0,d,h=>⟨k,0,rfl,by simpa[iP]using h.symm⟩
 |k::l,n::m,0,d,h=>⟨k,n,rfl,by simpa[iP]using h.symm⟩
 |k::l,[],i+1,d,h=>by simpa using tN l [] i d (by simpa[iP]using h)
 |k::l,n::m,i+1,d,h=>by simpa using tN l m i d (by simpa[iP]using h)
theorem Jh(z:List Dt):∀n,(Jj z n).length=n*z.length
 |0=>by simp[Jj]
 |n+1=>by simp only[Jj,bL,Jh z n,cY,Nat.one_mul];omega
theorem Ji(z:List Dt):∀(n i:Nat),i<n*z.length->(Jj z n)[i]? =z[i%z.length]?
 |0,i,h=>by omega
 |n+1,i,h=>by
  simp only[Jj,lE];split
  .next A=>rw[jH A]
  .next A=>
   rw[Ji z n (i-z.length) (by rw[cY,Nat.one_mul]at h;omega)];rw[Nat.mod_eq_sub_mod (show z.length<=i by omega)]
theorem Dt.bG.mk' {C:Ctx} {w:World} {F:Nat->Prop} {P:List Kd}:∀{l:List Dt}{j:Nat},(∀(i:Nat)d,l[i]? =some d->(∃k,P[(j+i)%P.length]? =some k/\k.fits d)/\d.c6 C w F)->Dt.bG C w F P j l
 | [],_,_=>trivial
 |d::l,j,h=>⟨(h 0 d rfl).1,(h 0 d rfl).2,Dt.bG.mk' λi d' V=>by
   have:=h (i+1) d' (by simpa using V)
   rwa [show j+(i+1)=j+1+i by omega]at this⟩
theorem Lf{C:Ctx}{w:World}{F:Nat->Prop}{P:List Kd}{Xv:List Nat}(b:P.all Lg=true)(n:Nat):Dt.bG C w F P 0 (Jj (iP P Xv) n):=by
 refine .mk' λi d V=>?_
 have a:i<n*(iP P Xv).length:=by rw[<-Jh];exact(jK.1 V).1
 rw[Ji _ _ _ a,tM]at V;obtain⟨k,m,A,rfl⟩:=tN P Xv _ d V;refine⟨⟨k,by rw[du];exact A,Iw k m ?_⟩,Iv k m⟩;exact qj.1 b k (vy A)
theorem KT{C:Ctx}{w:World}{F:Nat->Prop}(l:List UInt8):Dt.bG C w F [.int .u8] 0 (ea l):=by
 refine .mk' λi d V=>?_
 simp only[ea,ik,aN]at V;obtain⟨b, -,rfl⟩:=V;exact⟨⟨.int .u8,by simp[rI],_,rfl⟩,rfl⟩
theorem ZX{C:Ctx}{w:World}{F:Nat->Prop}{o:QV}{x d:Dt}(Y:x.c6 C w F)(h:e1 o x=some d):d.c6 C w F:=by
 cases o<;>simp only[e1]at h<;>try(cases h;done)
 .grind[B4]
 .split at h<;>first|(obtain rfl:=ae h;rfl)|cases h
 .split at h<;>first|(obtain rfl:=ae h;rfl)|cases h
 .split at h
  .rename_i n _ a t g J i k;obtain rfl:=ae h;obtain⟨b,⟨a',q,r,e1,e2,e3,c,e,j,m⟩,I⟩:=Y;obtain rfl:=ae (Fj e1);exact⟨b,⟨_,q,r,rfl,e2,e3,c,e,by show i+(k+n)<=a.off+n;omega,by show jv w F a.block (a.off+n-(i+(k+n))) J;rwa [show a.off+n-(i+(k+n))=a.off-(i+k) by omega]⟩,I⟩
  .cases h
 .split at h
  .exact(Y.2.2.get h).2
  .cases h
 .split at h<;>first|(obtain rfl:=ae h;rfl)|cases h
 .obtain rfl:=ae h;trivial
 .obtain rfl:=ae h;exact .inl ⟨rfl,rfl⟩
 .split at h
  .split at h
   .next f=>
    obtain rfl:=ae h;exact Lf f _
   .cases h
  .cases h
 .split at h
  .obtain rfl:=ae h;exact KT _
  .cases h
 .split at h
  .obtain⟨l, -,rfl⟩:=aN.1 h;rfl
  .cases h
theorem Dt.bG.set {C:Ctx} {w:World} {F:Nat->Prop} {P:List Kd} {l:List Dt} {j i:Nat} {d:Dt} (h:Dt.bG C w F P j l) (a:(∃k,P[(j+i)%P.length]? =some k/\k.fits d)/\d.c6 C w F):Dt.bG C w F P j (l.set i d):=.mk' λq x Y=>by
 rw[List.getElem?_set]at Y;split at Y
 .next e=>
  subst e;split at Y
  .obtain rfl:=ae Y;exact a
  .cases Y
 .exact h.get Y
theorem Dt.bG.take {C:Ctx} {w:World} {F:Nat->Prop} {P:List Kd}:∀{j:Nat}{l:List Dt}(n:Nat),Dt.bG C w F P j l->Dt.bG C w F P j (l.take n)
 |_,_,0,_=>by simp[Dt.bG]
 |_,[],_+1,_=>by simp[Dt.bG]
 |j,d::l,n+1,⟨A,I,W⟩=>⟨A,I,W.take n⟩
theorem Dt.bG.snoc {C:Ctx} {w:World} {F:Nat->Prop} {P:List Kd} {d:Dt}:∀{j:Nat}{l:List Dt},Dt.bG C w F P j l->(∃k,P[(j+l.length)%P.length]? =some k/\k.fits d)->d.c6 C w F->Dt.bG C w F P j (l++[d])
 |j,[],_,Z,a=>⟨Z,a,dB⟩
 |j,x::l,⟨A,I,W⟩,Z,a=>⟨A,I,W.snoc (by rw[show j+1+l.length=j+(x::l).length by simp;omega];exact Z) a⟩
theorem ZW{C:Ctx}{w:World}{F:Nat->Prop}{o:QV}{x y d:Dt}(Y:x.c6 C w F)(j:y.c6 C w F)(h:e2 o x y=some d):d.c6 C w F:=by
 cases o<;>simp only[e2]at h<;>try(cases h;done)
 .grind[SH]
 .split at h
  .obtain⟨b, -,rfl⟩:=aN.1 h;rfl
  .cases h
 .split at h
  .rename_i a n c t g J q i;split at h
   .next V=>
    obtain rfl:=ae h;rcases Y with⟨e, -⟩|⟨l,⟨a',r,c',e,e3,f⟩,I⟩
    .cases e
    .injection e with m p s;obtain rfl:=ae m;subst p;have u:=(f (by omega)).2;exact⟨l,⟨_,i,n,rfl,rfl,rfl,V,e3,by show i*g+0<=a.off+i*g;omega,by show jv w F a.block (a.off+i*g-(i*g+0)) J;rwa [show a.off+i*g-(i*g+0)=a.off by omega]⟩,I⟩
   .cases h
  .cases h
 .split at h
  .split at h
   .obtain rfl:=ae h;exact Dt.bG.take _ Y
   .cases h
  .cases h
 .split at h
  .split at h
   .next Z=>
    obtain rfl:=ae h;exact Dt.bG.snoc Y (by rw[du];exact Z) j
   .cases h
  .cases h
 .split at h
  .exact(Dt.bG.get Y h).2
  .cases h
 .split at h
  .split at h
   .next Z=>
    obtain rfl:=ae h;obtain⟨rfl,rfl⟩:=Z;refine Dt.bG.mk' λi d V=>?_
    rw[lE]at V;split at V
    .exact Dt.bG.get Y V
    .have:=Dt.bG.get j V;exact⟨by obtain⟨⟨k,A,I⟩, -⟩:=this;exact⟨k,by simpa[rI]using A,I⟩,this.2⟩
   .cases h
  .cases h
theorem ZV{C:Ctx}{w:World}{F:Nat->Prop}{o:QV}{x y z d:Dt}(Y:x.c6 C w F)(b:y.c6 C w F)(a:z.c6 C w F)(h:e3 o x y z=some d):d.c6 C w F:=by
 cases o<;>simp only[e3]at h<;>try(cases h;done)
 .split at h<;>first|(obtain rfl:=ae h;rfl)|cases h
 .grind
 .split at h
  .split at h
   .next Z=>
    obtain rfl:=ae h;exact Dt.bG.set Y ⟨by rw[du];exact Z.2,a⟩
   .cases h
  .cases h
theorem eh{C:Ctx}{w:World}{F:Nat->Prop}{E:G}(a:∀id l d,E id=some l->l.v=some d->d.c6 C w F):∀(e:SE)(d:Dt),aj E e=some d->d.c6 C w F
 | .var i,d,h=>by grind[aj,Option.bind_eq_some_iff]
 | .int _ _,d,h| .bool _,d,h| .str _,d,h=>by
   obtain rfl:=ae h;rfl
 | .a1 o x,d,h=>by
   simp only[aj,bW]at h;obtain⟨u,b,h⟩:=h;exact ZX (eh a x u b) h
 | .a2 o x y,d,h=>by
   simp only[aj,bW]at h;obtain⟨u,b,v,c,h⟩:=h;exact ZW (eh a x u b) (eh a y v c) h
 | .a3 o x y z,d,h=>by
   simp only[aj,bW]at h;obtain⟨u,b,v,c,q,f,h⟩:=h;exact ZV (eh a x u b) (eh a y v c) (eh a z q f) h
theorem uT{E:G}{k:Kd}{e:SE}:ag E (Pj k e)=ag E (.bS k e):=by
 cases e with
 |int q n=>
  cases k with
  |int r=>
   show ag E (match n9 r q with|true=>.int q n|false=>.bS (.int r) (.int q n))=_;cases h:n9 r q with
   |true=>obtain rfl:=dP h;exact(gw (E:=E) (k:=.int r) (e:=.int r n) (d:=.val (.int r n)) rfl ⟨n,rfl⟩).symm
   |false=>rfl
  |any=>exact(gw (E:=E) (k:=.any) (e:=.int q n) (d:=.val (.int q n)) rfl rfl).symm
  |_=>rfl
 |bool b=>
  cases k with
  |bool=>exact(gw (E:=E) (k:=.bool) (e:=.bool b) (d:=.val (.bool b)) rfl ⟨b,rfl⟩).symm
  |any=>exact(gw (E:=E) (k:=.any) (e:=.bool b) (d:=.val (.bool b)) rfl rfl).symm
  |_=>rfl
 |str s=>
  cases k with
  |str=>exact(gw (E:=E) (k:=.str) (e:=.str s) (d:=.val (.string ⟨⟨s⟩⟩)) rfl ⟨_,rfl⟩).symm
  |any=>exact(gw (E:=E) (k:=.any) (e:=.str s) (d:=.val (.string ⟨⟨s⟩⟩)) rfl rfl).symm
  |_=>rfl
 |_=>rfl
theorem Up{C:Ctx}{E:G}{k:Kd}{v:AV}{x:SE}{c:Value}(h:seK C k v=some x)(b:ag E v=some c):∃d,aj E x=some d/\k.fits d/\d.v=c:=by
 have gen:(match ny (zt v) k && !ny k .any with|true=>some (cT v)|false=>none)=some x->∃d,aj E x=some d/\k.fits d/\d.v=c:=by
  intro h;cases a:(ny (zt v) k && !ny k .any)with
  |false=>rw[a]at h;cases h
  |true=>rw[a]at h;obtain rfl:=ae h;simp only[aw,fY]at a;obtain⟨A,I⟩:=a;obtain rfl:=iH A;obtain⟨d,g1,g2,g3⟩:=FX b (λe=>by rw[e]at I;cases I);exact⟨d,g1,g2,g3.symm⟩
 cases v<;>first|exact gen h|skip
 cases k<;>first|(cases h;done)|skip
 obtain rfl:=ae h;simp only[ag,ar]at b;exact⟨_,rfl,⟨_,_,_,_,_,rfl⟩,b⟩
theorem oO{C:Ctx}{E:G}{a:List Kd}:∀(l:List AV)(P:List Kd)(e y:SE)(J:List Dt)(cs:List Value),ax E l=some cs->aj E e=some (.ls a J)->
  (∃p,P=a.drop p/\p<=a.length/\J.length%a.length=p%a.length)->nN C a l P e=some y->∃ds,aj E y=some (.ls a (J++ds))/\ds.map Dt.v=cs
 | [],P,e,y,J,cs,g,o,_,h=>by
   obtain rfl:=ae h;simp only[ax,ar]at g;subst g;exact⟨[],by simpa using o,rfl⟩
 |v::l,P,e,y,J,cs,g,o,⟨p,D,F,i⟩,h=>by
  obtain⟨c,j,H,k,rfl⟩:=av.1 g;have step:∀(q:Kd)(b:List Kd)(p':Nat)(x:SE),seK C q v=some x->nN C a l b (.a2 .sn e x)=some y->a[J.length%a.length]? =some q->b=a.drop p'->p'<=a.length->(J.length+1)%a.length=p'%a.length->
    ∃ds,aj E y=some (.ls a (J++ds))/\ds.map Dt.v=c::j:=by
   intro q b p' x Y K L r m M;obtain⟨d,g1,g2,g3⟩:=Up Y H;have s:aj E (.a2 .sn e x)=some (.ls a (J++[d])):=by simp only[aj,o,g1,aW,e2];rw[az ⟨q,L,g2⟩]
   obtain⟨ds,A,I⟩:=oO l b (.a2 .sn e x) y (J++[d]) j k s ⟨p',r,m,by rw[bL];exact M⟩ K;exact⟨d::ds,by simpa using A,by simp[I,g3]⟩
  cases P with
  |nil=>
   have t:p=a.length:=by grind[List.length_nil,List.length_drop]
   cases a with
   |nil=>cases h
   |cons q b=>
    simp only[nN]at h;cases Y:seK C q v with
    |none=>rw[Y]at h;cases h
    |some x=>
     rw[Y]at h;have z:J.length%(q::b).length=0:=by rw[i,t,Nat.mod_self]
     refine step q b 1 x Y h (by rw[z];rfl) rfl (by simp) ?_;rw[rH,z,du,Nat.mod_mod]
  |cons q b=>
   simp only[nN]at h;cases Y:seK C q v with
   |none=>rw[Y]at h;cases h
   |some x=>
    rw[Y]at h;have f:p<a.length:=by grind
    have B:=Fx f;rw[<-D]at B;injection B with u w;have n:J.length%a.length=p:=by rw[i,jH f]
    refine step q b (p+1) x Y h (by rw[n,dw f,u]) w f ?_;rw[rH,n,rH p 1,jH f]
theorem Zn{C:Ctx}{w:World}{F:Nat->Prop}{E:G}(t:∀id l d,E id=some l->l.v=some d->d.c6 C w F){u j:Nat}{e:SE}{c:Value}(h:ag E (.bS (.ptr u j) e)=some c):
  ∃a,c=.pointer (some a)/\a.spot=none/\∀(m:Nat)k,(aq C u)[j+m]? =some k->∃v,ag E (.bS k (.a1 (.ld m) e))=some v/\w.cell? ⟨a.block,a.off+m,none⟩=some v:=by
 obtain⟨d,x,y,rfl⟩:=c7 h;obtain⟨a,g,J,i,rfl⟩:=y;obtain⟨z,⟨a',q,r,e1,e2,e3,A,L,M,N,vs,Q,lo,V,B,D⟩,I⟩:=eh t e _ x;obtain rfl:=ae (Fj e1);refine⟨a,rfl,e2,λm k Z=>?_⟩;have o:j+m<(aq C u).length:=(jK.1 Z).1;have p:g=(aq C u).length:=z;have H:(q+1)*g<=r*g:=iU g A;have b:i+j+m<J.length:=by grind
 obtain⟨⟨k',f,s⟩,K⟩:=I.get (dw b);have n:(0+(i+j+m))%(aq C u).length=j+m:=by rw[du,e3,p,ig,rL,vn,jH o]
 rw[n,Z]at f;obtain rfl:=ae f;refine⟨J[i+j+m].v,gw ?_ s,?_⟩
 .grind[aj,Go.Proofs.YtokipodjggomfaaGreatDoor.Abs.e1]
 .have:=D (i+j+m) _ (dw b);simp only[World.cell?,B];rw[show a.off+m=a.off-(i+j)+(i+j+m) by omega];exact this
end Go.Proofs.YtokipodjggomfaaGreatDoor.Abs
namespace Go.Proofs.YtokipodjggomfaaGreatDoor.Abs
open Go
def dM(C:Ctx)(base:Nat)(E:G)(s:S)(w:World)(r:Result Next):Nx->Prop
 | .val v U=>∃B c M,r=.ok (.value c) M/\ag B v=some c/\Step C base E s w B U M
 | .skip U=>∃B M,r=.ok .skip M/\Step C base E s w B U M
 | .enter f args U=>∃B l M,r=.ok (.enter f ⟨l⟩) M/\ax B args=some l/\Step C base E s w B U M
 | .round l args U=>U=s/\∃F cs,E l=some F/\ax E args=some cs/\r=(Instr.yield F.ay ⟨cs⟩).run C.P w
 | .defer d U=>∃B x M,r=.ok (.defer x) M/\kY B d=some x/\Step C base E s w B U M
 | .recover U=>U=s/\r=.ok .recover w
 | .eH v U=>∃B c M,r=.halt (.panic c) M/\ag B v=some c/\Step C base E s w B U M
def VS(x:Sem Value):Sem Next:=do pure (.value (<-x))
def US(x:Sem Unit):Sem Next:=do x;pure .skip
section
variable{C:Ctx}{base:Nat}{E:G}{s:S}{w:World}{nt:Nat}{t:Tr AV}{a:Act}
theorem dV(a:Rel C base E s w){x:Sem Value}{v:AV}{c:Value}(Y:x.run C.P w=.ok c w)(b:ag E v=some c):
  dM C base E s w ((VS x).run C.P w) (.val v s):=
 ⟨E,c,w,by simp[VS,Y],b,Step.refl a⟩
theorem OX(b:Rel C base E s w)(c:aD E nt t a.tmps)(x:Operand)(ty:TypeId):
  (nq x ty C t s).path (dM C base E s w ((pure (.value (a.eval x)):Sem Next).run C.P w)):=by
 refine R.bh _ (bf b c x) λv d=>?_
 exact⟨E,_,w,rfl,d,Step.refl b⟩
theorem a0i{k:Nat}{vs:Array Value}{e:TypeId}{a:Nat×Nat}{w:World}(h:w.heap[k]? =some (.cells vs e a))(i:Nat):
 w.cell? ⟨k,i,none⟩=vs[i]? :=by grind[World.cell?]
theorem hV{cs:Tr AV}{n dl:Nat}{vs:Array Value}(h:∀i v,i<n->cs.get i=some v->∃c,vs[dl+i]? =some c/\VR E v c):
  ∀(k off:Nat),off+k<=n->(getCells cs k off).path (λl=>∃r,ax E l=some r/\l.length=k/\∀j v,r[j]? =some v->vs[dl+off+j]? =some v)
 |0,off,_=>⟨[],by simp[ax],rfl,by simp⟩
 |k+1,off,Z=>by
  show(match cs.get off with|some v=>(do let v <-qV v;let l <-getCells cs k (Nat.add off 1);R.ok (v::l))|none=>R.bad _).path _;cases b:cs.get off with
  |none=>trivial
  |some v=>
   obtain⟨c,d,e⟩:=h off v (by omega) b;refine R.bh _ (yO v) λx Y=>?_
   obtain⟨rfl,f⟩:=Y;refine R.bh _ (hV h k (off+1) (by omega)) λl g=>?_
   obtain⟨r,A,I,W⟩:=g;refine⟨c::r,av.2 ⟨c,r,e.resolve_left f,A,rfl⟩,by simp[I],λj v a=>?_⟩;cases j with
   |zero=>simp at a;subst a;simpa using d
   |succ j=>have:=W j v (by simpa using a);rw[show dl+off+(j+1)=dl+(off+1)+j by omega];exact this
theorem lh(f:Rel C base E s w)(b off k:Nat):
  (rdCells s b off k).path (λl=>∃F r,E b=some F/\ax E l=some r/\l.length=k/\∀j v,r[j]? =some v->w.cell? ⟨F.ay,F.dl+off+j,none⟩=some v):=by
 unfold rdCells;cases g:s.h.get b with
 |none=>trivial
 |some x=>
  cases x with
  |cells e cs n fz fh st sg=>
   obtain⟨F,o,i,ho,vs,lo,V,rfl,A,I,W,D⟩:=f.ay b _ g;simp only;cases c:Nat.ble (Nat.add off k) n with
   |false=>trivial
   |true=>
    have a:off+k<=n:=by simpa using bn c
    refine R.aE ?_ (hV I k off a);rintro l ⟨r,g1,g2,g3⟩;exact⟨F,r,i,g1,g2,λj v d=>by rw[a0i ho];exact g3 j v d⟩
  |_=>trivial
theorem addr_add(b o n:Nat):Addr.add ⟨b,o,none⟩ n=⟨b,o+n,none⟩:=by
 unfold Addr.add;split
 .next h=>subst h;rfl
 .rfl
theorem dK{P:Program}{ay o:Nat}{r:List Value}{w:World}(h:∀j v,r[j]? =some v->w.cell? ⟨ay,o+j,none⟩=some v)(k:Nat)(Z:r.length=k):
  (loadCells ⟨ay,o,none⟩ k).run P w=.ok ⟨r⟩ w:=by
 subst Z;have:=run_loadCells_list (P:=P) w ⟨ay,o,none⟩ r (λj v a=>by rw[addr_add];exact h j v a);simpa using this
theorem GU(b:Bool)(l:List AV):(ofCells b l).path (λv=>(b=true/\v=.agg l)\/(b=false/\l=[v])):=by
 cases b
 .cases l with
  |nil=>trivial
  |cons x l=>cases l with
   |nil=>exact .inr ⟨rfl,rfl⟩
   |cons y l=>trivial
 .exact .inl ⟨rfl,rfl⟩
theorem wz{e:SE}{b o:Nat}:∀(n:Nat)(P:List Kd)(m:Nat),(∀(q:Nat)k,P[q]? =some k->∃v,ag E (.bS k (.a1 (.ld (m+q)) e))=some v/\w.cell? ⟨b,o+(m+q),none⟩=some v)->
  (Hd e n P m).path (λl=>∃r,ax E l=some r/\l.length=n/\∀(j:Nat)v,r[j]? =some v->w.cell? ⟨b,o+m+j,none⟩=some v)
 |0,_,_,_=>⟨[],rfl,rfl,by simp⟩
 |n+1,[],m,_=>R.aJ _ _
 |n+1,k::P,m,h=>by
  refine R.bh _ (wz (b:=b) (o:=o) n P (m+1) λq k' Z=>?_) λl c=>?_
  .have:=h (q+1) k' (by simpa using Z)
   rwa [show m+(q+1)=m+1+q by omega]at this
  .obtain⟨r,A,I,W⟩:=c;obtain⟨v,D,h5⟩:=h 0 k rfl;refine⟨v::r,av.2 ⟨v,r,D,A,rfl⟩,by simp[I],λj u a=>?_⟩;cases j with
   |zero=>simp only[cr,ar]at a;subst a;exact h5
   |succ j=>
    have:=W j u (by simpa using a)
    rwa [show o+m+(j+1)=o+(m+1)+j by omega]
theorem wD{e i:SE}{g b o:Nat}:∀(n:Nat)(P:List Kd)(m:Nat),(∀(q:Nat)k,P[q]? =some k->∃v,ag E (.bS k (.a2 (.at g (m+q)) e i))=some v/\w.cell? ⟨b,o+(m+q),none⟩=some v)->
  (Ic e i g n P m).path (λl=>∃r,ax E l=some r/\l.length=n/\∀(j:Nat)v,r[j]? =some v->w.cell? ⟨b,o+m+j,none⟩=some v)
 |0,_,_,_=>⟨[],rfl,rfl,by simp⟩
 |n+1,[],m,_=>R.aJ _ _
 |n+1,k::P,m,h=>by
  refine R.bh _ (wD (b:=b) (o:=o) n P (m+1) λq k' Z=>?_) λl c=>?_
  .have:=h (q+1) k' (by simpa using Z)
   rwa [show m+(q+1)=m+1+q by omega]at this
  .obtain⟨r,A,I,W⟩:=c;obtain⟨v,D,h5⟩:=h 0 k rfl;refine⟨v::r,av.2 ⟨v,r,D,A,rfl⟩,by simp[I],λj u a=>?_⟩;cases j with
   |zero=>simp only[cr,ar]at a;subst a;exact h5
   |succ j=>
    have:=W j u (by simpa using a)
    rwa [show o+m+(j+1)=o+(m+1)+j by omega]
theorem yP(L:Good C)(y:Rel C base E s w)(ty:TypeId)(p:AV)(cp:Value)(H:ag E p=some cp):
  (loadAt C s ty p).path (λv=>∃a c,cp=.pointer (some a)/\a.spot=none/\ag E v=some c/\(loadVar ty a).run C.P w=.ok c w):=by
 have fin:∀(i:TI)(M o:Nat)(l:List AV)(r:List Value),tA C.P ty i->ax E l=some r->l.length=(match i.agg with|true=>i.size|false=>1)->(∀(j:Nat)v,r[j]? =some v->w.cell? ⟨M,o+j,none⟩=some v)->
   (ofCells i.agg l).path (λv=>∃c,ag E v=some c/\(loadVar ty ⟨M,o,none⟩).run C.P w=.ok c w):=by
  intro i M o l r d I W D;refine R.aE ?_ (GU i.agg l);intro v U;rcases U with⟨f,rfl⟩|⟨f,rfl⟩
  .refine⟨.agg ⟨r⟩,by simp[ag,I],?_⟩;simp only[loadVar,aA,d.agg w,aP,f,aH,d.size w];rw[dK D _ (by rw[ba I,W,f])];rfl
  .obtain⟨c,r',hc,z,rfl⟩:=av.1 I;simp only[ax,ar]at z;subst z;refine⟨c,hc,?_⟩;have X:=D 0 c (by simp);simp only[hx]at X;simp only[loadVar,aA,d.agg w,aP,f];simp[X]
 cases p with
 |ptr b off=>
  unfold loadAt;refine R.bh _ (bY L ty) λi V=>?_
  obtain⟨V,d⟩:=V;refine R.bh _ (lh y b off _) λl t=>?_
  obtain⟨F,r,A,I,W,D⟩:=t;refine R.aE ?_ (fin i F.ay (F.dl+off) l r d I W D);rintro v ⟨c,g1,g2⟩;simp only[ag,A,bX,ar]at H;exact⟨_,c,H.symm,rfl,g1,g2⟩
 |bS k e=>
  cases k with
  |ptr u j=>
   unfold loadAt;refine R.bh _ (bY L ty) λi V=>?_
   obtain⟨V,d⟩:=V;obtain⟨a,rfl,f,t⟩:=Zn y.rd H;refine R.bh _ (wz (w:=w) (E:=E) (e:=e) (b:=a.block) (o:=a.off) _ ((aq C u).drop j) 0 λq k Z=>?_) λl t=>?_
   .grind
   .obtain⟨r,I,W,D⟩:=t;refine R.aE ?_ (fin i a.block a.off l r d I W D);rintro v ⟨c,g1,g2⟩;obtain⟨ab,ao,asp⟩:=a;simp only at f;subst f;exact⟨_,c,rfl,rfl,g1,g2⟩
  |_=>exact R.aJ _ _
 |gS b i g k=>
  obtain⟨F,q,kd,t,V,hq,rfl⟩:=om H;show(G6 C s ty b i g k).path _;unfold G6;cases hb:s.h.get b with
  |none=>trivial
  |some x=>
   cases x with
   |vec el e=>
    obtain⟨O,o,A,I,vs,lo,K,J,rfl,g1,g2,⟨i',g3,g4,g5,g6,g7⟩,g8,g9⟩:=y.ay b _ hb;rw[t]at A;obtain rfl:=ae A;refine R.bh _ (bY L ty) λj Y=>?_
    obtain⟨Y,d⟩:=Y;refine R.bh _ (R.aI _ _) λ_ m=>?_
    have m:g=(aq C el).length:=aL m;refine R.ew y λhn=>?_
    have hin:q*g+g<=J.length:=by
     rcases na (q*g+g<=J.length)with h|h
     .exact h
     .exact absurd ⟨_,_,kd,_,rfl,λhh=>h hh.2⟩ (h4 hn (vU g1 V))
    have N:Dt.bG C w _ (aq C el) 0 J:=eh y.rd e _ g1;refine R.pb _ (wD (w:=w) (E:=E) (e:=e) (i:=i) (g:=g) (b:=F.ay) (o:=F.dl+q*g) _ ((aq C el).drop k) k λp kk Z=>?_) λl Q=>?_
    .rw[oD]at Z;have S:k+p<(aq C el).length:=(jK.1 Z).1;have n:q*g+(k+p)<J.length:=by omega
     obtain⟨⟨k',B,T⟩, -⟩:=N.get (dw n);have G:(0+(q*g+(k+p)))%(aq C el).length=k+p:=by rw[du,m,rL,vn,jH S]
     rw[G,Z]at B;obtain rfl:=ae B;refine⟨J[q*g+(k+p)].v,gw ?_ T,?_⟩
     .simp only[aj,g1,V,aW,Go.Proofs.YtokipodjggomfaaGreatDoor.Abs.e2];exact dw n
     .have:=g2 (q*g+(k+p)) _ (dw n);simp only[World.cell?,I];rw[ig];exact this
    .obtain⟨r,r2,r3,r4⟩:=Q;refine R.aE ?_ (fin j F.ay (F.dl+(q*g+k)) l r d r2 r3 λj' v U=>?_)
     .grind
     .grind
   |_=>exact R.aJ _ _
 |_=>exact R.aJ _ _
end
end Go.Proofs.YtokipodjggomfaaGreatDoor.Abs
