/- Part 2 of an abstract machine that evaluates programs of the model in the kernel. Conditions: those of each theorem. -/
import Derived.Test.YtokipodjggomfaaGreatDoorAbs1
import Derived.Laws.World
import Derived.Laws.Cells
import Derived.Control
import Derived.Calls
import Derived.Lib.Index
import Derived.Laws.Entries
noncomputable section
set_option linter.unusedVariables false
set_option linter.unusedSimpArgs false
namespace Go.Proofs.YtokipodjggomfaaGreatDoor.Abs
structure PE where
 v:AV
 recovered:Bool
 deriving Inhabited
inductive n7 where
 |run|ret
 |gv (chain:List PE)
 deriving Inhabited
structure FI where
 fn:FuncId
 nt:Nat
 kind:CallKind
 roundOf:Option Nat
 tl:List Deferred
 deriving Inhabited
inductive Res where
 |ret (v:AV)
 |gv (chain:List PE)
 deriving Inhabited
structure Out where
 res:Res
 ctx:Option (List PE)
 s:S
 deriving Inhabited
abbrev Rec:=FI->Tr AV->List cw->List jh->n7->Option (List PE)->S->R Out
def HA(id:Nat):List cw->Option (List cw)
 | []=>none
 |x::k=>match x with
  | .inBlock u=>match Nat.beq u id with|true=>some k|false=>HA id k
  |_=>HA id k
def tu(ops:Array Oper)(j:Nat):Option Tmp:=
 match ops[j]? with
 |some o=>o.dst
 |none=>none
def a0E(want:Bool)(v:AV):R Bool:=
 match v with
 | .bool b=>.ok (match b,want with|true,true=>true|false,false=>true|_,_=>false)
 | .fO=>.bad ""
 | .raw _=>.bad ""
 | .cE _ _=>.bad ""
 |_=>.ok false
def eo(ops:Array Oper)(g:Option (Nat×Bool))(t:Tr AV):R Bool:=
 @Option.rec (Nat×Bool) (λ_=>R Bool) (.ok true)
  (λp=>@Option.rec Tmp (λ_=>R Bool) (.ok false) (λd=>@Option.rec AV (λ_=>R Bool) (.ok false) (a0E p.2) (t.get d)) (tu ops p.1)) g
def v8(ops:Array Oper)(g:Option (Nat×Bool))(t:Tr AV):Option (SE×Bool):=
 match g with
 |none=>none
 |some p=>match tu ops p.1 with
  |none=>none
  |some d=>match t.get d with
   |some v=>match v with
    | .cE k e=>match k with
      | .bool=>some (e,p.2)
      |_=>none
    |_=>none
   |none=>none
def hH(ops:Array Oper)(g:Option (Nat×Bool))(t:Tr AV)(s:S):R (Bool×S):=
 match v8 ops g t with
 |some _=>.bad ""
 |none=>(eo ops g t).bind λb=>.ok (b,s)
def put(nt:Nat)(t:Tr AV)(d:Option Tmp)(v:AV):Tr AV:=
 @Option.rec Tmp (λ_=>Tr AV) t (λd=>@Bool.rec (λ_=>Tr AV) t (t.set d v) (Nat.blt d nt)) d
def getLoop(s:S)(l:Nat):R (LoopState×Option Code×FuncId×Nat×Tr AV×List Tmp×Code×Code×Nat):=
 match s.h.get l with
 |some (.loop a b c n d e f g h)=>.ok (a,b,c,n,d,e,f,g,h)
 |_=>.bad ""
def setArgs(nt:Nat):List Tmp->List AV->Tr AV->R (Tr AV)
 | []=>λa t=>match a with| []=>.ok t|_=>.bad ""
 |p::ps=>λa t=>match a with| []=>.bad "" |x::xs=>setArgs nt ps xs (put nt t (some p) x)
def Sd(C:Ctx)(s:S)(g:Nat)(args:List AV):R Out:=
 match args with
 | [x,y]=>do
   let a <-bytesOf x
   let b <-bytesOf y
   match s.h.get g with
   |some (.cells _ cs n _ _ _ _)=>match cs.get 0 with
    |some v=>match v with
     | .cE k _=>do
       cq (r8 k (.int .i64)&&Nat.blt g C.nG&&Nat.ble 1 n&&Nat.blt a.length 4294967281) "index: too long"
       .ok ⟨.ret (.int .i64 (Mo b a 0)),none,s⟩
     |_=>.bad ""
    |none=>.bad ""
   |_=>.bad ""
 |_=>.bad ""
def oZ:AV->Bool
 | .fO=>true
 |_=>false
def pf(cs:Tr AV):List AV->Nat->Bool
 | []=>λ_=>true
 |v::l=>λi=>match oZ v with
  |true=>pf cs l (Nat.add i 1)
  |false=>match cs.get i with
   |some u=>match gx u v with
    |true=>pf cs l (Nat.add i 1)
    |false=>false
   |none=>false
def Up:List ME->List ME->Bool
 | []=>λy=>match y with
   | []=>true
   |_::_=>false
 |a::x=>λy=>match y with
  | []=>false
  |b::y=>gx a.k b.k&&gx a.v b.v&&Nat.beq a.born b.born&&Up x y
def L1(ids:List Nat):List Nat->Bool
 | []=>true
 |a::l=>match uR a ids with
  |true=>false
  |false=>L1 ids l
def EE:gn->List Nat
 | .cells _ _ _ _ gU _ _=>gU
 |_=>[]
def H4(a:Tr gn)(i:Nat):List Nat:=
 match a.get i with
 |some b=>EE b
 |none=>[]
def nP{α:Type}(i:Nat):List (Nat×α)->Option α
 | []=>none
 |x::l=>match Nat.beq x.1 i with
  |true=>some x.2
  |false=>nP i l
def a2p{α:Type}:List (Nat×α)->Tr α
 | []=>.nil
 |x::l=>(a2p l).set x.1 x.2
def eb(nG n next:Nat)(l:List (Nat×Nat))(i:Nat):Nat:=
 match Nat.blt i n with
 |false=>next
 |true=>match(a2p l).get i with
  |some j=>j
  |none=>match Nat.blt i nG with
   |true=>i
   |false=>next
def Kp:SE:=.a1 .isNil (.bool true)
def fe(nG n:Nat)(l:List (Nat×SE))(i:Nat):SE:=
 match Nat.blt i n with
 |false=>Kp
 |true=>match nP i l with
  |some e=>e
  |none=>match Nat.blt i nG with
   |true=>.var i
   |false=>Kp
def A8(n next:Nat)(m:Nat->Nat)(i:Nat):Nat:=
 match Nat.blt i n with
 |true=>m i
 |false=>Nat.add next (Nat.sub i n)
def A4(n next m:Nat)(D:Nat->SE)(i:Nat):SE:=
 match Nat.blt i n with
 |true=>D i
 |false=>match Nat.blt i (Nat.add n m)with
  |true=>.var (Nat.add next (Nat.sub i n))
  |false=>Kp
def BU{α:Type}:Option α->Bool
 |some _=>true
 |none=>false
def GR(nG n m:Nat)(l:List (Nat×Nat))(i:Nat):Bool:=
 match Nat.blt i n with
 |true=>BU (nP i l)||Nat.blt i nG
 |false=>Nat.blt i (Nat.add n m)
abbrev RS:=Tr Nat×List (Nat×Nat)×List (Nat×SE)
def Qj(i j:Nat)(m:RS):RS:=
 match m with
 |(a,b,c)=>match a.get i with
  |some _=>(a,b,c)
  |none=>(a.set i j,(i,j)::b,c)
def ach(i:Nat)(e:SE)(m:RS):RS:=
 match m with
 |(a,b,c)=>match nP i c with
  |some _=>(a,b,c)
  |none=>(a,b,(i,e)::c)
def frc(f:RS->RS)(m:RS):RS:=@Prod.rec _ _ (λ_=>RS) (λa b=>f (a,b)) m
def a94:AV->Option SE
 | .cE _ e=>some e
 | .int k n=>some (.int k n)
 | .bool b=>some (.bool b)
 | .str s=>some (.str s)
 |_=>none
def bOf:AV->Option Nat
 | .ptr b _=>some b
 | .sl b _ _ _=>some b
 | .qY b _ _ _ _=>some b
 | .qf r=>some r
 | .yield l=>some l
 | .iI b _ _=>some b
 | .jn b _ _ _=>some b
 |_=>none
def a4U(p a:SE)(m:RS):RS:=
 match p with
 | .var i=>ach i a m
 |_=>m
mutual
def RT:AV->AV->RS->RS
 | .ptr b _=>λa m=>match bOf a with|some j=>Qj b j m|none=>m
 | .sl b _ _ _=>λa m=>match bOf a with|some j=>Qj b j m|none=>m
 | .qY b _ _ _ _=>λa m=>match bOf a with|some j=>Qj b j m|none=>m
 | .qf b=>λa m=>match bOf a with|some j=>Qj b j m|none=>m
 | .yield b=>λa m=>match bOf a with|some j=>Qj b j m|none=>m
 | .fn _ x y=>λa m=>match a with| .fn _ d f=>Z4 y f (Z4 x d m)|_=>m
 | .iface _ v=>λa m=>match a with| .iface _ u=>RT v u m|_=>m
 | .agg l=>λa m=>match a with| .agg O=>Z4 l O m|_=>m
 | .ji l=>λa m=>match a with| .ji O=>Z4 l O m|_=>m
 | .cE _ e=>λa m=>match e with
   | .var i=>match a94 a with|some x=>ach i x m|none=>m
   |_=>m
 | .iI b n c=>λa m=>match a with
   | .iI N n' c'=>a4U c c' (a4U n n' (Qj b N m))
   |_=>m
 | .jn b i _ _=>λa m=>match a with
   | .jn N g _ _=>a4U i g (Qj b N m)
   |_=>m
 |_=>λ_ m=>m
def Z4:List AV->List AV->RS->RS
 | []=>λ_ m=>m
 |v::l=>λa m=>match a with
  | []=>m
  |u::O=>frc (Z4 l O) (RT v u m)
end
def Wr:List (Nat×AV)->Tr AV->RS->RS
 | []=>λ_ m=>m
 |x::l=>λt m=>match t.get x.1 with
  |some u=>frc (Wr l t) (RT x.2 u m)
  |none=>Wr l t m
def a7p:List AV->Nat->Tr AV->RS->RS
 | []=>λ_ _ m=>m
 |v::l=>λi t m=>match t.get i with
  |some u=>frc (a7p l (Nat.add i 1) t) (RT v u m)
  |none=>a7p l (Nat.add i 1) t m
def aaP:List ME->List ME->RS->RS
 | []=>λ_ m=>m
 |e::l=>λJ m=>match J with
  | []=>m
  |a::J=>aaP l J (RT e.v a.v m)
def aaQ(c:CB)(b:gn)(m:RS):RS:=
 match c with
 | .cells _ cs _ _ _=>match b with
   | .cells _ t _ _ _ _ _=>a7p cs 0 t m
   |_=>m
 | .fV _=>m
 | .loop _ _ _ _ tm _ _ _ d=>match b with
   | .loop _ _ _ _ t _ _ _ d'=>Qj d d' (Wr tm t m)
   |_=>m
 | .vec _ p=>match b with
   | .vec _ a=>a4U p a m
   |_=>m
 | .Ie _ _ _=>m
 | .map J _=>match b with
   | .map lS _=>aaP J lS m
   |_=>m
def JX(h:Tr gn):List (Nat×CB)->RS->RS
 | []=>λm=>m
 |x::l=>λm=>match m.1.get x.1 with
  |some j=>(match h.get j with
   |some b=>frc (JX h l) (aaQ x.2 b m)
   |none=>JX h l m)
  |none=>JX h l m
def Qh:List AD->List AD->Bool
 | []=>λy=>match y with| []=>true|_::_=>false
 |a::x=>λy=>match y with
  | []=>false
  |b::y=>gx a.target b.target&&(yY a.args b.args&&Qh x y)
def uh(t:Tr AV):List (Nat×AV)->Bool
 | []=>true
 |x::l=>match oZ x.2 with
  |true=>BU (t.get x.1)&&uh t l
  |false=>match t.get x.1 with
   |some u=>gx u x.2&&uh t l
   |none=>false
def sI(b:gn)(s:CB):Bool:=
 match s with
 | .cells h l Sp f i=>match b with
   | .cells e cs n fz _ st sg=>Nat.beq e h&&(Nat.ble l.length n&&(Nat.beq fz Sp&&(HL st f&&(HL sg i&&pf cs l 0))))
   |_=>false
 | .fV l=>match b with
   | .fV (some O)=>Qh O l
   |_=>false
 | .loop st pe fn nt tm ps a c d=>match b with
   | .loop f j m o p q a' c' d'=>HL f st&&(oEq dA j pe&&(kM m fn&&(kM o nt&&(uh p tm&&(lEq kM q ps&&(dA a' a&&(dA c' c&&kM d' d)))))))
   |_=>false
 | .vec el e=>match b with
   | .vec g h=>Nat.beq g el&&db h e
   |_=>false
 | .Ie el k zs=>match b with
   | .Ie g k' r=>Nat.beq g el&&(th k' k&&lEq HL r zs)
   |_=>false
 | .map J c=>match b with
   | .map lS c'=>Nat.beq c' c&&Up lS J
   |_=>false
def Mj(x y:cw):Bool:=
 match x with
 | .code a=>match y with| .code b=>dA a b|_=>false
 | .inBlock i=>match y with| .inBlock j=>kM i j|_=>false
 | .inLoop a=>match y with| .inLoop b=>dA a b|_=>false
 | .inScope a=>match y with| .inScope b=>dA a b|_=>false
 | .rf i=>match y with| .rf j=>kM i j|_=>false
 | .lI i=>match y with| .lI j=>kM i j|_=>false
 | .beginRound=>match y with| .beginRound=>true|_=>false
def cw.sub (m:Nat->Nat):cw->cw
 | .rf l=>.rf (m l)
 | .lI l=>.lI (m l)
 | .code c=>.code c
 | .inBlock i=>.inBlock i
 | .inLoop c=>.inLoop c
 | .inScope c=>.inScope c
 | .beginRound=>.beginRound
def cw.oQ (m:Nat->Nat):List cw->List cw
 | []=>[]
 |x::l=>x.sub m::cw.oQ m l
def a2O(m:Nat->Nat)(a b:Option Nat):Bool:=
 match a with
 |none=>match b with|none=>true|some _=>false
 |some i=>match b with|none=>false|some j=>kM (m i) j
def a3r:CallKind->Bool
 | .normal=>true
 |_=>false
def pV(h:Tr gn)(m:Nat->Nat)(D:Nat->SE)(ids:List Nat):List (Nat×CB)->Bool
 | []=>true
 |x::l=>match h.get (m x.1)with
  |some b=>sI b (x.2.sub m D)&&(L1 ids (EE b)&&pV h m D ids l)
  |none=>false
def lF(m:Nat->Nat):List (Nat×CB)->List Nat
 | []=>[]
 |x::l=>m x.1::lF m l
def uG:List Nat->Tr Unit->Bool
 | []=>λ_=>true
 |a::l=>λt=>match t.get a with
  |some _=>false
  |none=>uG l (t.set a ())
def L2(l:List Nat):Bool:=uG l .nil
def Jt(nG:Nat)(h:Tr gn)(n:Nat):List (Nat×Nat)->Bool
 | []=>true
 |x::l=>BU (h.get x.2)&&(Nat.blt x.1 n&&((Nat.ble nG x.1||Nat.beq x.1 x.2)&&Jt nG h n l))
def E5(ok:Nat->Bool):List (Nat×CB)->Bool
 | []=>true
 |x::l=>ok x.1&&(CB.ids ok x.2&&(CB.live x.2&&E5 ok l))
def OM(nG n:Nat)(rl:List (Nat×Nat))(o:ee):Bool:=
 AV.ids (GR nG n o.m rl) o.res&&E5 (GR nG n o.m rl) o.post
def LP(nG n:Nat)(rl:List (Nat×Nat)):List ee->Bool
 | []=>true
 |o::l=>OM nG n rl o&&LP nG n rl l
def a1f(C:Ctx)(c:bX)(fi:FI)(t:Tr AV)(todo:List cw)(s:S)(rl:List (Nat×Nat))(m:Nat->Nat)(D:Nat->SE):Bool:=
 (kM fi.nt c.nt&&(a3r fi.kind&&a2O m c.round fi.roundOf))&&(uh t (AY m D c.t)&&(lEq Mj todo (cw.oQ m c.todo) &&
   (pV s.h m D (lF m c.pre) c.pre&&(L2 (lF m c.pre)&&(Jt C.nG s.h c.n rl&&(LP C.nG c.n rl c.outs&&Nat.ble C.nG c.n))))))
def pTr(l:List Dt):Prop:=l=[.val (.bool true)]
def pFl(l:List Dt):Prop:=l=[.val (.bool false)]
def Wb(l:List Dt):Prop:=∃k a m,l=[.val (.int k a),.val (.int .i64 m)]/\0<=a/\a<m
def yF(e:SE):List Fact->Bool
 | []=>false
 |f::l=>match f with
  | .tr x=>(match db x e with|true=>true|false=>yF e l)
  |_=>yF e l
def yG(e:SE):List Fact->Bool
 | []=>false
 |f::l=>match f with
  | .fl x=>(match db x e with|true=>true|false=>yG e l)
  |_=>yG e l
def sr(i n:SE):List Fact->Bool
 | []=>false
 |f::l=>match f with
  | .inr j m=>(match db j i&&db m n with|true=>true|false=>sr i n l)
  |_=>sr i n l
def dZ(pc:List Fact)(D:Nat->SE):List Fact->R Unit
 | []=>.ok ()
 |f::l=>match f with
  | .rel nm b p args=>match b with
    |false=>.must (.rel nm true p (SE.iq D args)::pc) (dZ pc D l)
    |true=>.bad ""
  | .tr e=>(match yF (SE.sub D e) pc with
    |true=>dZ pc D l
    |false=>.must (.rel "" true pTr [SE.sub D e]::pc) (dZ pc D l))
  | .fl e=>(match yG (SE.sub D e) pc with
    |true=>dZ pc D l
    |false=>.must (.rel "" true pFl [SE.sub D e]::pc) (dZ pc D l))
  | .inr i n=>(match sr (SE.sub D i) (SE.sub D n) pc with
    |true=>dZ pc D l
    |false=>.must (.rel "" true Wb [SE.sub D i,SE.sub D n]::pc) (dZ pc D l))
def NV(m:Nat->Nat)(D:Nat->SE):List (Nat×CB)->Tr gn->Tr gn
 | []=>λh=>h
 |x::l=>λh=>NV m D l (h.set (m x.1) (x.2.sub m D).aO)
def B7(a:Tr gn)(m:Nat->Nat):List (Nat×CB)->Tr gn->Tr gn
 | []=>λh=>h
 |x::l=>λh=>match CB.live x.2 with
  |true=>B7 a m l ((oq (H4 a (m x.1)) h).del (m x.1))
  |false=>B7 a m l h
def a8e(s:S)(c:bX)(o:ee)(m:Nat->Nat)(a:Nat->Nat)(Vr:Nat->SE):S:=
 ⟨NV a Vr o.post (B7 s.h m c.pre s.h),Nat.add s.next o.m,Fact.oQ Vr o.facts++s.pc⟩
def a3d(s:S):List jh->R S
 | []=>.ok s
 |d::l=>match d with
  | .collected r=>match s.h.get r with
    |some (.fV (some []))=>a3d ⟨s.h.set r (.fV none),s.next,s.pc⟩ l
    |_=>.bad ""
  |_=>.bad ""
def Ug(C:Ctx)(fi:FI)(ds:List jh):Bool:=
 match ds with
 | []=>true
 |_::_=>match fi.roundOf with
  |some _=>false
  |none=>match C.F.get fi.fn with
   |some fn=>Nat.beq fn.results.size 0
   |none=>false
def yS(D:Nat->SE)(pc:List Fact):List Fact->Bool
 | []=>false
 |f::l=>match f with
  | .tr e=>(match DF false (SE.sub D e) pc with|true=>true|false=>yS D pc l)
  | .fl e=>(match DF true (SE.sub D e) pc with|true=>true|false=>yS D pc l)
  |_=>yS D pc l
def a1h(C:Ctx)(c:bX)(fi:FI)(ds:List jh)(s:S)(m:Nat->Nat)(D:Nat->SE)(i:Nat):R Out:=
 match nth c.outs i with
 |none=>.bad ""
 |some o=>match yS (A4 c.n s.next o.m D) s.pc o.facts with
  |true=>.ask 0 λ_=>.bad ""
  |false=>match o.gv with
  |true=>(match ds with
   | []=>.ok ⟨.gv [⟨o.res.sub (A8 c.n s.next m) (A4 c.n s.next o.m D),false⟩],none,a8e s c o m (A8 c.n s.next m) (A4 c.n s.next o.m D)⟩
   |_::_=>.bad "")
  |false=>match Ug C fi ds with
   |true=>(a3d (a8e s c o m (A8 c.n s.next m) (A4 c.n s.next o.m D)) ds).bind λF=>.ok ⟨.ret (o.res.sub (A8 c.n s.next m) (A4 c.n s.next o.m D)),none,F⟩
   |false=>.bad ""
def a1j(C:Ctx)(c:bX)(no:R Out)(fi:FI)(t:Tr AV)(todo:List cw)(ds:List jh)(s:S):R Out:=
 match JX s.h c.pre (Wr c.t t (.nil,[],[]))with
 |(_,rl,sl)=>match a1f C c fi t todo s rl (eb C.nG c.n s.next rl) (fe C.nG c.n sl)with
  |true=>(dZ s.pc (fe C.nG c.n sl) c.facts).bind λ_=>.ask c.outs.length (a1h C c fi ds s (eb C.nG c.n s.next rl) (fe C.nG c.n sl))
  |false=>no
def AO(C:Ctx)(s:S)(b:Nat):Option (TypeId×SE×Nat×Nat):=
 match s.h.get b with
 |some (.cells el cs m fz gU st sg)=>match gU with
  |_::_=>none
  | []=>match Nat.beq fz 0&&(!st && !sg)with
    |false=>none
    |true=>match C.T.get el with
     |none=>none
     |some i=>match Nat.beq i.size (aA C el).length with
      |false=>none
      |true=>match nR cs m 0 with
       | .ok l=>match sW C (aA C el) l (aA C el) (.a1 (.nl (aA C el)) (.bool true))with
         |some y=>some (el,y,m,i.size)
         |none=>none
       |_=>none
 |_=>none
def uk(n c m g:Nat):Bool:= !Nat.beq g 0&&(Nat.ble (Nat.mul c g) m&&Nat.ble n c)
def Rv(t:TypeId)(g:Nat)(l:List Dt):Prop:=∃(a:Addr)(k c:Nat)(P:List Kd)(J:List Dt),l=[.sl (.slice (some a) k c) t g (J.take (k*g)),.ls P J,.val (.int .i64 (.ofNat k))]/\k*g<=J.length
def HS(C:Ctx)(t b n c:Nat)(v:AV)(s:S):AV×S:=
 match AO C s b with
 |some q=>(match Nat.beq q.1 t&&uk n c q.2.2.1 q.2.2.2 with
  |true=>(.cE (.sl t) (.var s.next),⟨(s.h.set b (.vec q.1 q.2.1)).del b,Nat.add s.next 1,.rel "" false (Rv t (aA C t).length) [.var s.next,q.2.1,.int .i64 (.ofNat n)]::s.pc⟩)
  |false=>(v,s))
 |none=>(v,s)
def coV(C:Ctx)(p v:AV)(s:S):AV×S:=
 match p with
 | .iI _ _ _=>match v with
   | .sl b off n c=>match off with
     |0=>match AO C s b with
      |some q=>match uk n c q.2.2.1 q.2.2.2 with
       |true=>(.iI b (.int .i64 (.ofNat n)) (.int .i64 (.ofNat c)),⟨s.h.set b (.vec q.1 q.2.1),s.next,s.pc⟩)
       |false=>(v,s)
      |none=>(v,s)
     |_+1=>(v,s)
   | .qY b _ e0 n g=>match e0 with
     |0=>match AO C s b with
      |some q=>match(Nat.beq g q.2.2.2 && !Nat.beq n 0)&&uk n n q.2.2.1 q.2.2.2 with
       |true=>(.iI b (.int .i64 (.ofNat n)) (.var s.next),⟨s.h.set b (.vec q.1 q.2.1),Nat.add s.next 1,s.pc⟩)
       |false=>(v,s)
      |none=>(v,s)
     |_+1=>(v,s)
   |_=>(v,s)
 | .cE q _=>match q with
   | .sl t=>match v with
     | .dq=>(.cE (.sl t) (.a1 (.ns t (aA C t).length) (.bool true)),s)
     | .sl b off n c=>(match off with
       |0=>HS C t b n c v s
       |_+1=>(v,s))
     | .qY b _ e0 n g=>(match e0 with
       |0=>(match Nat.beq g (aA C t).length && !Nat.beq n 0 with
        |true=>HS C t b n n v s
        |false=>(v,s))
       |_+1=>(v,s))
     |_=>(v,s)
   |_=>(v,s)
 |_=>(v,s)
def a5Z(j i:Nat)(v a:AV)(s:S):S:=
 match s.h.get j with
 |some (.cells e cs n fz gU st sg)=>match cs.get i with
  |some u=>match gx u v&&Nat.blt i n with
   |true=>⟨s.h.set j (.cells e (cs.set i a) n fz gU st sg),s.next,s.pc⟩
   |false=>s
  |none=>s
 |_=>s
def SL(C:Ctx)(j i:Nat)(p:AV)(s:S):S:=
 match s.h.get j with
 |some (.cells _ cs n _ _ _ _)=>match cs.get i with
  |some v=>match !oZ v&&Nat.blt i n with
   |true=>match coV C p v s with
    |(a,F)=>a5Z j i v a F
   |false=>s
  |none=>s
 |_=>s
def KR:AV->Bool
 | .iI _ _ _=>true
 | .cE k _=>(match k with
   | .sl _=>true
   |_=>false)
 |_=>false
def Ck(C:Ctx)(j:Nat):List AV->Nat->S->S
 | []=>λ_ s=>s
 |p::l=>λi s=>match KR p with
  |true=>Ck C j l (Nat.add i 1) (SL C j i p s)
  |false=>Ck C j l (Nat.add i 1) s
def a6a:List AV->Bool
 | []=>false
 |p::l=>KR p||a6a l
def a8C:CB->Bool
 | .cells _ cs _ _ _=>a6a cs
 |_=>false
def coB(C:Ctx)(rl:List (Nat×Nat))(x:Nat×CB)(s:S):S:=
 match a8C x.2 with
 |false=>s
 |true=>match nP x.1 rl with
 |some j=>match x.2 with
  | .cells _ cs _ _ _=>Ck C j cs 0 s
  |_=>s
 |none=>s
def a4y(C:Ctx)(rl:List (Nat×Nat)):List (Nat×CB)->S->S
 | []=>λs=>s
 |x::l=>λs=>a4y C rl l (coB C rl x s)
def coT(C:Ctx):List (Nat×AV)->Tr AV->S->Tr AV×S
 | []=>λt s=>(t,s)
 |x::l=>λt s=>match t.get x.1 with
  |some v=>match oZ v with
   |true=>coT C l t s
   |false=>match coV C x.2 v s with
    |(a,F)=>coT C l (t.set x.1 a) F
  |none=>coT C l t s
def a1O:List (Nat×CB)->Bool
 | []=>false
 |x::l=>a8C x.2||a1O l
def abB(h:Tr gn)(c:bX)(t:Tr AV):List (Nat×Nat):=
 match a1O c.pre with
 |false=>[]
 |true=>match JX h c.pre (Wr c.t t (.nil,[],[]))with
  |(_,rl,_)=>rl
def a0H(C:Ctx)(s:S)(t b:Nat)(n:SE)(v:AV):R (AV×S):=
 match s.h.get b with
 |some (.vec el e)=>match Nat.beq el t with
  |true=>.must (.rel "" false (LL (aA C t).length) [e,n]::s.pc)
   (.ok (.cE (.sl t) (.var s.next),⟨s.h.del b,Nat.add s.next 1,.rel "" false (Rv t (aA C t).length) [.var s.next,e,n]::s.pc⟩))
  |false=>.ok (v,s)
 |_=>.ok (v,s)
def a34(C:Ctx)(s:S)(p v:AV):R (AV×S):=
 match p with
 | .cE q _=>match q with
   | .sl t=>match v with
     | .iI b n _=>a0H C s t b n v
     | .dq=>.ok (.cE (.sl t) (.a1 (.ns t (aA C t).length) (.bool true)),s)
     | .sl _ _ _ _=>.ok (coV C p v s)
     | .qY _ _ _ _ _=>.ok (coV C p v s)
     |_=>.ok (v,s)
   |_=>.ok (v,s)
 |_=>.ok (v,s)
def Tl(p v:AV):Bool:=
 match v with
 | .iI _ _ _=>(match p with
   | .cE q _=>(match q with
     | .sl _=>true
     |_=>false)
   |_=>false)
 |_=>false
def WK(C:Ctx):List (Nat×AV)->Tr AV->S->R (Tr AV×S)
 | []=>λt s=>.ok (t,s)
 |x::l=>λt s=>match t.get x.1 with
  |some v=>(match Tl x.2 v with
   |true=>(a34 C s x.2 v).bind λr=>WK C l (t.set x.1 r.1) r.2
   |false=>WK C l t s)
  |none=>WK C l t s
def a1k(C:Ctx)(c:bX)(no:R Out)(fi:FI)(t:Tr AV)(todo:List cw)(ds:List jh)(s:S):R Out:=
 match coT C c.t t s with
 |(t1,s1)=>a1j C c no fi t1 todo ds (a4y C (abB s1.h c t1) c.pre s1)
def a8y(C:Ctx)(c:bX)(no:R Out)(fi:FI)(t:Tr AV)(todo:List cw)(ds:List jh)(s:S):R Out:=
 (WK C c.t t s).bind λr=>a1k C c no fi r.1 todo ds r.2
def aa1(c:bX)(f:FuncId)(todo:List cw):Bool:=
 match Nat.beq c.fn f with
 |false=>false
 |true=>match todo with
  | []=>false
  |x::_=>match c.todo with
   | []=>false
   |y::_=>Mj x y
mutual
def AV.plain:AV->Bool
 | .cE _ _=>false
 | .iI _ _ _=>false
 | .jn _ _ _ _=>false
 | .agg l=>AV.CQ l
 | .ji l=>AV.CQ l
 | .iface _ v=>AV.plain v
 |_=>true
def AV.CQ:List AV->Bool
 | []=>true
 |v::l=>AV.plain v&&AV.CQ l
end
def NC:List (Nat×AV)->Bool
 | []=>true
 |x::l=>AV.plain x.2&&NC l
def HT(cs:Tr AV):Nat->Bool
 |0=>true
 |n+1=>(match cs.get n with
  |some v=>AV.plain v
  |none=>true)&&HT cs n
def HY(h:Tr gn)(b:Nat):Bool:=
 match h.get b with
 |some x=>(match x with
  | .cells _ cs n _ _ _ _=>HT cs n
  | .vec _ _=>false
  |_=>true)
 |none=>true
def SM(h:Tr gn)(v:AV):Bool:=
 match v with
 | .ptr b _=>HY h b
 | .sl b _ _ _=>HY h b
 | .qY b _ _ _ _=>HY h b
 |v=>AV.plain v
def Ed(h:Tr gn)(cs:Tr AV):Nat->Bool
 |0=>true
 |n+1=>(match cs.get n with
  |some v=>SM h v
  |none=>true)&&Ed h cs n
def Zn(h:Tr gn)(v:AV):Bool:=
 match v with
 | .ptr b _=>(match h.get b with
   |some x=>(match x with
    | .cells _ cs n _ _ _ _=>Ed h cs n
    | .vec _ _=>false
    |_=>true)
   |none=>true)
 |v=>AV.plain v
def ze(h:Tr gn)(t:Tr AV):List (Nat×AV)->Bool
 | []=>true
 |x::l=>match t.get x.1 with
  |some v=>Zn h v&&ze h t l
  |none=>ze h t l
def JI:List (Nat×CB)->Bool
 | []=>true
 |x::l=>(match x.2 with
  | .cells _ cs _ st _=>st||AV.CQ cs
  | .vec _ _=>false
  |_=>true)&&JI l
def a4C(p v:AV):Bool:=
 match p with
 | .int _ n=>(match v with
   | .int _ m=>iEq n m
   |_=>true)
 | .qY _ _ _ len _=>(match v with
   | .qY _ _ _ a _=>Nat.beq len a
   |_=>true)
 |_=>true
def P1(cs:Tr AV):List AV->Nat->Bool
 | []=>λ_=>true
 |p::l=>λi=>(match cs.get i with
  |some v=>a4C p v
  |none=>true)&&P1 cs l (Nat.add i 1)
def Zm(id:Nat):List (Nat×AV)->Option Nat
 | []=>none
 |x::l=>match x.2 with
  | .ptr b _=>(match Nat.beq b id with
    |true=>some x.1
    |false=>Zm id l)
  |_=>Zm id l
def a0K(h:Tr gn)(t:Tr AV)(c:bX):Bool:=
 match c.pre with
 | []=>true
 |x::_=>match x.2 with
  | .cells _ cs _ _ _=>(match Zm x.1 c.t with
    |some d=>(match t.get d with
     |some (.ptr b _)=>(match h.get b with
      |some (.cells _ ts _ _ _ _ _)=>P1 ts cs 0
      |_=>true)
     |_=>true)
    |none=>true)
  |_=>true
def Sb(h:Tr gn)(c:bX)(f:FuncId)(t:Tr AV)(todo:List cw):Bool:=
 match Nat.beq c.fn f with
 |false=>false
 |true=>match a0K h t c with
  |false=>false
  |true=>match aa1 c f todo with
   |false=>false
   |true=>match NC c.t&&JI c.pre with
    |true=>true
    |false=> !ze h t c.t
def HP(C:Ctx)(rec:Rec)(fi:FI)(t:Tr AV)(todo:List cw)(ds:List jh)(s:S):List bX->R Out
 | []=>rec fi t todo ds .run none s
 |c::l=>match Sb s.h c fi.fn t todo with
  |false=>HP C rec fi t todo ds s l
  |true=>a8y C c (HP C rec fi t todo ds s l) fi t todo ds s
def Y9(C:Ctx)(rec:Rec)(fi:FI)(t:Tr AV)(todo:List cw)(ds:List jh)(ctx:Option (List PE))(s:S):R Out:=
 match C.K with
 | []=>rec fi t todo ds .run ctx s
 |_::_=>match ctx with
  |none=>HP C rec fi t todo ds s C.K
  |some _=>rec fi t todo ds .run ctx s
def uU(C:Ctx)(rec:Rec)(f:FuncId)(args:List AV)(kind:CallKind)(ctx:Option (List PE))(s:S):R Out:=
 match C.F.get f with
 |none=>.bad ""
 |some fn=>match fn.body with
  |none=>.bad ""
  |some c=>match Nat.ble args.length fn.ntmps with
   |false=>.bad ""
   |true=>Y9 C rec ⟨f,fn.ntmps,kind,none,[]⟩ (Tr.ofList args) [.code c] [] ctx s
def Pd(f:FuncId):List bX->Option bX
 | []=>none
 |c::l=>match Nat.beq c.fn f with
  |true=>some c
  |false=>Pd f l
def a7r(C:Ctx)(c:bX)(args:List AV)(s:S):R Out:=
 match kM args.length c.nt with
 |true=>a1j C c (.bad "") ⟨c.fn,c.nt,.normal,none,[]⟩ (Tr.ofList args) [] [] s
 |false=>.bad ""
def U7(C:Ctx)(rec:Rec)(f:FuncId)(args:List AV)(s:S):R Out:=
 match wC f C.X with
 |none=>uU C rec f args .normal none s
 |some e=>match e with
  | .index g=>Sd C s g args
  |_=>uU C rec f args .normal none s
def a1n(C:Ctx)(rec:Rec)(f:FuncId)(args:List AV)(s:S):R Out:=
 match Pd f C.L with
 |some c=>(match AV.CQ args with
  |true=>U7 C rec f args s
  |false=>a7r C c args s)
 |none=>U7 C rec f args s
def P4(C:Ctx)(rec:Rec)(f:FuncId)(args:List AV)(s:S):R Out:=a1n C rec f args s
def Lg(C:Ctx)(rec:Rec)(l:Nat)(args:List AV)(s:S):R Out:=do
 let r <-getLoop s l
 match r with
 |(_,_,fn,nt,tmps,params,assign,body,_)=>do
  let t <-setArgs nt params args tmps
  let _ <-R.yn "round: function" (C.F.get fn)
  rec ⟨fn,nt,.normal,some l,[]⟩ t [.code assign,.beginRound,.code body] [] .run none s
inductive RG where
 |fin (t:Tr AV) (ds:List jh) (ctx:Option (List PE)) (s:S)
 |gv (ch:List PE) (t:Tr AV) (ds:List jh) (ctx:Option (List PE)) (s:S)
 deriving Inhabited
def iK:AV:=.ji []
def HI(fi:FI)(d:AD)(ds:List jh)(s:S):R (List jh×S):=
 match fi.roundOf with
 |none=>.ok (.call d::ds,s)
 |some l=>do
  let r <-getLoop s l
  match r with
  |(_,_,_,_,_,_,_,_,b)=>
   match s.h.get b with
   |some (.fV (some l))=>.ok (ds,⟨s.h.set b (.fV (some (d::l))),s.next,s.pc⟩)
   |_=>.bad ""
def Oe(fi:FI)(ctx:Option (List PE)):R (AV×Option (List PE)):=
 match fi.roundOf with
 |some _=>.bad ""
 |none=>
  match fi.kind with
  | .deferred=>match ctx with
    |some ({ v,recovered:=false }::a)=>.ok (v,some ({ v,recovered:=true }::a))
    |_=>.ok (.qc,ctx)
  | .normal=>.ok (.qc,ctx)
  |_=>.bad ""
abbrev RK:=Tr AV->List jh->Option (List PE)->S->R RG
def Kq(nt:Nat)(d:Option Tmp)(k:RK)(t:Tr AV)(ds:List jh)(ctx:Option (List PE))(o:Out):R RG:=
 @Out.rec (λ_=>R RG) (λres _ s=>@Res.rec (λ_=>R RG) (λv=>k (put nt t d v) ds ctx s) (λch=>.ok (.gv ch t ds ctx s)) res) o
def Y8(C:Ctx)(rec:Rec)(nt:Nat)(d:Option Tmp)(k:RK)(t:Tr AV)(ds:List jh)(ctx:Option (List PE))(f:FuncId)(args:List AV)(s:S):R RG:=
 (P4 C rec f args s).bind (Kq nt d k t ds ctx)
def Y7(C:Ctx)(rec:Rec)(nt:Nat)(d:Option Tmp)(k:RK)(t:Tr AV)(ds:List jh)(ctx:Option (List PE))(l:Nat)(args:List AV)(s:S):R RG:=
 (Lg C rec l args s).bind (Kq nt d k t ds ctx)
def Gt(fi:FI)(nt:Nat)(d:Option Tmp)(k:RK)(t:Tr AV)(ds:List jh)(ctx:Option (List PE))(x:AD)(s:S):R RG:=
 (HI fi x ds s).bind λr=>k (put nt t d iK) r.1 ctx r.2
def zq(fi:FI)(nt:Nat)(d:Option Tmp)(k:RK)(t:Tr AV)(ds:List jh)(ctx:Option (List PE))(s:S):R RG:=
 (Oe fi ctx).bind λr=>k (put nt t d r.1) ds r.2 s
def a5B(C:Ctx)(rec:Rec)(nt:Nat)(fi:FI)(d:Option Tmp)(k:RK)(t:Tr AV)(ds:List jh)(ctx:Option (List PE))(x:Nx):R RG:=
 @Nx.rec (λ_=>R RG) (λv s=>k (put nt t d v) ds ctx s) (λs=>k (put nt t d iK) ds ctx s) (Y8 C rec nt d k t ds ctx) (Y7 C rec nt d k t ds ctx)
  (λ_ _=>.bad "") (zq fi nt d k t ds ctx) (λv s=>.ok (.gv [⟨v,false⟩] t ds ctx s)) x
def rp(o:Op):Option Call:=
 match o with
 | .defer c=>some c
 |_=>none
def ia(c:Call)(C:Ctx)(t:Tr AV):R AD:=do
 let args <-evL C t c.args.toList
 match c.callee with
 | .value f=>do
   let f <-oL C t f
   match f with
   | .fn g a b=>.ok { target:=.fn g a b,args }
   |_=>.bad ""
 |_=>.bad ""
def DG(C:Ctx)(rec:Rec)(fi:FI)(nt:Nat)(k:RK)(d:Option Tmp)(op:Op)(ty:TypeId)(t:Tr AV)(ds:List jh)(ctx:Option (List PE))(s:S):R RG:=
 @Option.rec Call (λ_=>R RG) ((sF op ty C t s).bind (a5B C rec nt fi d k t ds ctx)) (λc=>(ia c C t).bind λx=>Gt fi nt d k t ds ctx x s) (rp op)
def Be(C:Ctx)(rec:Rec)(fi:FI)(nt:Nat)(k:RK)(d:Option Tmp)(op:Op)(ty:TypeId)(t:Tr AV)(ds:List jh)(ctx:Option (List PE))(s:S)(b:Bool):R RG:=
 @Bool.rec (λ_=>R RG) (k (put nt t d iK) ds ctx s) (DG C rec fi nt k d op ty t ds ctx s) b
def vP(C:Ctx)(rec:Rec)(fi:FI)(ops:Array Oper)(k:RK)(o:Oper):RK:=
 @Oper.rec (λ_=>RK) (λd op ty _ _ g t ds ctx s=>(hH ops g t s).bind λr=>Be C rec fi fi.nt k d op ty t ds ctx r.2 r.1) o
def Pb(nt:Nat)(d:Option Tmp)(t:Tr AV):Option SE:=
 match d with
 |none=>none
 |some d=>match Nat.blt d nt with
  |false=>none
  |true=>match t.get d with
   |some v=>(match v with
    | .cE k e=>(match k with
      | .bool=>some e
      |_=>none)
    |_=>none)
   |none=>none
def Wu(nt:Nat)(d:Option Tmp)(K:RK):RK:=λt ds ctx s=>
 match Pb nt d t with
 |some e=>(Kc s e).bind λr=>K (put nt t d (.bool r.1)) ds ctx r.2
 |none=>K t ds ctx s
def j7(C:Ctx)(rec:Rec)(fi:FI)(ops:Array Oper)(k:RK)(o:Oper):RK:=vP C rec fi ops (Wu fi.nt o.dst k) o
def Rd(C:Ctx)(rec:Rec)(fi:FI)(ops:Array Oper)(l:List Oper):RK:=
 @List.rec Oper (λ_=>RK) (λt ds ctx s=>.ok (.fin t ds ctx s)) (λo _ a=>j7 C rec fi ops a o) l
def C7(rec:Rec)(fi:FI)(t:Tr AV)(ds:List jh)(ctx:Option (List PE))(s:S)(g:Option Code):R Out:=
 match fi.roundOf with
 |none=>match g with
  |none=>rec fi t [] ds .ret ctx s
  |some .ret=>rec fi t [] ds .ret ctx s
  |_=>.bad ""
 |some l=>do
  let r <-getLoop s l
  match r with
  |(_,_,a,n,b,c,d,e,f)=>
   .ok ⟨.ret (.bool g.isNone),ctx,⟨s.h.set l (.loop (match g with|none=>.ready|some _=>.done) g a n b c d e f),s.next,s.pc⟩⟩
def a1z(rec:Rec)(fi:FI)(t:Tr AV)(k:List cw)(ds:List jh)(ctx:Option (List PE))(l:Nat)(o:Out):R Out:=
 match o.res with
 | .ret _=>rec fi t (.lI l::k) ds .run ctx o.s
 | .gv _=>.bad ""
def Lr(C:Ctx)(rec:Rec)(fi:FI)(t:Tr AV)(k:List cw)(ds:List jh)(ctx:Option (List PE))(f:Operand)(params:Array Tmp)(assign body:Code)(s:S):R Out:=do
 let a <-oL C t f
 match fi.roundOf with
 |some _=>.bad ""
 |none=>do
  let s1:=s.new (.fV (some []))
  match <-xH C (s1.new (.loop .ready none fi.fn fi.nt t params.toList assign body s.next)) a [.yield s1.next]with
  | .enter f args F=>do let o <-P4 C rec f args F;a1z rec fi t k (.collected s.next::ds) ctx s1.next o
  |_=>.bad ""
def regionF(a:Ctx)(rec:Rec)(fi:FI)(k:List cw)(r:RG):R Out:=
 match r with
 | .fin t ds ctx s=>rec fi t k ds .run ctx s
 | .gv ch t ds ctx s=>rec fi t [] ds (.gv ch) ctx s
def a7N(o:Oper)(C:Ctx)(t:Tr AV)(s:S)(b:Bool):R AV:=
 @Bool.rec (λ_=>R AV) (.ok iK) (evQ o C t s) b
def UQ(ops:Array Oper)(o:Oper)(C:Ctx)(t:Tr AV)(s:S):R AV:=(eo ops o.guard t).bind (a7N o C t s)
def j5(nt:Nat)(t:Tr AV)(d:Option Tmp)(v:AV):Bool:=
 match d with
 |none=>true
 |some d=>match Nat.blt d nt with
  |true=>match t.get d with
   |some u=>gx u v
   |none=>false
  |false=>true
abbrev vb:=List (Nat×(Nat×gn))
def dW(i:Nat):vb->Option (Nat×gn)
 | []=>none
 |p::l=>match Nat.beq p.1 i with
  |true=>some p.2
  |false=>dW i l
abbrev DK:=vb->RK
def R.Cy {α:Type} (r:R α):R α:=@R.rec α (λ_=>R α) (λa=>.ok a) (λw=>.bad w) (λ_ _ _=>.bad "") (λ_ _ _=>.bad "") r
def Ff(o:Oper)(i nt:Nat)(k:DK)(C:Ctx)(pe:vb)(t:Tr AV)(ds:List jh)(ctx:Option (List PE))(s:S)(b:Bool):R RG:=
 @Bool.rec (λ_=>R RG) (k pe (put nt t o.dst iK) ds ctx s)
  ((R.Cy (aF o.op C t)).bind λr=>k ((i,(s.next,r.2))::pe) (put nt t o.dst (Z3 r.1 s.next)) ds ctx ⟨s.h,Nat.add s.next 1,s.pc⟩) b
def dOn(i:Nat)(k:DK):DK:=λpe t ds ctx s=>
 match dW i pe with
 |none=>k pe t ds ctx s
 |some p=>k pe t ds ctx ⟨s.h.set p.1 p.2,s.next,s.pc⟩
def a09(C:Ctx)(rec:Rec)(fi:FI)(ops:Array Oper)(x:PS)(k:DK):DK:=
 @PS.rec (λ_=>DK)
  (λ_ o pe=>j7 C rec fi ops (k pe) o)
  (λ_ o pe t ds ctx s=>(R.Cy (UQ ops o C t s)).bind λv=>k pe (put fi.nt t o.dst v) ds ctx s)
  (λ_ o pe t ds ctx s=>(R.Cy (UQ ops o C t s)).bind λv=>@Bool.rec (λ_=>R RG) (.bad "") (k pe t ds ctx s) (j5 fi.nt t o.dst v))
  (λi o pe t ds ctx s=>(R.Cy (eo ops o.guard t)).bind (Ff o i fi.nt k C pe t ds ctx s))
  (λi=>dOn i k) x
def jZ(C:Ctx)(rec:Rec)(fi:FI)(ops:Array Oper)(a:DK)(l:List PS):DK:=
 @List.rec PS (λ_=>DK) a (λx _ b=>a09 C rec fi ops x b) l
def a7X:DK:=λ_ t ds ctx s=>.ok (.fin t ds ctx s)
def nU(C:Ctx)(rec:Rec)(fi:FI)(ops:Array Oper)(l:List PS):DK:=jZ C rec fi ops a7X l
def A0(o:Oper)(C:Ctx)(t:Tr AV):R Nat:=
 match o.op with
 | .store _ a _=>do
   let p <-oL C t a
   match p with
   | .ptr b _=>.ok b
   | .jn b _ _ _=>.ok b
   |_=>.bad ""
 |_=>.bad ""
def hI(ops:Array Oper)(o:Oper)(C:Ctx)(t:Tr AV)(s:S):R S:=
 match o.dst with
 |some _=>.bad ""
 |none=>do
  let b <-R.Cy (eo ops o.guard t)
  match b with
  |false=>.bad ""
  |true=>match o.op with
   | .store ty a x=>do
     let p <-oL C t a
     let v <-oL C t x
     storeAt C s ty p v
   |_=>.bad ""
def Gu(ops:Array Oper)(nt:Nat)(C:Ctx)(t:Tr AV)(s:S):List Nat->R Unit
 | []=>.ok ()
 |i::l=>match nth ops.toList i with
  |none=>.bad ""
  |some o=>do
   let v <-R.Cy (UQ ops o C t s)
   match j5 nt t o.dst v with
   |true=>Gu ops nt C t s l
   |false=>.bad ""
def Ku(s:S)(b:Nat):R (List Nat):=
 match s.h.get b with
 |some (.cells _ _ _ _ gU _ _)=>.ok gU
 |some (.vec _ _)=>.ok []
 |_=>.bad ""
def Ja(C:Ctx)(fi:FI)(ops:Array Oper)(b c:Oper)(ra rb:List Nat):DK:=λ_ t ds ctx s=>do
 let d <-R.Cy (A0 b C t)
 let a <-R.Cy (A0 c C t)
 let h <-R.Cy (Ku s d)
 let i <-R.Cy (Ku s a)
 cq (!Nat.beq d a && !uR a h && !uR d i) "two stores: the same place"
 let f <-R.Cy (hI ops b C t s)
 let _ <-R.Cy (Gu ops fi.nt C t f ra)
 let e <-R.Cy (hI ops c C t f)
 let g <-R.Cy (hI ops c C t s)
 let _ <-R.Cy (Gu ops fi.nt C t g rb)
 let _ <-R.Cy (hI ops b C t g)
 .ok (.fin t ds ctx e)
def gw(nt:Nat)(t:Tr AV):List PS->Tr AV
 | []=>t
 |x::l=>match x with
  | .ev _ o=>put nt (gw nt t l) o.dst .fO
  | .al _ o=>put nt (gw nt t l) o.dst .fO
  |_=>gw nt t l
def a1b(nt:Nat)(l:List PS)(r:RG):R RG:=
 @RG.rec (λ_=>R RG) (λt ds ctx s=>.ok (.fin t ds ctx s)) (λch t ds ctx s=>.ok (.gv ch (gw nt t l) ds ctx s)) r
def dGo(C:Ctx)(rec:Rec)(fi:FI)(ops:Array Oper)(p:Kv):RK:=λt ds ctx s=>
 match p with
 | .one a=>(nU C rec fi ops (link ops.toList a) [] t ds ctx s).bind (a1b fi.nt (link ops.toList a))
 | .two pre x y ra rb=>match nth ops.toList x,nth ops.toList y with
   |some b,some c=>(jZ C rec fi ops (Ja C fi ops b c ra rb) (link ops.toList pre) [] t ds ctx s).bind (a1b fi.nt (link ops.toList pre))
   |_,_=>.bad ""
def a1a(C:Ctx)(rec:Rec)(fi:FI)(ops:Array Oper)(a:Kv):RK:=λt ds ctx s=>
 @Bool.rec (λ_=>R RG) (.bad "") (dGo C rec fi ops a t ds ctx s) (Gv ops.toList a)
def WX(C:Ctx)(ops:Array Oper)(nt:Nat):List Oper->Tr AV->S->Option SE
 | []=>λ_ _=>none
 |o::l=>λt s=>match v8 ops o.guard t with
  |some p=>some p.1
  |none=>match eo ops o.guard t with
   | .ok b=>(match b with
     |false=>WX C ops nt l (put nt t o.dst iK) s
     |true=>match sF o.op o.type C t s with
      | .ok x=>(match x with
        | .val v F=>(match Nat.beq F.next s.next with
          |true=>WX C ops nt l (put nt t o.dst v) F
          |false=>none)
        |_=>none)
      |_=>none)
   |_=>none
def PJ(C:Ctx)(rec:Rec)(fi:FI)(ops:Array Oper):Nat->RK
 |0=>λt ds ctx s=>a1a C rec fi ops (vS ops.toList) t ds ctx s
 |n+1=>λt ds ctx s=>match WX C ops fi.nt ops.toList t s with
  |some e=>(Kc s e).bind λr=>PJ C rec fi ops n t ds ctx r.2
  |none=>a1a C rec fi ops (vS ops.toList) t ds ctx s
def UX(C:Ctx)(rec:Rec)(fi:FI)(ops:Array Oper)(t:Tr AV)(ds:List jh)(ctx:Option (List PE))(s:S):R RG:=
 PJ C rec fi ops 6 t ds ctx s
abbrev CK:=List cw->Ctx->Rec->FI->Tr AV->List jh->Option (List PE)->S->R Out
def adt:CK:=λ_ _ rec fi t ds ctx s=>C7 rec fi t ds ctx s (some .ret)
def Vd:CK:=λk _ rec fi t ds ctx s=>rec fi t k ds .run ctx s
def ads(a b:Code):CK:=λk _ rec fi t ds ctx s=>rec fi t (.code a::.code b::k) ds .run ctx s
def ab5(c:Operand)(a b:Code):CK:=λk C rec fi t ds ctx s=>
 (oL C t c).bind λv=>match v with
   | .bool x=>rec fi t (.code (match x with|true=>a|false=>b)::k) ds .run ctx s
   | .cE q e=>match q with
     | .bool=>(Kc s e).bind λr=>rec fi t (.code (match r.1 with|true=>a|false=>b)::k) ds .run ctx r.2
     |_=>.bad ""
   |_=>.bad ""
def a8X(id:Nat)(body:Code):CK:=λk _ rec fi t ds ctx s=>rec fi t (.code body::.inBlock id::k) ds .run ctx s
def a57(body:Code):CK:=λk C rec fi t ds ctx s=>Y9 C rec fi t (.code body::.inLoop body::k) ds ctx s
def a8V(body:Code):CK:=λk _ rec fi t ds ctx s=>rec fi t (.code body::.inScope body::k) ds .run ctx s
def ab4(id:Nat):CK:=λk _ rec fi t ds ctx s=>
 match HA id k with
 |some k=>rec fi t k ds .run ctx s
 |none=>.bad ""
def a4K(ops:Array Oper)(a:Bool):CK:=λk C rec fi t ds ctx s=>
 match a with
 |false=>(Rd C rec fi ops ops.toList t ds ctx s).bind (regionF C rec fi k)
 |true=>(UX C rec fi ops t ds ctx s).bind (regionF C rec fi k)
def a8W(f:Operand)(params:Array Tmp)(assign body:Code):CK:=λk C rec fi t ds ctx s=>Lr C rec fi t k ds ctx f params assign body s
def codeF(c:Code):CK:=
 @Code.rec (λ_=>CK) Vd (λ_ ops draw=>a4K ops draw) (λa b _ _=>ads a b) (λc a b _ _=>ab5 c a b) (λid b _=>a8X id b) (λb _=>a57 b)
  (λf p a b _ _=>a8W f p a b) ab4 (λb _=>a8V b) (λ_=>Vd) (λ_ _ _ _ _ _ _ _ _=>.bad "") adt (λYa _ _ _ _ _ _ _ _=>.bad Ya) c
def a7A(l:Nat):CK:=λk _ rec fi t ds ctx s=>do
 let r <-getLoop s l
 match r with
 |(st,nM,a,n,b,c,d,e,f)=>
  match st with
  | .busy=>.bad ""
  |_=>rec fi t ((match nM with|some c=>[.code c]|none=>[])++k) ds .run ctx ⟨s.h.set l (.loop .exhausted nM a n b c d e f),s.next,s.pc⟩
def Sf:CK:=λk _ rec fi t ds ctx s=>
 match fi.roundOf with
 |none=>.bad ""
 |some l=>do
  let r <-getLoop s l
  match r with
  |(st,nM,a,n,b,c,d,e,f)=>
   match st with
   | .ready=>rec fi t k ds .run ctx ⟨s.h.set l (.loop .busy nM a n b c d e f),s.next,s.pc⟩
   |_=>.bad ""
def a5P(x:cw):CK:=
 @cw.rec (λ_=>CK) codeF (λ_=>Vd) a57 (λ_=>Vd) (λ_ _ _ _ _ _ _ _ _=>.bad "") a7A Sf x
def a2R(C:Ctx)(s:S)(t:Tr AV)(r:ResultVar):R AV:=
 match r with
 | .tmp d=>oL C t (.tmp d)
 | .cell a ty=>do let p <-oL C t (.tmp a);loadAt C s ty p
def E2(C:Ctx)(s:S)(t:Tr AV):List ResultVar->R (List AV)
 | []=>.ok []
 |r::l=>do
  let v <-a2R C s t r
  let vs <-E2 C s t l
  .ok (v::vs)
def BA:List AV->AV
 | [v]=>v
 |vs=>.ji vs
def Gm(C:Ctx)(s:S)(fi:FI)(t:Tr AV):R AV:=
 match C.F.get fi.fn with
 |none=>.bad ""
 |some fn=>do let vs <-E2 C s t fn.results.toList;.ok (BA vs)
def Ul:n7->Option (List PE)
 | .gv c=>some c
 |_=>none
def va(o:Out):n7:=
 match o.ctx with
 |some c=>.gv c
 |none=>.ret
def w8:n7->n7
 | .gv (p::a)=>match p.recovered with
   |true=>.ret
   |false=>.gv (p::a)
 |m=>m
def Sy(C:Ctx)(rec:Rec)(fi:FI)(t:Tr AV)(mode:n7)(ctx:Option (List PE))(s:S):jh->List jh->R Out
 | .collected r=>λds=>
   match s.h.get r with
   |some (.fV (some l))=>rec fi t [] (l.map .call++ds) mode ctx ⟨s.h.set r (.fV none),s.next,s.pc⟩
   |_=>.bad ""
 | .call d=>λds=>do
   match <-xH C s d.target d.args with
   | .enter f args s=>do
     let o <-uU C rec f args .deferred (Ul mode) s
     match o.res with
     | .ret _=>rec fi t [] ds (w8 (va o)) ctx o.s
     | .gv _=>.bad ""
   |_=>.bad ""
def adv(C:Ctx)(rec:Rec)(fi:FI)(t:Tr AV)(todo:List cw)(ds:List jh)(ctx:Option (List PE))(s:S):R Out:=
 @List.rec cw (λ_=>R Out) (C7 rec fi t ds ctx s none) (λx k _=>a5P x k C rec fi t ds ctx s) todo
def a81(C:Ctx)(rec:Rec)(fi:FI)(t:Tr AV)(ds:List jh)(ctx:Option (List PE))(s:S):R Out:=
 match fi.roundOf with
 |some _=>.bad ""
 |none=>match ds with
  | []=>(Gm C s fi t).bind λv=>.ok ⟨.ret v,ctx,s⟩
  |d::ds=>Sy C rec fi t .ret ctx s d ds
def a82(C:Ctx)(rec:Rec)(fi:FI)(t:Tr AV)(ds:List jh)(ctx:Option (List PE))(s:S)(chain:List PE):R Out:=
 match ds with
 | []=>.ok ⟨.gv chain,ctx,s⟩
 |d::ds=>Sy C rec fi t (.gv chain) ctx s d ds
def a58(C:Ctx)(rec:Rec)(fi:FI)(t:Tr AV)(todo:List cw)(ds:List jh)(mode:n7)(ctx:Option (List PE))(s:S):R Out:=
 @n7.rec (λ_=>R Out) (adv C rec fi t todo ds ctx s) (a81 C rec fi t ds ctx s) (a82 C rec fi t ds ctx s) mode
def Et(C:Ctx)(n:Nat):Rec:=
 @Nat.rec (λ_=>Rec) (λ_ _ _ _ _ _ _=>.bad "") (λ_ a=>a58 C a) n
def QP(n next:Nat)(l:List (Nat×Nat))(i:Nat):Nat:=
 match Nat.blt i n with
 |true=>i
 |false=>match nP i l with
  |some j=>match Nat.ble n j with
   |true=>j
   |false=>next
  |none=>next
def RN(n m:Nat)(l:List (Nat×SE))(i:Nat):SE:=
 match Nat.blt i n with
 |true=>.var i
 |false=>match Nat.blt i (Nat.add n m)with
  |false=>Kp
  |true=>match nP i l with
   |some e=>e
   |none=>Kp
def L5(n:Nat)(h:Tr gn):List (Nat×CB)->RS->RS
 | []=>λm=>m
 |x::l=>λm=>L5 n h l (match h.get (QP n n m.2.1 x.1)with
  |some b=>aaQ x.2 b m
  |none=>m)
def Bk(h:Tr gn)(a:Nat->Nat)(c:Nat->SE):List (Nat×CB)->Bool
 | []=>true
 |x::l=>match h.get (a x.1)with
  |some b=>sI b (x.2.sub a c)&&(x.2.live&&Bk h a c l)
  |none=>false
def E8(s:S)(v:AV)(o:ee)(a:Nat->Nat)(b:Nat->SE):Bool:=
 gx v (o.res.sub a b)&&(Bk s.h a b o.post&&L2 (lF a o.post))
mutual
def a33(C:Ctx):AV->AV->S->R (AV×S)
 | .agg l=>λv s=>match v with
   | .agg O=>(WL C l O s).bind λr=>.ok (.agg r.1,r.2)
   |_=>.ok (v,s)
 | .ji l=>λv s=>match v with
   | .ji O=>(WL C l O s).bind λr=>.ok (.ji r.1,r.2)
   |_=>.ok (v,s)
 |p=>λv s=>a34 C s p v
def WL(C:Ctx):List AV->List AV->S->R (List AV×S)
 | []=>λO s=>.ok (O,s)
 |p::l=>λO s=>match O with
  | []=>.ok ([],s)
  |v::O=>(a33 C p v s).bind λr=>(WL C l O r.2).bind λq=>.ok (r.1::q.1,q.2)
end
def a9I(a b:Bool):Bool:=
 match a with
 |true=> !b
 |false=>b
def lG(C:Ctx)(c:bX)(gv:Bool)(s:S)(v:AV):List ee->R Unit
 | []=>.must s.pc (.ok ())
 |o::l=>match a9I o.gv gv with
  |true=>lG C c gv s v l
  |false=>(a33 C o.res v s).bind λr=>
   match L5 c.n r.2.h o.post (RT o.res r.1 (.nil,[],[]))with
   |(_,tl,a)=>match E8 r.2 r.1 o (QP c.n r.2.next tl) (RN c.n o.m a)with
    |true=>dZ r.2.pc (RN c.n o.m a) o.facts
    |false=>lG C c gv s v l
def uY(C:Ctx)(c:bX)(o:Out):R Unit:=
 match o.res with
 | .ret v=>lG C c false o.s v c.outs
 | .gv ch=>match ch with
   | []=>.must o.s.pc (.ok ())
   |p::l=>match l with
    |_::_=>.must o.s.pc (.ok ())
    | []=>match p.recovered with
      |true=>.must o.s.pc (.ok ())
      |false=>lG C c true o.s p.v c.outs
def wj:Code->List cw->Nat->Nat×Option (List cw)
 | .seq a b=>λk n=>match wj a (.code b::k) n with
   |(m,some r)=>(m,some r)
   |(m,none)=>wj b k m
 | .cond _ a b=>λk n=>match wj a k n with
   |(m,some r)=>(m,some r)
   |(m,none)=>wj b k m
 | .block id x=>λk n=>wj x (.inBlock id::k) n
 | .loop x=>λk n=>match n with
   |0=>(0,some (.code x::.inLoop x::k))
   |m+1=>wj x (.inLoop x::k) m
 | .scope x=>λk n=>wj x (.inScope x::k) n
 |_=>λ_ n=>(n,none)
def BK(P:Program)(f:FuncId)(n:Nat):List cw:=
 match(P.funcs[f]?).bind (·.body)with
 |some c=>match(wj c [] n).2 with
  |some l=>l
  |none=>[]
 |none=>[]
def oV:Code->Nat->Nat×Option (Code×Code)
 | .seq a b=>λn=>match oV a n with
   |(m,some r)=>(m,some r)
   |(m,none)=>oV b m
 | .cond _ a b=>λn=>match oV a n with
   |(m,some r)=>(m,some r)
   |(m,none)=>oV b m
 | .block _ x=>λn=>oV x n
 | .loop x=>λn=>oV x n
 | .scope x=>λn=>oV x n
 | .rangeFunc _ _ a b=>λn=>match n with
   |0=>(0,some (a,b))
   |m+1=>oV b m
 |_=>λn=>(n,none)
def j8(P:Program)(f:FuncId)(n:Nat):Code×Code:=
 match(P.funcs[f]?).bind (·.body)with
 |some c=>match(oV c n).2 with
  |some r=>r
  |none=>(.skip,.skip)
 |none=>(.skip,.skip)
def Dm(P:Program)(f:FuncId):List cw:=
 match(P.funcs[f]?).bind (·.body)with
 |some c=>[.code c]
 |none=>[]
abbrev PD:=List Dt->Prop
structure EG where
 fC:Nat
 fP:Nat
 fB:Nat
 tL:Nat
 tT:Nat
 tI:Nat
 tE:Nat
 nG:Nat
 ntC:Nat
 ntP:Nat
 ntB:Nat
def M3(P:Program)(u:EG)(a:PD)(b:Nat)(n:Nat)(m:Nat):ee:=
 { res:=.ji [],post:=[(u.nG,.loop .ready none u.fP u.ntP [(3,.ptr (u.nG+3) 0)] [30,31] (j8 P u.fP 0).1 (j8 P u.fP 0).2 (u.nG+1)),(u.nG+1,.fV []),
     (u.nG+3,.cells u.tL [.iI b (.var n) (.var (n+1))] 0 false false),(b,.vec u.tT (.var (n+2)))],
   facts:=[.rel "" false a [.var n,.var (n+2)]],m }
def a4x(P:Program)(u:EG)(x:String)(b a:PD):bX:=
 let g:=u.nG
 { fn:=u.fB,nt:=u.ntB,round:=none,t:=[(0,.yield g),(1,.ptr (g+2) 0),(3,.cE (.int .i64) (.var (g+9)))],todo:=BK P u.fB 0,n:=g+10,
   pre:=[(g+2,.cells u.tL [.cE (.sl u.tT) (.var (g+8))] 0 false false),
    (g,.loop .ready none u.fP u.ntP [(3,.ptr (g+3) 0)] [30,31] (j8 P u.fP 0).1 (j8 P u.fP 0).2 (g+1)),(g+1,.fV []),
    (g+3,.cells u.tL [.iI (g+4) (.var (g+5)) (.var (g+6))] 0 false false),(g+4,.vec u.tT (.var (g+7)))],
   facts:=[.rel x false b [.var (g+5),.var (g+7),.var (g+8),.var (g+9)]],
   outs:=[M3 P u a (g+10) (g+11) 4,M3 P u a (g+4) (g+10) 3] }
def GC(P:Program)(u:EG)(st:LoopState)(pe:Option Code)(e:Int):ee:=
 let g:=u.nG
 { res:=.ji [],post:=[(g,.loop st pe u.fC u.ntC [(2,.ptr (g+5) 0),(3,.ptr (g+4) 0)] [7] (j8 P u.fC 0).1 (j8 P u.fC 0).2 (g+1)),(g+1,.fV []),
    (g+4,.cells u.tI [.cE (.int .i64) (.var (g+10))] 0 false false),(g+5,.cells u.tE [.int .i64 e] 0 false false)],facts:=[],m:=1 }
def a1e(P:Program)(u:EG)(x:String)(a:PD):bX:=
 let g:=u.nG
 { fn:=u.fP,nt:=u.ntP,round:=none,t:=[(0,.yield g),(3,.ptr (g+2) 0)],todo:=BK P u.fP 0,n:=g+10,
   pre:=[(g+2,.cells u.tL [.iI (g+3) (.var (g+6)) (.var (g+7))] 0 false false),(g+3,.vec u.tT (.var (g+8))),
    (g,.loop .ready none u.fC u.ntC [(2,.ptr (g+5) 0),(3,.ptr (g+4) 0)] [7] (j8 P u.fC 0).1 (j8 P u.fC 0).2 (g+1)),(g+1,.fV []),
    (g+4,.cells u.tI [.cE (.int .i64) (.var (g+9))] 0 false false),(g+5,.cells u.tE [.int .i64 0] 0 false false)],
   facts:=[.rel x false a [.var (g+6),.var (g+8)]],
   outs:=[GC P u .ready none 0,GC P u .done (some .ret) 2] }
def a1i(P:Program)(u:EG)(pT:PD):bX:=
 let g:=u.nG
 { fn:=u.fC,nt:=u.ntC,round:=none,t:=[(0,.agg [.cE (.int .i64) (.var g),.cE (.int .i64) (.var (g+1)),.cE .str (.var (g+2)),.cE (.sl u.tT) (.var (g+3))])],todo:=Dm P u.fC,n:=g+4,pre:=[],
   facts:=[.rel "" false pT [.var g,.var (g+1),.var (g+2),.var (g+3)]],
   outs:=[{ res:=.int .i64 0,post:=[],facts:=[],m:=0 },{ res:=.int .i64 2,post:=[],facts:=[],m:=0 },{ res:=.int .i64 3,post:=[],facts:=[],m:=0 }] }
def kb(P:Program)(u:EG)(f n:Nat)(x:String)(a:PD):bX:=
 let g:=u.nG
 { fn:=f,nt:=n,round:=none,t:=[(0,.cE (.sl u.tT) (.var g)),(1,.cE (.sl u.tT) (.var (g+1)))],todo:=Dm P f,n:=g+2,pre:=[],
   facts:=[.rel x false a [.var g,.var (g+1)]],outs:=[{ res:=.bool true,post:=[],facts:=[],m:=0 }] }
def gN(P:Program)(u:EG)(f n:Nat)(x:String)(a:PD):bX:=
 let g:=u.nG
 { fn:=f,nt:=n,round:=none,t:=[(0,.cE (.sl u.tT) (.var g)),(1,.cE (.sl u.tT) (.var (g+1))),(5,.cE (.int .i64) (.var (g+2)))],todo:=BK P f 0,n:=g+3,pre:=[],
   facts:=[.rel x false a [.var g,.var (g+1),.var (g+2)],.inr (.var (g+2)) (.int .i64 (.ofNat 1073741825)),.tr (.a2 (.bin .eql) (.a1 .len (.var g)) (.a1 .len (.var (g+1))))],
   outs:=[{ res:=.bool true,post:=[],facts:=[],m:=0 }] }
def P9(P:Program)(u:EG)(a c:PD)(b n m:Nat):ee:=
 { M3 P u a b n m with facts:=[.rel "" false a [.var n,.var (n+2)],.rel "" false c [.var n,.var (n+2),.var (u.nG+5),.var (u.nG+7),.var (u.nG+8),.var (u.nG+9)]] }
def gO(P:Program)(u:EG)(x:String)(c a b:PD):bX:=
 { a4x P u x c a with outs:=[P9 P u a b (u.nG+10) (u.nG+11) 4,P9 P u a b (u.nG+4) (u.nG+10) 3] }
def fD(P:Program)(u:EG)(x:String)(a pS b c:PD):bX:=
 { a1e P u x a with
   facts:=[.rel x false a [.var (u.nG+6),.var (u.nG+8)],.rel "" false pS [.var (u.nG+6),.var (u.nG+8)],.rel "" false b [.var (u.nG+9),.var (u.nG+6),.var (u.nG+8)]],
   outs:=[{ GC P u .ready none 0 with facts:=[.rel "" false c [.var (u.nG+10),.var (u.nG+9),.var (u.nG+6),.var (u.nG+8)]] }] }
section tries
variable{α:Type}
theorem Tr.get_nil (i:Nat):(Tr.nil:Tr α).get i=none:=rfl
theorem Tr.qo (v:Option α) (l r:Tr α) (n:Nat):
  (Tr.node v l r).get (n+1)=if n%2=0 then l.get (n/2)else r.get (n/2):=by
 show@Bool.rec (λ_=>Option α) (r.get (Nat.div n 2)) (l.get (Nat.div n 2)) (Nat.beq (Nat.mod n 2) 0)=_;by_cases h:n%2=0
 .have:Nat.beq (Nat.mod n 2) 0=true:=by rw[show Nat.mod n 2=0 from h];rfl
  rw[this,aJ h];rfl
 .have:Nat.beq (Nat.mod n 2) 0=false:=by
    cases a:Nat.beq (Nat.mod n 2) 0
    .rfl
    .exact absurd (bj a) h
  rw[this,av h];rfl
theorem Tr.Ny (x:Option α) (f:Nat) (t:Tr α):
  Tr.Nj x (f+1) 0 t=match t with| .nil=>.node x .nil .nil| .node _ l r=>.node x l r:=by
 cases t<;>rfl
theorem Tr.vA (x:Option α) (f n:Nat) (t:Tr α):
  Tr.Nj x (f+1) (n+1) t=if n%2=0 then
    (match t with| .nil=>.node none (Tr.Nj x f (n/2) .nil) .nil| .node v l r=>.node v (Tr.Nj x f (n/2) l) r)
    else(match t with| .nil=>.node none .nil (Tr.Nj x f (n/2) .nil)| .node v l r=>.node v l (Tr.Nj x f (n/2) r)):=by
 have key:Tr.Nj x (f+1) (n+1) t=@Bool.rec (λ_=>Tr α)
  (@Tr.rec α (λ_=>Tr α) (.node none .nil (Tr.Nj x f (Nat.div n 2) .nil)) (λv l r _ _=>.node v l (Tr.Nj x f (Nat.div n 2) r)) t)
  (@Tr.rec α (λ_=>Tr α) (.node none (Tr.Nj x f (Nat.div n 2) .nil) .nil) (λv l r _ _=>.node v (Tr.Nj x f (Nat.div n 2) l) r) t)
  (Nat.beq (Nat.mod n 2) 0):=rfl
 rw[key];by_cases h:n%2=0
 .have:Nat.beq (Nat.mod n 2) 0=true:=by rw[show Nat.mod n 2=0 from h];rfl
  rw[this,aJ h];cases t<;>rfl
 .have:Nat.beq (Nat.mod n 2) 0=false:=by
    cases a:Nat.beq (Nat.mod n 2) 0
    .rfl
    .exact absurd (bj a) h
  rw[this,av h];cases t<;>rfl
theorem Tr.KW (x y:Option α):∀(f i:Nat)(t:Tr α),Tr.Nj x f i (Tr.Nj y f i t)=Tr.Nj x f i t
 |0,_,_=>rfl
 |f+1,0,t=>by cases t<;>rfl
 |f+1,n+1,t=>by
  by_cases a:n%2=0
  .simp only[Tr.vA,aJ a];cases t<;>simp only[Tr.KW x y f]
  .simp only[Tr.vA,av a];cases t<;>simp only[Tr.KW x y f]
theorem Tr.set_set (t:Tr α) (i:Nat) (x y:α):(t.set i x).set i y=t.set i y:=Tr.KW _ _ _ _ _
theorem Tr.o4 (x:Option α):∀(f i:Nat)(t:Tr α),i<f->(Tr.Nj x f i t).get i=x
 |0,_,_,h=>absurd h (qO _)
 |f+1,0,t,_=>by rw[Tr.Ny];cases t<;>rfl
 |f+1,n+1,t,h=>by
  rw[Tr.vA];have b:n/2<f:=by omega
  by_cases a:n%2=0
  .rw[aJ a];cases t<;>(simp only[Tr.qo,aJ a];exact Tr.o4 x f _ _ b)
  .rw[av a];cases t<;>(simp only[Tr.qo,av a];exact Tr.o4 x f _ _ b)
theorem Tr.nw (x:Option α):∀(f i j:Nat)(t:Tr α),i≠j->(Tr.Nj x f i t).get j=t.get j
 |0,_,_,_,_=>rfl
 |f+1,0,0,_,h=>absurd rfl h
 |f+1,0,j+1,t,_=>by rw[Tr.Ny];cases t<;>simp[Tr.qo,Tr.get_nil]
 |f+1,n+1,0,t,_=>by
  rw[Tr.vA];split<;>cases t<;>rfl
 |f+1,n+1,m+1,t,h=>by
  rw[Tr.vA];by_cases c:n%2=0
  .rw[aJ c];by_cases b:m%2=0
   .have a:n/2≠m/2:=by omega
    cases t<;>simp only[Tr.qo,aJ b,Tr.nw x f _ _ _ a,Tr.get_nil]
   .grind[Tr.qo,Tr.get_nil]
  .rw[av c];by_cases b:m%2=0
   .grind[Tr.qo,Tr.get_nil]
   .have a:n/2≠m/2:=by omega
    cases t<;>simp only[Tr.qo,av b,Tr.nw x f _ _ _ a,Tr.get_nil]
theorem Tr.get_set_same (t:Tr α) (i:Nat) (x:α):(t.set i x).get i=some x:=Tr.o4 _ _ _ _ (Nat.lt_succ_self i)
theorem Tr.get_set_other (t:Tr α) {i j:Nat} (x:α) (h:i≠j):(t.set i x).get j=t.get j:=Tr.nw _ _ _ _ _ h
theorem Tr.bY (t:Tr α) (i j:Nat) (x:α):(t.set i x).get j=if i=j then some x else t.get j:=by grind[Tr.get_set_same,Tr.get_set_other]
theorem Tr.xI (t:Tr α) (i j:Nat):(t.del i).get j=if i=j then none else t.get j:=by
 split
 .next h=>subst h;exact Tr.o4 _ _ _ _ (Nat.lt_succ_self i)
 .next h=>exact Tr.nw _ _ _ _ _ h
theorem Tr.Lc (x:α) (xs:List α) (i:Nat) (t:Tr α):Tr.lg (x::xs) i t=Tr.lg xs (i+1) (t.set i x):=rfl
theorem Tr.wA:∀(l:List α)(k j:Nat)(t:Tr α),(Tr.lg l k t).get j=if k<=j/\j<k+l.length then l[j-k]? else t.get j
 | [],k,j,t=>by
   rw[av (by simp only[c7];omega)];rfl
 |x::xs,k,j,t=>by
  rw[Tr.Lc,Tr.wA xs (k+1) j];by_cases I:k+1<=j/\j<k+1+xs.length
  .grind
  .grind[Tr.bY]
theorem Tr.eP (l:List α) (j:Nat):(Tr.ofList l).get j=l[j]? :=by grind[Tr.ofList,Tr.wA,Tr.get_nil]
theorem wg:∀(l:List α)(i:Nat),nth l i=l[i]?
 | [],i=>by simp[nth]
 |x::l,0=>by simp[nth]
 |x::l,i+1=>by simp[nth,wg l i]
end tries
structure Loc where
 aO:Nat
 dl:Nat
 cp:Nat
 v:Option Dt
abbrev G:=Nat->Option Loc
def Ex:Value->Bool
 | .agg _=>false
 | .tuple _=>false
 |_=>true
def okV(r:R AV):Option Dt:=
 match r with
 | .ok v=>match v with
   | .int k n=>some (.val (.int k n))
   | .bool b=>some (.val (.bool b))
   | .str s=>some (.val (.string ⟨⟨s⟩⟩))
   |_=>none
 |_=>none
def fj(op:BinOp):Value->Value->Option Dt
 | .int k x,.int k' y=>match bS op with
   |true=>okV (oS op k x y)
   |false=>if k=k' then okV (bM op k x y)else none
 | .string x,.string y=>okV (mb op x.data.toList y.data.toList)
 |_,_=>none
def FJ:Kd->Nat->Dt
 | .int k,_=>.val (.int k 0)
 | .bool,_=>.val (.bool false)
 | .str,_=>.val (.string ⟨⟨[]⟩⟩)
 | .sl t,g=>.sl (.slice none 0 0) t g []
 | .any,_=>.val (.bool false)
 | .ptr _ _,_=>.val (.bool false)
 | .WI,_=>.val (.bool false)
def kO:List Kd->List Nat->List Dt
 | [],_=>[]
 |k::l,[]=>FJ k 0::kO l []
 |k::l,n::m=>FJ k n::kO l m
def jF(z:List Dt):Nat->List Dt
 |0=>[]
 |n+1=>z++jF z n
def fw(l:List UInt8):List Dt:=l.map λb=>.val (.int .u8 b.toNat)
def lK:List Dt->Option (List UInt8)
 | []=>some []
 |d::l=>match d with
  | .val (.int .u8 n)=>(lK l).map λr=>UInt8.ofNat n.toNat::r
  |_=>none
def e1(o:Vn)(x:Dt):Option Dt:=
 match o with
 | .un op=>match x with
   | .val (.int k n)=>okV (a4a op (.int k n))
   | .val (.bool b)=>okV (a4a op (.bool b))
   |_=>none
 | .conv k=>match x with
   | .val (.int _ n)=>some (.val (.int k (k.wrap n)))
   |_=>none
 | .len=>match x with
   | .val (.string s)=>some (.val (.int .i64 s.size))
   | .sl (.slice _ n _) _ _ _=>some (.val (.int .i64 n))
   |_=>none
 | .isNil=>match x with
   | .sl (.slice none _ _) _ _ _=>some (.val (.bool true))
   | .sl (.slice (some _) _ _) _ _ _=>some (.val (.bool false))
   |_=>none
 | .off n=>match x with
   | .pt (.pointer (some a)) t g J i k=>some (.pt (.pointer (some { a with off:=a.off+n })) t g J i (k+n))
   |_=>none
 | .ld n=>match x with
   | .pt _ _ _ J i k=>J[i+k+n]?
   |_=>none
 | .nl P=>some (.ls P [])
 | .ns t g=>some (.sl (.slice none 0 0) t g [])
 | .zs P szs=>match x with
   | .val (.int _ (.ofNat n))=>if P.all Qv then some (.ls P (jF (kO P szs) n))else none
   |_=>none
 | .sb=>match x with
   | .val (.string s)=>some (.ls [.int .u8] (fw s.data.toList))
   |_=>none
 | .bs=>match x with
   | .ls _ J=>(lK J).map λl=>.val (.string ⟨⟨l⟩⟩)
   |_=>none
 |_=>none
def Kd.fits:Kd->Dt->Prop
 | .any,d=>Ex d.v=true
 | .int k,d=>∃n,d=.val (.int k n)
 | .bool,d=>∃b,d=.val (.bool b)
 | .str,d=>∃s,d=.val (.string s)
 | .sl t,d=>∃a n c g J,d=.sl (.slice a n c) t g J
 | .ptr t k,d=>∃a g J i,d=.pt (.pointer (some a)) t g J i k
 | .WI,d=>∃v,d=.val v/\(v=.nilIface\/∃t u,v=.iface t u)
open Classical in
def e2(o:Vn)(x y:Dt):Option Dt:=
 match o with
 | .bin op=>match x,y with
   | .val u,.val v=>fj op u v
   |_,_=>none
 | .idx=>match x,y with
   | .val (.string s),.val (.int _ (.ofNat i))=>(s.data.toList[i]?).map λb=>.val (.int .u8 b.toNat)
   |_,_=>none
 | .el=>match x,y with
   | .sl (.slice (some a) n _) t g J,.val (.int _ (.ofNat i))=>if i<n then some (.pt (.pointer (some ⟨a.block,a.off+i*g,none⟩)) t g J (i*g) 0)else none
   |_,_=>none
 | .tk g=>match x,y with
   | .ls P J,.val (.int _ (.ofNat n))=>if n*g<=J.length then some (.ls P (J.take (n*g)))else none
   |_,_=>none
 | .sn=>match x with
   | .ls P J=>if∃k,P[J.length%P.length]? =some k/\k.fits y then some (.ls P (J++[y]))else none
   |_=>none
 | .at g k=>match x,y with
   | .ls _ J,.val (.int _ (.ofNat i))=>J[i*g+k]?
   |_,_=>none
 | .cat=>match x,y with
   | .ls P J,.ls c lS=>if P=[.int .u8]/\c=[.int .u8]then some (.ls P (J++lS))else none
   |_,_=>none
 |_=>none
open Classical in
def e3(o:Vn)(x y z:Dt):Option Dt:=
 match o with
 | .up g k=>match x,y with
   | .ls P J,.val (.int _ (.ofNat i))=>if i*g+k<J.length/\∃q,P[(i*g+k)%P.length]? =some q/\q.fits z then some (.ls P (J.set (i*g+k) z))else none
   |_,_=>none
 | .sub=>match x,y,z with
   | .val (.string s),.val (.int _ lo),.val (.int _ V)=>some (.val (.string ⟨⟨(s.data.toList.take V.toNat).drop lo.toNat⟩⟩))
   |_,_,_=>none
 | .ite=>match x with
   | .val (.bool b)=>some (if b then y else z)
   |_=>none
 |_=>none
def ax(E:G):SE->Option Dt
 | .var i=>(E i).bind λl=>l.v
 | .int k n=>some (.val (.int k n))
 | .bool b=>some (.val (.bool b))
 | .str s=>some (.val (.string ⟨⟨s⟩⟩))
 | .a1 o x=>(ax E x).bind (e1 o)
 | .a2 o x y=>(ax E x).bind λu=>(ax E y).bind (e2 o u)
 | .a3 o x y z=>(ax E x).bind λu=>(ax E y).bind λv=>(ax E z).bind (e3 o u v)
def jj(E:G):List SE->Option (List Dt)
 | []=>some []
 |x::l=>(ax E x).bind λd=>(jj E l).map λr=>d::r
open Classical in
def Kd.see (k:Kd) (d:Dt):Option Value:=if k.fits d then some d.v else none
def Fact.holds (E:G):Fact->Prop
 | .tr e=>ax E e=some (.val (.bool true))
 | .fl e=>ax E e=some (.val (.bool false))
 | .inr i n=>∃k a m,ax E i=some (.val (.int k a))/\ax E n=some (.val (.int .i64 m))/\0<=a/\a<m
 | .rel _ false p l=>∃ds,jj E l=some ds/\p ds
 | .rel _ true p l=>¬∃ds,jj E l=some ds/\p ds
def Fact.pos:Fact->Bool
 | .rel _ b _ _=> !b
 |_=>true
def Yd(l:Loc):Dt->Dt->Option Value
 | .val (.int .i64 (.ofNat n)),.val (.int .i64 (.ofNat c))=>if n<=c/\c<=l.cp then some (.slice (some ⟨l.aO,l.dl,none⟩) n c)else none
 |_,_=>none
def Nt(l:Loc)(g k:Nat):Dt->Option Value
 | .val (.int _ (.ofNat i))=>if i<l.cp then some (.pointer (some ⟨l.aO,l.dl+(i*g+k),none⟩))else none
 |_=>none
mutual
def ai(E:G):AV->Option Value
 | .int k n=>some (.int k n)
 | .bool b=>some (.bool b)
 | .str s=>some (.string ⟨⟨s⟩⟩)
 | .ptr b off=>(E b).map λl=>.pointer (some ⟨l.aO,l.dl+off,none⟩)
 | .uH=>some (.pointer none)
 | .sl b off len cap=>(E b).map λl=>.slice (some ⟨l.aO,l.dl+off,none⟩) len cap
 | .qY b pre e0 len g=>(E b).map λl=>.slice (some ⟨l.aO,l.dl+(if e0<l.cp then e0 else pre)*g,none⟩) len (l.cp-e0)
 | .dq=>some (.slice none 0 0)
 | .qf r=>(E r).map λl=>.map (some l.aO)
 | .ko=>some (.map none)
 | .fn f a b=>match lD f,aN E a,aN E b with
   |true,some a,some b=>some (.func f ⟨a⟩ ⟨b⟩)
   |_,_,_=>none
 | .yield l=>(E l).map λx=>.func (.yield x.aO) ⟨[]⟩ ⟨[]⟩
 | .vd=>some .nilFunc
 | .iface t v=>(ai E v).map λv=>.iface t v
 | .qc=>some .nilIface
 | .agg cs=>(aN E cs).map λl=>.agg ⟨l⟩
 | .ji vs=>(aN E vs).map λl=>.tuple ⟨l⟩
 | .fO=>none
 | .raw v=>some v
 | .cE k e=>(ax E e).bind k.see
 | .iI b n c=>(E b).bind λl=>(ax E n).bind λx=>(ax E c).bind λy=>Yd l x y
 | .jn b i g k=>(E b).bind λl=>(ax E i).bind λx=>Nt l g k x
def aN(E:G):List AV->Option (List Value)
 | []=>some []
 |v::l=>match ai E v,aN E l with
  |some a,some b=>some (a::b)
  |_,_=>none
end
theorem ja{E:G}{b:Nat}{n c:SE}{v:Value}(h:ai E (.iI b n c)=some v):∃l k q,E b=some l/\ax E n=some (.val (.int .i64 (.ofNat k)))/\ax E c=some (.val (.int .i64 (.ofNat q)))/\k<=q/\q<=l.cp/\v=.slice (some ⟨l.aO,l.dl,none⟩) k q:=by
 simp only[ai,cV]at h;obtain⟨l,a,x,Z,y,d,h⟩:=h;unfold Yd at h;split at h
 .grind
 .cases h
theorem tz{E:G}{b g k:Nat}{i:SE}{v:Value}(h:ai E (.jn b i g k)=some v):∃l q a,E b=some l/\ax E i=some (.val (.int a (.ofNat q)))/\q<l.cp/\v=.pointer (some ⟨l.aO,l.dl+(q*g+k),none⟩):=by
 simp only[ai,cV]at h;obtain⟨l,c,x,Z,h⟩:=h;unfold Nt at h;split at h
 .grind
 .cases h
theorem aL{E:G}{v:AV}{l:List AV}{r:List Value}:aN E (v::l)=some r↔∃a b,ai E v=some a/\aN E l=some b/\r=a::b:=by grind[aN,ai]
theorem bJ{E:G}:∀{l:List AV}{r:List Value},aN E l=some r->r.length=l.length
 | [],_,h=>by simp[aN]at h;subst h;rfl
 |v::l,r,h=>by
  obtain⟨a,b,_,c,rfl⟩:=aL.1 h;simp[bJ c]
theorem mK{E:G}:∀{l:List AV}{r:List Value}(i:Nat)(v:AV),aN E l=some r->l[i]? =some v->∃c,ai E v=some c/\r[i]? =some c
 | [],_,i,v,_,V=>by simp at V
 |x::l,r,i,v,h,V=>by
  obtain⟨a,b,d,e,rfl⟩:=aL.1 h;cases i with
  |zero=>simp at V;subst V;exact⟨a,d,by simp⟩
  |succ i=>simpa using mK i v e (by simpa using V)
theorem eU{E:G}:∀{l m:List AV}{r s:List Value},aN E l=some r->aN E m=some s->aN E (l++m)=some (r++s)
 | [],m,r,s,h,c=>by simp[aN]at h;subst h;simpa using c
 |x::l,m,r,s,h,c=>by
  obtain⟨a,b,d,e,rfl⟩:=aL.1 h;exact aL.2 ⟨a,b++s,d,eU e c,rfl⟩
theorem Ae{E:G}:∀{l:List AV}{r:List Value}(n:Nat),aN E l=some r->aN E (l.take n)=some (r.take n)
 |_,_,0,_=>by simp[aN]
 | [],r,n+1,h=>by simp[aN]at h;subst h;simp[aN]
 |x::l,r,n+1,h=>by
  obtain⟨a,b,c,d,rfl⟩:=aL.1 h;exact aL.2 ⟨a,_,c,Ae n d,rfl⟩
theorem Af{E:G}:∀{l:List AV}{r:List Value}(n:Nat),aN E l=some r->aN E (l.drop n)=some (r.drop n)
 |_,_,0,h=>by simpa using h
 | [],r,n+1,h=>by simp[aN]at h;subst h;simp[aN]
 |x::l,r,n+1,h=>by
  obtain⟨a,b,d,c,rfl⟩:=aL.1 h;simpa using Af n c
def Loc.same (l O:Loc):Prop:=O.aO=l.aO/\O.dl=l.dl/\(O.cp,O.v)=(l.cp,l.v)
def Grow(E A:G):Prop:=∀id l,E id=some l->∃O,A id=some O/\l.same O
theorem Grow.refl (E:G):Grow E E:=λ_ l h=>⟨l,h,rfl,rfl,rfl⟩
theorem Grow.trans {a b c:G} (h:Grow a b) (h':Grow b c):Grow a c:=λid l d=>by
 obtain⟨e,e1,s1⟩:=h id l d;obtain⟨f,e2,s2⟩:=h' id e e1;exact⟨f,e2,s2.1.trans s1.1,s2.2.1.trans s1.2.1,s2.2.2.trans s1.2.2⟩
theorem ek{E:G}{k:Kd}{e:SE}{c:Value}(h:ai E (.cE k e)=some c):∃d,ax E e=some d/\k.fits d/\c=d.v:=by grind[ai,Kd.see,Option.bind_eq_some_iff]
theorem a0I{k:Kd}{d:Dt}(h:k.fits d):Ex d.v=true:=by
 cases k with
 |any=>exact h
 |int k=>obtain⟨n,rfl⟩:=h;rfl
 |bool=>obtain⟨n,rfl⟩:=h;rfl
 |str=>obtain⟨n,rfl⟩:=h;rfl
 |sl t=>obtain⟨a,n,c,g,J,rfl⟩:=h;rfl
 |ptr t k=>obtain⟨a,g,J,i,rfl⟩:=h;rfl
 |WI=>obtain⟨v,rfl,h⟩:=h;rcases h with rfl|⟨t,u,rfl⟩<;>rfl
theorem PU{E:G}{k:Kd}{e:SE}{c:Value}(h:ai E (.cE k e)=some c):Ex c=true:=by grind[ek,a0I]
theorem ir{E:G}{k:Kd}{e:SE}{d:Dt}(h:ax E e=some d)(a:k.fits d):ai E (.cE k e)=some d.v:=by grind[ai,Kd.see]
theorem bG{E A:G}(h:Grow E A):∀(e:SE)(d:Dt),ax E e=some d->ax A e=some d
 | .var i,d,e=>by
   simp only[ax,cV]at e ⊢;obtain⟨l,f,e⟩:=e;obtain⟨O,b,s1,s2,g⟩:=h i l f;exact⟨O,b,by rw[(ub g).2];exact e⟩
 | .int _ _,d,e| .bool _,d,e| .str _,d,e=>e
 | .a1 o x,d,e=>by
   simp only[ax,cV]at e ⊢;obtain⟨u,a,e⟩:=e;exact⟨u,bG h x u a,e⟩
 | .a2 o x y,d,e=>by
   simp only[ax,cV]at e ⊢;obtain⟨u,a,v,c,e⟩:=e;exact⟨u,bG h x u a,v,bG h y v c,e⟩
 | .a3 o x y z,d,e=>by
   simp only[ax,cV]at e ⊢;obtain⟨u,a,v,c,q,j,e⟩:=e;exact⟨u,bG h x u a,v,bG h y v c,q,bG h z q j,e⟩
theorem TG{E A:G}(h:Grow E A):∀(l:List SE)(r:List Dt),jj E l=some r->jj A l=some r
 | [],r,e=>e
 |x::l,r,e=>by
  simp only[jj,cV,bk]at e ⊢;obtain⟨d,a,q,b,e⟩:=e;exact⟨d,bG h x d a,q,TG h l q b,e⟩
theorem Fact.WJ {E A:G} (h:Grow E A):∀{f:Fact},f.pos=true->f.holds E->f.holds A
 | .tr e,_,b=>bG h _ _ b
 | .fl e,_,b=>bG h _ _ b
 | .inr i n,_,⟨k,a,m,I,Y,W⟩=>⟨k,a,m,bG h _ _ I,bG h _ _ Y,W⟩
 | .rel _ false p l,_,⟨ds,I,Y⟩=>⟨ds,TG h _ _ I,Y⟩
 | .rel _ true p l,c,_=>by cases c
mutual
theorem gL{E A:G}(h:Grow E A):∀(v:AV)(c:Value),ai E v=some c->ai A v=some c
 | .int _ _,c,e| .bool _,c,e| .str _,c,e| .uH,c,e| .dq,c,e| .ko,c,e| .vd,c,e| .qc,c,e| .raw _,c,e=>by
   simpa[ai]using e
 | .fO,c,e=>by simp[ai]at e
 | .cE k i,c,e=>by grind[ai,bG,Option.bind_eq_some_iff]
 | .iI b n c',c,e=>by
   simp only[ai,cV]at e ⊢;obtain⟨l,j,x,Z,y,r,e⟩:=e;obtain⟨O,d,s1,s2,m⟩:=h b l j;refine⟨O,d,x,bG h n x Z,y,bG h c' y r,?_⟩;rw[<-e];unfold Yd;rw[s1,s2,(ub m).1]
 | .jn b i g k,c,e=>by
   simp only[ai,cV]at e ⊢;obtain⟨l,j,x,Z,e⟩:=e;obtain⟨O,d,s1,s2,m⟩:=h b l j;refine⟨O,d,x,bG h i x Z,?_⟩;rw[<-e];unfold Nt;rw[s1,s2,(ub m).1]
 | .ptr b off,c,e=>by
   simp only[ai,bk]at e ⊢;obtain⟨l,j,rfl⟩:=e;obtain⟨O,d,s1,s2,m⟩:=h b l j;exact⟨O,d,by rw[s1,s2]⟩
 | .sl b off len cap,c,e=>by
   simp only[ai,bk]at e ⊢;obtain⟨l,j,rfl⟩:=e;obtain⟨O,d,s1,s2,m⟩:=h b l j;exact⟨O,d,by rw[s1,s2]⟩
 | .qY b pre e0 len g,c,e=>by
   simp only[ai,bk]at e ⊢;obtain⟨l,j,rfl⟩:=e;obtain⟨O,d,s1,s2,m⟩:=h b l j;exact⟨O,d,by rw[s1,s2,(ub m).1]⟩
 | .qf b,c,e=>by
   simp only[ai,bk]at e ⊢;obtain⟨l,j,rfl⟩:=e;obtain⟨O,d,s1,s2,m⟩:=h b l j;exact⟨O,d,by rw[s1]⟩
 | .yield b,c,e=>by
   simp only[ai,bk]at e ⊢;obtain⟨l,j,rfl⟩:=e;obtain⟨O,d,s1,s2,m⟩:=h b l j;exact⟨O,d,by rw[s1]⟩
 | .fn f a b,c,e=>by
   simp only[ai]at e ⊢;cases o:lD f with
   |false=>simp[o]at e
   |true=>
    cases p:aN E a with
    |none=>simp[o,p]at e
    |some x=>
     cases q:aN E b with
     |none=>simp[o,p,q]at e
     |some y=>simp only[o,p,q,mL h a x p,mL h b y q]at e ⊢;exact e
 | .iface t v,c,e=>by
   simp only[ai,bk]at e ⊢;obtain⟨x,Z,rfl⟩:=e;exact⟨x,gL h v x Z,rfl⟩
 | .agg cs,c,e=>by
   simp only[ai,bk]at e ⊢;obtain⟨x,Z,rfl⟩:=e;exact⟨x,mL h cs x Z,rfl⟩
 | .ji cs,c,e=>by
   simp only[ai,bk]at e ⊢;obtain⟨x,Z,rfl⟩:=e;exact⟨x,mL h cs x Z,rfl⟩
theorem mL{E A:G}(h:Grow E A):∀(l:List AV)(r:List Value),aN E l=some r->aN A l=some r
 | [],r,e=>by simpa[aN]using e
 |v::l,r,e=>by
  obtain⟨a,b,c,d,rfl⟩:=aL.1 e;exact aL.2 ⟨a,b,gL h v a c,mL h l b d,rfl⟩
end
def R.path {α:Type} (r:R α) (Q:α->Prop):Prop:=
 match r with
 | .ok a=>Q a
 | .bad _=>True
 | .ask n k=>∃i,i<n/\(k i).path Q
 | .must pc k=>(∃E:G,∀f∈pc,f.holds E)\/k.path Q
theorem R.bg {α:Type} (w:String) (Q:α->Prop):(R.bad w:R α).path Q:=trivial
theorem R.aZ {α:Type} {Q c:α->Prop} (h:∀a,Q a->c a):∀{r:R α},r.path Q->r.path c
 | .ok _,b=>h _ b
 | .bad _,_=>trivial
 | .ask _ _,⟨i,V,b⟩=>⟨i,V,R.aZ h b⟩
 | .must _ _,b=>b.imp id λb=>R.aZ h b
theorem R.s6 {α j:Type} {Q:j->Prop} {f:α->R j}:∀{r:R α},r.path (λa=>(f a).path Q)->(r.bind f).path Q
 | .ok _,h=>h
 | .bad _,_=>trivial
 | .ask _ _,⟨i,V,h⟩=>⟨i,V,R.s6 h⟩
 | .must _ _,h=>h.imp id λh=>R.s6 h
theorem R.pb {α j:Type} {Q:j->Prop} {f:α->R j} {r:R α} (P:α->Prop) (h:r.path P) (b:∀a,P a->(f a).path Q):(r.bind f).path Q:=
 R.s6 (R.aZ b h)
theorem R.bR {α j:Type} {Q:j->Prop} {f:α->R j} {r:R α} (P:α->Prop) (h:r.path P) (b:∀a,P a->(f a).path Q):(r>>=f).path Q:=
 R.s6 (R.aZ b h)
theorem R.hN {α:Type} (Ya:String) (o:Option α):(R.yn Ya o).path (λa=>o=some a):=by cases o<;>simp[R.yn,R.path]
theorem R.bf (b:Bool) (Ya:String):(cq b Ya).path (λ_=>b=true):=by cases b<;>simp[cq,R.path]
def VR(E:G)(v:AV)(c:Value):Prop:=v=.fO\/ai E v=some c
def oM(E:G)(d:AD):Option Deferred:=
 match ai E d.target,aN E d.args with
 |some (.func f a b),some l=>some { target:=.fn f b,args:=a++⟨l⟩ }
 |_,_=>none
def hU(E:G):List AD->Option (List Deferred)
 | []=>some []
 |d::l=>match oM E d,hU E l with
  |some a,some b=>some (a::b)
  |_,_=>none
def aW(E:G)(nt:Nat)(t:Tr AV)(a:Array Value):Prop:=
 a.size=nt/\(∀d v,t.get d=some v->d<nt/\∃c,a[d]? =some c/\VR E v c)/\(∀d,t.get d=none->a.getD d undef=undef)
def ez:gn->Bool
 | .cells _ _ _ _ _ st _=>st
 | .Ie _ _ _=>true
 |_=>false
def xP(E:G)(e:ME)(m:MapEntry):Prop:=
 ai E e.k=some m.key/\ai E e.v=some m.val/\m.born=e.born
def ep(E:G):List ME->List MapEntry->Prop
 | [],[]=>True
 |e::J,m::ms=>xP E e m/\ep E J ms
 |_,_=>False
def lf(C:Ctx)(t:TypeId):Nat:=(aA C t).length
def dC(C:Ctx)(E:G)(l:Loc):gn->Obj->Prop
 | .cells elem cs n fz _ st sg,o=>∃(vs:Array Value)(lo V:Nat),o=.cells vs elem (lo,V)/\l.dl+n<=vs.size/\
     (∀i v,i<n->cs.get i=some v->∃c,vs[l.dl+i]? =some c/\VR E v c)/\
     (∃i,C.T.get elem=some i/\n<=l.cp*i.size/\l.dl+l.cp*i.size<=vs.size/\∃q,l.dl=q*i.size)/\
     (st=false->∀off,lo<=off->off<V->off<l.dl+fz\/(sg=true/\vs.size<=off))/\lo<=V
 | .map J c,o=>∃(iZ:Array MapEntry),o=.map iZ c/\ep E J iZ.toList/\(∃d,∀e∈J,keyOf d e.k=true)
 | .Uo none _ _ _,o=>l.dl=0/\o=.mapIter none 0 #[] 0
 | .Uo (some m) since seen last,o=>l.dl=0/\∃(lm:Loc),E m=some lm/\o=.mapIter (some lm.aO) since ⟨seen.reverse⟩ last
 | .a5x s pos,o=>l.dl=0/\o=.stringIter ⟨⟨s⟩⟩ pos
 | .Ie elem k zs,o=>o=.cells ⟨zs.map (.int k)⟩ elem (0,0)
 | .fV none,o=>o=.deferred none
 | .fV (some ds),o=>∃l,hU E ds=some l/\o=.deferred (some l)
 | .vec elem e,o=>∃(vs:Array Value)(lo V:Nat)(J:List Dt),o=.cells vs elem (lo,V)/\ax E e=some (.ls (aA C elem) J)/\
     (∀j d,J[j]? =some d->vs[l.dl+j]? =some d.v)/\
     (∃i,C.T.get elem=some i/\i.size=lf C elem/\J.length<=l.cp*i.size/\l.dl+l.cp*i.size<=vs.size/\∃q,l.dl=q*i.size)/\
     (∀off,lo<=off->off<V->off<l.dl\/vs.size<=off)/\lo<=V
 | .loop st pending fn nt tmps params assign body defers,o=>∃(a:Array Value)(ld:Loc),aW E nt tmps a/\E defers=some ld/\
     o=.loop { state:=st,pending,fn,tmps:=a,params:=⟨params⟩,assign,body,defers:=ld.aO }
def gR(b:gn)(u:Nat)(N:gn)(l O:Loc):Prop:=
 match b,N with
 | .cells _ _ n _ gU _ _,.cells _ _ n' _ _ a _=>u∈gU/\a=true/\O.dl+n'<=l.dl+n
 |_,_=>False
def Live(E:G)(s:S)(k:Nat):Prop:=∃id b l,s.h.get id=some b/\ez b=false/\E id=some l/\l.aO=k
def lP(w:World)(F:Nat->Prop)(b o:Nat)(J:List Dt):Prop:=
 F b/\∃(vs:Array Value)(t:TypeId)(lo V:Nat),w.heap[b]? =some (.cells vs t (lo,V))/\∀(j:Nat)d,J[j]? =some d->vs[o+j]? =some d.v
mutual
def Dt.ej (C:Ctx) (w:World) (F:Nat->Prop):Dt->Prop
 | .val v=>Ex v=true
 | .sl v t g J=>(v=.slice none 0 0/\J=[])\/(g=lf C t/\(∃a n c,v=.slice (some a) n c/\J.length=n*g/\(n≠0->a.spot=none/\lP w F a.block a.off J))/\Dt.cu C w F (aA C t) 0 J)
 | .ls P J=>Dt.cu C w F P 0 J
 | .pt v t g J i k=>g=lf C t/\(∃a q r,v=.pointer (some a)/\a.spot=none/\i=q*g/\q<r/\J.length=r*g/\i+k<=a.off/\lP w F a.block (a.off-(i+k)) J)/\Dt.cu C w F (aA C t) 0 J
def Dt.cu (C:Ctx) (w:World) (F:Nat->Prop) (P:List Kd):Nat->List Dt->Prop
 |_,[]=>True
 |j,d::l=>(∃k,P[j%P.length]? =some k/\k.fits d)/\Dt.ej C w F d/\Dt.cu C w F P (j+1) l
end
def dD(C:Ctx)(E:G)(s:S)(w:World)(Z:Nat->Prop):Prop:=∀id l d,E id=some l->l.v=some d->d.ej C w λk=>k<w.heap.size/\¬Live E s k/\¬Z k
structure Rel(C:Ctx)(base:Nat)(E:G)(s:S)(w:World):Prop where
 aO:∀id b,s.h.get id=some b->∃l o,E id=some l/\w.heap[l.aO]? =some o/\dC C E l b o
 sep:∀id u b N l O,s.h.get id=some b->s.h.get u=some N->E id=some l->E u=some O->id≠u->l.aO=O.aO->
  gR b u N l O\/gR N id b O l
 new:∀id,s.next<=id->E id=none
 gm:∀g,g<C.nG->∃l,E g=some l/\l.aO=g/\l.dl=0
 low:∀id b l,s.h.get id=some b->E id=some l->l.aO<base->ez b=true
 bs:base<=w.heap.size
 pc:∀f∈s.pc,f.pos=true/\f.holds E
 rd:dD C E s w λ_=>False
structure vp(E:G)(s:S)(w M:World):Prop where
 size:w.heap.size<=M.heap.size
 tape:M.tape=w.tape
 os:M.os=w.os
 output:M.output=w.output
 stays:∀(k:Nat)(o:Obj),w.heap[k]? =some o->¬Live E s k->M.heap[k]? =some o
structure Step(C:Ctx)(base:Nat)(E:G)(s:S)(w:World)(A:G)(F:S)(M:World):Prop where
 grow:Grow E A
 rel:Rel C base A F M
 keep:vp E s w M
 live:∀k,Live A F k->k<w.heap.size->Live E s k
 next:s.next<=F.next
 Xi:∀id l,E id=some l->id<s.next
 Se:∀id O,A id=some O->(∃l,E id=some l)\/(s.next<=id/\(w.heap.size<=O.aO\/∃id0 b0 l0,s.h.get id0=some b0/\E id0=some l0/\l0.aO=O.aO))
 p0:∀id N,F.h.get id=some N->id<s.next->∃b,s.h.get id=some b
 rdz:∀Z:Nat->Prop,(∀k,Z k->k<w.heap.size/\¬Live E s k)->dD C E s w Z->dD C A F M Z
theorem Rel.lt {C:Ctx} {base:Nat} {E:G} {s:S} {w:World} (a:Rel C base E s w) {id:Nat} {l:Loc} (h:E id=some l):id<s.next:=by
 rcases ed id s.next with h'|h'
 .exact h'
 .rw[a.new id h']at h;cases h
theorem vp.refl (E:G) (s:S) (w:World):vp E s w w:=⟨bD _,rfl,rfl,rfl,λ_ _ h _=>h⟩
theorem Step.refl {C:Ctx} {base:Nat} {E:G} {s:S} {w:World} (a:Rel C base E s w):Step C base E s w E s w:=
 ⟨Grow.refl E,a,vp.refl E s w,λ_ h _=>h,bD _,λ_ _ h=>a.lt h,λ_ l h=>.inl ⟨l,h⟩,λ_ b h _=>⟨b,h⟩,λ_ _ h=>h⟩
theorem Step.trans {C:Ctx} {base:Nat} {E d g:G} {s q r:S} {w t w2:World} (h:Step C base E s w d q t) (h':Step C base d q t g r w2):
  Step C base E s w g r w2:=by
 refine⟨h.grow.trans h'.grow,h'.rel,⟨iG h.keep.size h'.keep.size,h'.keep.tape.trans h.keep.tape,h'.keep.os.trans h.keep.os,h'.keep.output.trans h.keep.output,?_⟩,?_,iG h.next h'.next,h.Xi,?_,?_,λZ i u=>h'.rdz Z (λk hk=>⟨kY (i k hk).1 h.keep.size,λa=>(i k hk).2 (h.live k a (i k hk).1)⟩) (h.rdz Z i u)⟩
 .intro k o hk j;have c:k<w.heap.size:=by grind
  exact h'.keep.stays k o (h.keep.stays k o hk j) (λa=>j (h.live k a c))
 .intro k a hk;exact h.live k (h'.live k a (kY hk h.keep.size)) hk
 .intro id v Y;have key:∀id f,d id=some f->(∃l,E id=some l)\/(s.next<=id/\(w.heap.size<=f.aO\/∃id0 b0 l0,s.h.get id0=some b0/\E id0=some l0/\l0.aO=f.aO)):=h.Se;rcases h'.Se id v Y with⟨f,I⟩|⟨j,V⟩
  .obtain⟨x,W,e1,_⟩:=h'.grow id f I;rw[Y]at W;obtain rfl:=ae W;rcases key id f I with hk|⟨m,e⟩
   .exact .inl hk
   .exact .inr ⟨m,by rw[e1];exact e⟩
  .refine .inr ⟨iG h.next j,?_⟩;rcases V with V|⟨id0,b0,l0,g1,g2,g3⟩
   .exact .inl (iG h.keep.size V)
   .rw[<-g3];rcases key id0 l0 g2 with⟨l,a⟩|⟨_,e⟩
    .obtain⟨b,n⟩:=h.p0 id0 b0 g1 (h.Xi id0 l a);obtain⟨y,W,e1,_⟩:=h.grow id0 l a;rw[g2]at W;obtain rfl:=ae W;exact .inr ⟨id0,b,l,n,a,e1.symm⟩
    .exact e
 .intro id N n c;obtain⟨z,p⟩:=h'.p0 id N n (kY c h.next);exact h.p0 id z p c
def aV(fi:FI)(ro:Option Nat)(tm:Array Value)(todo:List Item)(ds:List Deferred)(m:FrameMode):Frame:=
 { fn:=fi.fn,tmps:=tm,todo,defers:=ds,mode:=m,kind:=fi.kind,roundOf:=ro }
def rz(E:G):Option Nat->Option Nat->Prop
 |none,none=>True
 |some l,some b=>∃B,E l=some B/\B.aO=b
 |_,_=>False
def kF(E:G):cw->Option Item
 | .code c=>some (.code c)
 | .inBlock id=>some (.inBlock id)
 | .inLoop b=>some (.inLoop b)
 | .inScope b=>some (.inScope b)
 | .rf l=>(E l).map λB=>.inRangeFunc B.aO
 | .lI l=>(E l).map λB=>.endRangeFunc B.aO
 | .beginRound=>some .beginRound
def jc(E:G):List cw->Option (List Item)
 | []=>some []
 |x::l=>match kF E x,jc E l with
  |some a,some b=>some (a::b)
  |_,_=>none
def uX(E:G):jh->Option Deferred
 | .call d=>oM E d
 | .collected r=>(E r).map λB=>{ target:=.collected B.aO,args:=#[] }
def dY(tl:List Deferred)(E:G):List jh->Option (List Deferred)
 | []=>some tl
 |x::l=>match uX E x,dY tl E l with
  |some a,some b=>some (a::b)
  |_,_=>none
def kq(E:G)(p:PE):Option PanicEntry:=(ai E p.v).map λv=>{ v,recovered:=p.recovered }
def gM(E:G):List PE->Option (List PanicEntry)
 | []=>some []
 |x::l=>match kq E x,gM E l with
  |some a,some b=>some (a::b)
  |_,_=>none
def rB(E:G):n7->FrameMode->Prop
 | .run,m=>m=.run
 | .ret,m=>m=.returning
 | .gv ch,m=>∃c,gM E ch=some c/\m=.panicking c
def ga(E:G)(k:CallKind)(ctx:Option (List PE))(cs:List Frame):Prop:=
 match k with
 | .normal=>ctx=none
 | .deferred=>∃c rest,cs=c::rest/\(match ctx with|none=>c.mode=.returning|some ch=>∃a,gM E ch=some a/\c.mode=.panicking a)
 |_=>False
def cF(k:CallKind)(cs a:List Frame):Prop:=
 match k with
 | .normal=>a=cs
 |_=>∃c rest m,cs=c::rest/\a={ c with mode:=m }::rest
theorem cF.refl {k:CallKind} {E:G} {ctx:Option (List PE)} {cs:List Frame} (h:ga E k ctx cs):cF k cs cs:=by
 cases k with
 |normal=>rfl
 |deferred=>obtain⟨c,rest,rfl,_⟩:=h;exact⟨c,rest,c.mode,rfl,rfl⟩
 |_=>exact h.elim
theorem cF.trans {k:CallKind} {a b c:List Frame} (h:cF k a b) (h':cF k b c):cF k a c:=by
 cases k with
 |normal=>exact Eq.trans (show c=b from h') (show b=a from h)
 |_=>obtain⟨c1,d,m1,rfl,rfl⟩:=h;obtain⟨c2,r2,m2,Y,rfl⟩:=h';injection Y with W U;subst W;subst U;exact⟨c1,d,m2,rfl,rfl⟩
structure jg(C:Ctx)(base:Nat)(E:G)(fi:FI)(ro:Option Nat)(t:Tr AV)(todo:List cw)(ds:List jh)(mode:n7)(ctx:Option (List PE))(s:S)
  (tm:Array Value) (items:List Item) (ck:List Deferred) (m:FrameMode) (cs:List Frame) (w:World):Prop where
 rel:Rel C base E s w
 ro:rz E fi.roundOf ro
 tmps:aW E fi.nt t tm
 todo:mode=.run->jc E todo=some items
 defs:dY fi.tl E ds=some ck
 mode:rB E mode m
 ctx:ga E fi.kind ctx cs
 fn:∃fn,C.P.funcs[fi.fn]? =some fn
 rk:∀l,fi.roundOf=some l->fi.kind=.normal
def dK(C:Ctx)(base:Nat)(E:G)(s:S)(w:World)(fi:FI)(cs:List Frame)(m0:Machine)(o:Out):Prop:=
 ∃A M b,Step C base E s w A o.s M/\ga A fi.kind o.ctx b/\cF fi.kind cs b/\
  match o.res with
  | .ret v=>∃e,ai A v=some e/\
    (match fi.roundOf with
    |none=>∃a,Steps C.P m0 (lone a b M)/\a.fn=fi.fn/\a.kind=fi.kind/\a.mode=.returning/\a.defers=fi.tl/\∃fn,C.P.funcs[fi.fn]? =some fn/\(results fn a.tmps).run C.P M=.ok e M
    |some _=>∀c rest,b=c::rest->Steps C.P m0 (lone (c.finish e) rest M))
  | .gv ch=>∃d,gM A ch=some d/\∃a,Steps C.P m0 (lone a b M)/\a.fn=fi.fn/\a.mode=.panicking d/\a.defers=fi.tl
def Qm(C:Ctx)(fi:FI)(cs:List Frame)(m0:Machine)(M:World)(b:Value):Prop:=
 match fi.roundOf with
 |none=>∃a,Steps C.P m0 (lone a cs M)/\a.fn=fi.fn/\a.kind=fi.kind/\a.mode=.returning/\a.defers=fi.tl/\∃fn,C.P.funcs[fi.fn]? =some fn/\(results fn a.tmps).run C.P M=.ok b M
 |some _=>∀c rest,cs=c::rest->Steps C.P m0 (lone (c.finish b) rest M)
def adz(C:Ctx)(fi:FI)(cs:List Frame)(m0:Machine)(M:World)(b:Value):Prop:=
 ∃a,Steps C.P m0 (lone a cs M)/\a.fn=fi.fn/\a.mode=.panicking [{ v:=b,recovered:=false }]/\a.defers=fi.tl
def acj(C:Ctx)(fi:FI)(cs:List Frame)(m0:Machine)(M:World)(a:Value)(gv:Bool):Prop:=
 match gv with
 |false=>Qm C fi cs m0 M a
 |true=>adz C fi cs m0 M a
def bX.S (c:bX):S:=⟨NV Xg .var c.pre .nil,c.n,c.facts⟩
def bX.tr (c:bX):Tr AV:=Ir c.nt (AY Xg .var c.t)
def bX.fi (c:bX) (tl:List Deferred):FI:=⟨c.fn,c.nt,.normal,c.round,tl⟩
def Nd(P:Program)(c:bX)(base:Nat)(E:G)(m0:Machine)(tl:List Deferred)(cs:List Frame)(w:World):Prop:=
    ∃o,o∈c.outs/\∃(a:G)(j:S)(M:World)(b:Nat->Nat)(d:Nat->SE)(k:Value),
     Step (iD P (λ_=>false) []) base E c.S w a j M/\
     (∀i,i<c.n->b i=i/\d i=.var i)/\(∀i,c.n<=i->c.n<=b i)/\
     (∀x∈o.post,∃e g,j.h.get (b x.1)=some e/\ez e=false/\a (b x.1)=some g/\∀l,dC (iD P (λ_=>false) []) a g e l->dC (iD P (λ_=>false) []) a g (x.2.sub b d).aO l)/\
     (∀x∈o.post,∀y∈o.post,x.1≠y.1->b x.1≠b y.1)/\
     (∀i,c.n+o.m<=i->ax a (d i)=none)/\
     (∀f∈o.facts,f.pos=true/\(f.sub d).holds a)/\
     ai a (o.res.sub b d)=some k/\acj (iD P (λ_=>false) []) (c.fi tl) cs m0 M k o.gv
def fy(P:Program)(c:bX):Prop:=
 ∀(base:Nat)(E:G)(ro:Option Nat)(tl:List Deferred)(tm:Array Value)(items:List Item)(cs:List Frame)(w:World),
  jg (iD P (λ_=>false) []) base E (c.fi tl) ro c.tr c.todo [] .run none c.S tm items tl .run cs w->Nd P c base E (lone (aV (c.fi tl) ro tm items tl .run) cs w) tl cs w
def fY(C:Ctx)(base:Nat)(rec:Rec):Prop:=
 ∀(E:G)(fi:FI)(ro:Option Nat)(t:Tr AV)(todo:List cw)(ds:List jh)(mode:n7)(ctx:Option (List PE))(s:S)
  (tm:Array Value) (items:List Item) (ck:List Deferred) (m:FrameMode) (cs:List Frame) (w:World),
  jg C base E fi ro t todo ds mode ctx s tm items ck m cs w->
  (rec fi t todo ds mode ctx s).path (dK C base E s w fi cs (lone (aV fi ro tm items ck m) cs w))
theorem WZ{E:G}{v:AV}{c c':Value}(h:ai E v=some c)(h':ai E v=some c'):c=c':=by grind
mutual
theorem o5(E:G):∀v:Value,ai E (AV.ofConst v)=some v
 | .int _ _| .bool _| .nilFunc| .nilIface| .float _ _| .complex _ _ _| .chan _| .pointer (some _)=>by simp[AV.ofConst,ai]
 | .string s=>by cases s with|mk d=>cases d with|mk l=>simp[AV.ofConst,ai]
 | .pointer none=>by simp[AV.ofConst,ai]
 | .slice (some _) _ _=>by simp[AV.ofConst,ai]
 | .slice none 0 0=>by simp[AV.ofConst,ai]
 | .slice none 0 (n+1)=>by simp[AV.ofConst,ai]
 | .slice none (n+1) m=>by simp[AV.ofConst,ai]
 | .map none=>by simp[AV.ofConst,ai]
 | .map (some _)=>by simp[AV.ofConst,ai]
 | .func f ⟨[]⟩ ⟨[]⟩=>by
   simp only[AV.ofConst];cases h:lD f
   .simp[ai]
   .simp[ai,aN,h]
 | .func f ⟨a::l⟩ b=>by simp[AV.ofConst,ai]
 | .func f ⟨[]⟩ ⟨a::l⟩=>by simp[AV.ofConst,ai]
 | .iface t v=>by simp[AV.ofConst,ai,o5 E v]
 | .agg ⟨l⟩=>by simp[AV.ofConst,ai,lJ E l]
 | .tuple ⟨l⟩=>by simp[AV.ofConst,ai,lJ E l]
theorem lJ(E:G):∀l:List Value,aN E (AV.qb l)=some l
 | []=>by simp[AV.qb,aN]
 |v::l=>by simp[AV.qb,aN,o5 E v,lJ E l]
end
theorem DN(v:AV):(wi v).path (λx=>x=v/\v≠.fO):=by cases v<;>simp[wi,R.path]
theorem bO{C:Ctx}{base:Nat}{E:G}{s:S}{w:World}{nt:Nat}{t:Tr AV}{a:Act}(i:Rel C base E s w)(e:aW E nt t a.tmps)(x:Operand):
  (oL C t x).path (λv=>ai E v=some (a.eval x)):=by
 cases x with
 |tmp d=>
  show(@Option.rec AV (λ_=>R AV) (.ok (.ji [])) (λv=>wi v) (t.get d)).path _;cases h:t.get d with
  |none=>have:=e.2.2 d h;show ai E (.ji [])=some (a.tmps.getD d undef);rw[this];simp[ai,aN,undef]
  |some v=>
   obtain⟨_,c,j,b⟩:=e.2.1 d v h;refine R.aZ ?_ (DN v);rintro x ⟨rfl,k⟩;rcases b with b|b
   .exact absurd b k
   .rw[b];simp[Act.eval,oh,j]
 |const v=>exact o5 E v
 |global g=>
  show(@Bool.rec (λ_=>R AV) (.bad "") (.ok (.ptr g 0)) (Nat.blt g C.nG)).path _;cases h:Nat.blt g C.nG with
  |false=>trivial
  |true=>
   have m:g<C.nG:=by simpa[Nat.blt_eq]using h
   obtain⟨l,n,I,Y⟩:=i.gm g m;simp[R.path,ai,n,I,Y,Act.eval]
 |func f=>simp[oL,R.path,ai,aN,lD,Act.eval]
theorem vX{C:Ctx}{base:Nat}{E:G}{s:S}{w:World}{nt:Nat}{t:Tr AV}{a:Act}(c:Rel C base E s w)(d:aW E nt t a.tmps):
  ∀l:List Operand,(evL C t l).path (λvs=>aN E vs=some (l.map a.eval))
 | []=>by simp[evL,R.path,aN]
 |x::l=>by
  unfold evL;refine R.bR _ (bO c d x) λv e=>?_
  refine R.bR _ (vX c d l) λvs b=>?_
  exact aL.2 ⟨_,_,e,b,rfl⟩
def KT(P:Program):Bool:=P.types.toList.all λi=>match(Ey P.types i).desc with| .invalid=>false|_=>true
def a0P(fn:Func):Ext->Array Value->Sem Value
 | .BI=>Extern.AbiNoEscape.same
 | .indexByte=>Extern.BytealgIndexByte.indexByte
 | .index _=>λ_=>pure undef
structure Kept(w M:World):Prop where
 size:w.heap.size<=M.heap.size
 tape:M.tape=w.tape
 os:M.os=w.os
 output:M.output=w.output
 stays:∀(k:Nat)(o:Obj),w.heap[k]? =some o->M.heap[k]? =some o
def a4Y(P:Program)(f:FuncId)(g:Nat):Prop:=
 (∃fn,P.funcs[f]? =some fn)/\∀(s sub:ByteArray)(m:Int)(w:World),s.size<4294967281->w.cell? ⟨g,0,none⟩=some (.int .i64 m)->
   Calls P f #[.string s,.string sub] w λe M=>e=.returned (.int .i64 (Lib.index s.data.toList sub.data.toList))/\M=w
def j3(P:Program)(c:bX):Prop:=
 (∃fn,P.funcs[c.fn]? =some fn)/\c.round=none/\(∀o∈c.outs,o.gv=false)/\
 ∀(base:Nat)(E:G)(a:List Value)(w:World),Rel (iD P (λ_=>false) []) base E c.S w->aW E c.nt c.tr ⟨a⟩->a.length=c.nt->
  Calls P c.fn ⟨a⟩ w λe M=>∃o,o∈c.outs/\∃(b:G)(l:S)(d:Nat->Nat)(g:Nat->SE)(p:Value),
   Step (iD P (λ_=>false) []) base E c.S w b l M/\
   (∀i,i<c.n->d i=i/\g i=.var i)/\(∀i,c.n<=i->c.n<=d i)/\
   (∀x∈o.post,∃j k,l.h.get (d x.1)=some j/\ez j=false/\b (d x.1)=some k/\∀q,dC (iD P (λ_=>false) []) b k j q->dC (iD P (λ_=>false) []) b k (x.2.sub d g).aO q)/\
   (∀x∈o.post,∀y∈o.post,x.1≠y.1->d x.1≠d y.1)/\
   (∀i,c.n+o.m<=i->ax b (g i)=none)/\
   (∀f∈o.facts,f.pos=true/\(f.sub g).holds b)/\
   ai b (o.res.sub d g)=some p/\e=.returned p
def Nc(P:Program)(f:FuncId)(e:Ext):Prop:=
 match e with
 | .index g=>a4Y P f g
 |e=>∃fn,P.funcs[f]? =some fn/\fn.body=none/\(fn.name== "runtime.NumGoroutine")=false/\Extern.findNext fn=none/\Extern.find fn=some (a0P fn e)
structure Good(C:Ctx):Prop where
 eq:C=iD C.P C.eqT C.X C.K C.L
 con:∀c∈C.K,fy C.P c
 lib:∀c∈C.L,j3 C.P c
 valid:KT C.P=true
 aaJ:∀(f:Nat)(fn:Func),C.P.funcs[f]? =some fn->fn.body.isSome=true->(fn.name== "runtime.NumGoroutine")=false
 ext:∀f e,wC f C.X=some e->Nc C.P f e
theorem a2r{C:Ctx}(d:Good C){t:TypeId}{i:TI}(h:C.T.get t=some i):
  ∃ti,C.P.info? t=some ti/\C.P.types[t]? =some ti/\i=Ey C.P.types ti/\i.desc≠.invalid:=by
 have h':(Tr.ofList (C.P.types.toList.map (Ey C.P.types))).get t=some i:=by have e:=d.eq;rw[e]at h;exact h
 rw[Tr.eP]at h';simp only[kh,bk,w5]at h';obtain⟨ti,a,rfl⟩:=h';refine⟨ti,?_,a,rfl,?_⟩
 .have c:t<C.P.types.size:=by
    rcases ed t C.P.types.size with h|h
    .exact h
    .grind
  show Tables.info? _ t=_;unfold Tables.info?;rw[aJ c];exact a
 .have f:=d.valid;unfold KT at f;have b:ti∈C.P.types.toList:=by grind
  have:=qP.1 f ti b;intro g;rw[g]at this;cases this
theorem B1{C:Ctx}(a:Good C){f:FuncId}{fn:Func}(h:C.F.get f=some fn):C.P.funcs[f]? =some fn:=by
 have h':(Tr.ofList C.P.funcs.toList).get f=some fn:=by have e:=a.eq;rw[e]at h;exact h
 rw[Tr.eP]at h';simpa using h'
structure y1(P:Program)(t:TypeId)(i:TI):Prop where
 und:P.underlying t=some i.desc
 size:∀w,(sizeOf t).run P w=.ok i.size w
 info:∃ti,P.info? t=some ti/\ti.bytes=i.bytes/\ti.size=i.size/\P.types[t]? =some ti
 zero:∀z,i.zero=some z->∃v,(∀w,(zeroValue t).run P w=.ok v w)/\(∀E,aN E z=some v.cells.toList)
 agg:∀w,(isAgg t).run P w=.ok i.agg w
 zv:∀z,i.zv=some z->∃v,(∀w,(zeroValue t).run P w=.ok v w)/\(∀E,ai E z=some v)
theorem ND{C:Ctx}(j:Good C){t:TypeId}{i:TI}(h:C.T.get t=some i):y1 C.P t i:=by
 obtain⟨ti,I,Y,rfl,d⟩:=a2r j h;have a:C.P.underlying t=some (Ey C.P.types ti).desc:=by
  revert d;unfold Ey Program.underlying;rw[I];cases c:ti.desc with
  |named n u=>
   cases e:C.P.types[u]? with
   |none=>simp[e]
   |some k=>
    intro _;have f:u<C.P.types.size:=by grind
    have:C.P.info? u=some k:=by show Tables.info? _ u=_;unfold Tables.info?;rw[aJ f];exact e
    cases ti;simp at c;subst c;simp[e,this]
  |_=>intro _;cases ti;simp at c;subst c;simp
 refine⟨a,λw=>?_,⟨ti,I,rfl,rfl,Y⟩,?_,?_,?_⟩
 .simp[sizeOf,typeInfo,I,Ey]
 .intro z b;simp only[Ey,bk]at b;obtain⟨v,g,rfl⟩:=b;exact⟨v,λw=>by simp[zeroValue,typeInfo,I,g],λE=>lJ E _⟩
 .intro w;simp only[isAgg,underlying,aS,mW,bw,a,bE];have:(Ey C.P.types ti).agg=a0t (Ey C.P.types ti).desc:=rfl;rw[this];cases(Ey C.P.types ti).desc<;>rfl
 .intro z b;simp only[Ey,bk]at b;obtain⟨v,g,rfl⟩:=b;exact⟨v,λw=>by simp[zeroValue,typeInfo,I,g],λE=>o5 E v⟩
theorem Bm{C:Ctx}(a:Good C)(e:TypeId):(qL C e).path (λv=>∃c,(∀w,(zeroValue e).run C.P w=.ok c w)/\∀E,ai E v=some c):=by
 unfold qL;refine R.bR (λi=>y1 C.P e i) (R.aZ (λ_ h=>ND a h) (R.hN _ _)) λi V=>?_
 exact R.aZ (λz b=>V.zv z b) (R.hN _ _)
theorem c6{C:Ctx}(a:Good C)(t:TypeId):(ti C t).path (λi=>C.T.get t=some i/\y1 C.P t i):=
 R.aZ (λ_ h=>⟨h,ND a h⟩) (R.hN _ _)
theorem b9{C:Ctx}(a:Good C)(t:TypeId):(under C t).path (λd=>C.P.underlying t=some d):=by
 unfold under;refine R.bR _ (c6 a t) λi V=>?_
 exact V.2.und
theorem xp{C:Ctx}(b:Good C)(t:TypeId):(zeroOf C t).path (λz=>∃i v,C.T.get t=some i/\i.zero=some z/\(∀w,(zeroValue t).run C.P w=.ok v w)/\(∀E,aN E z=some v.cells.toList)):=by
 unfold zeroOf;refine R.bR _ (c6 b t) λi V=>?_
 refine R.aZ ?_ (R.hN _ _);intro z a;obtain⟨v,I,Y⟩:=V.2.zero z a;exact⟨i,v,V.1,a,I,Y⟩
theorem gC{P:Program}{t:TypeId}{d:TypeDesc}(h:P.underlying t=some d)(w:World):(underlying t).run P w=.ok d w:=by simp[underlying,h]
theorem VR.grow {E A:G} (h:Grow E A) {v:AV} {c:Value} (a:VR E v c):VR A v c:=a.imp id (gL h v c)
theorem HO{E A:G}(h:Grow E A){d:AD}{x:Deferred}(a:oM E d=some x):oM A d=some x:=by grind[oM,ai,aN,gL,mL]
theorem Ec{E A:G}(h:Grow E A):∀{l:List AD}{r:List Deferred},hU E l=some r->hU A l=some r
 | [],r,e=>by simpa[hU]using e
 |d::l,r,e=>by
  simp only[hU]at e ⊢;cases I:oM E d with
  |none=>simp[I]at e
  |some x=>
   cases Y:hU E l with
   |none=>simp[I,Y]at e
   |some y=>simp only[I,Y,HO h I,Ec h Y]at e ⊢;exact e
theorem aW.grow {E A:G} (h:Grow E A) {nt:Nat} {t:Tr AV} {a:Array Value} (b:aW E nt t a):aW A nt t a:=
 ⟨b.1,λd v e=>let⟨I,c,f,g⟩:=b.2.1 d v e;⟨I,c,f,g.grow h⟩,b.2.2⟩
theorem ep.grow {E A:G} (h:Grow E A):∀{J:List ME}{L:List MapEntry},ep E J L->ep A J L
 | [],[],_=>trivial
 |_::_,_::_,⟨⟨I,Y,W⟩,b⟩=>⟨⟨gL h _ _ I,gL h _ _ Y,W⟩,ep.grow h b⟩
 | [],_::_,a=>a.elim
 |_::_,[],a=>a.elim
theorem dC.mono {C:Ctx} {E A:G} (g:Grow E A) {l O:Loc} (x:l.same O) {b:gn} {o:Obj} (f:dC C E l b o):dC C A O b o:=by
 obtain⟨s1,s2,w⟩:=x;cases b with
 |cells elem cs n fz gU st sg=>
  obtain⟨vs,lo,V,rfl,I,Y,W,U⟩:=f;refine⟨vs,lo,V,rfl,by rw[s2];exact I,λi v V y=>?_,?_,?_⟩
  .obtain⟨c,z,B⟩:=Y i v V y;exact⟨c,by rw[s2];exact z,B.grow g⟩
  .rw[s2,(ub w).1];exact W
  .rw[s2];exact U
 |map J c=>obtain⟨iZ,rfl,I,Y⟩:=f;exact⟨iZ,rfl,I.grow g,Y⟩
 |Uo m since seen last=>
  cases m with
  |none=>exact⟨s2.trans f.1,f.2⟩
  |some m=>obtain⟨D,lm,q,rfl⟩:=f;obtain⟨t,h,t1,t2,t3⟩:=g m lm q;exact⟨s2.trans D,t,h,by rw[t1]⟩
 |a5x s pos=>exact⟨s2.trans f.1,f.2⟩
 |Ie e k zs=>exact f
 |vec elem e=>obtain⟨vs,lo,V,J,rfl,I,Y,W,U,h5⟩:=f;exact⟨vs,lo,V,J,rfl,bG g e _ I,λj d F=>by rw[s2];exact Y j d F,by rw[s2,(ub w).1];exact W,by rw[s2];exact U,h5⟩
 |fV ds=>
  cases ds with
  |none=>exact f
  |some ds=>obtain⟨r,I,Y⟩:=f;exact⟨r,Ec g I,Y⟩
 |loop st pending fn nt tmps params assign body defers=>obtain⟨a,ld,I,Y,rfl⟩:=f;obtain⟨u,p,t1,_,_⟩:=g defers ld Y;exact⟨a,u,I.grow g,p,by rw[t1]⟩
theorem lP.stays {w M:World} {F F':Nat->Prop} (h:∀k,F k->F' k/\M.heap[k]? =w.heap[k]?) {b o:Nat} {J:List Dt} (a:lP w F b o J):lP M F' b o J:=by obtain⟨I,vs,t,lo,V,Y,W⟩:=a;exact⟨(h b I).1,vs,t,lo,V,by rw[(h b I).2];exact Y,W⟩
mutual
theorem Dt.ej.stays {C:Ctx} {w M:World} {F F':Nat->Prop} (h:∀k,F k->F' k/\M.heap[k]? =w.heap[k]?):∀(d:Dt),d.ej C w F->d.ej C M F'
 | .val v,b=>b
 | .sl v t g J,b=>by
   rcases b with b|⟨f,⟨a,n,c,e1,e3,e⟩,Y⟩
   .exact .inl b
   .exact .inr ⟨f,⟨a,n,c,e1,e3,λj=>⟨(e j).1,(e j).2.stays h⟩⟩,Dt.cu.stays h _ 0 J Y⟩
 | .pt v t g J i k,⟨f,⟨a,q,r,e1,e2,e3,e,l,m,o⟩,Y⟩=>⟨f,⟨a,q,r,e1,e2,e3,e,l,m,o.stays h⟩,Dt.cu.stays h _ 0 J Y⟩
 | .ls P J,Y=>Dt.cu.stays h P 0 J Y
theorem Dt.cu.stays {C:Ctx} {w M:World} {F F':Nat->Prop} (h:∀k,F k->F' k/\M.heap[k]? =w.heap[k]?) (P:List Kd):∀(j:Nat)(l:List Dt),Dt.cu C w F P j l->Dt.cu C M F' P j l
 |_,[],_=>trivial
 |j,d::l,⟨I,Y,W⟩=>⟨I,Dt.ej.stays h d Y,Dt.cu.stays h P (j+1) l W⟩
end
theorem lP.and {w:World} {F F':Nat->Prop} {b o:Nat} {J:List Dt} (h:lP w F b o J) (h':lP w F' b o J):lP w (λk=>F k/\F' k) b o J:=⟨⟨h.1,h'.1⟩,h.2⟩
mutual
theorem Dt.ej.and {C:Ctx} {w:World} {F F':Nat->Prop}:∀(d:Dt),d.ej C w F->d.ej C w F'->d.ej C w λk=>F k/\F' k
 | .val v,f,_=>f
 | .sl v t g J,f,j=>by
   rcases f with f|⟨l,⟨a,n,c,e1,e3,h⟩,Y⟩
   .exact .inl f
   .rcases j with⟨e, -⟩|⟨_,⟨a',n',c',f1,f3,f4⟩,b⟩
    .rw[e1]at e;cases e
    .rw[e1]at f1;injection f1 with f5 f6 f7;obtain rfl:=ae f5;subst f6;exact .inr ⟨l,⟨a,n,c,e1,e3,λm=>⟨(h m).1,(h m).2.and (f4 m).2⟩⟩,Dt.cu.and _ 0 J Y b⟩
 | .pt v t g J i k,⟨l,⟨a,q,r,e1,e2,e3,h,o,p,s⟩,Y⟩,⟨_,⟨a',u,r',f1,f2,f3,f4,f5,f6,f7⟩,b⟩=>by
   rw[e1]at f1;obtain rfl:=ae (Value.pointer.inj f1);exact⟨l,⟨a,q,r,e1,e2,e3,h,o,p,s.and f7⟩,Dt.cu.and _ 0 J Y b⟩
 | .ls P J,Y,b=>Dt.cu.and P 0 J Y b
theorem Dt.cu.and {C:Ctx} {w:World} {F F':Nat->Prop} (P:List Kd):∀(j:Nat)(l:List Dt),Dt.cu C w F P j l->Dt.cu C w F' P j l->Dt.cu C w (λk=>F k/\F' k) P j l
 |_,[],_,_=>trivial
 |j,d::l,⟨I,Y,W⟩,⟨_,a,b⟩=>⟨I,Dt.ej.and d Y a,Dt.cu.and P (j+1) l W b⟩
end
theorem Sm{C:Ctx}{E A:G}{s F:S}{w M:World}{Z:Nat->Prop}(b:w.heap.size<=M.heap.size)(hk:∀k,k<w.heap.size->¬Live E s k->M.heap[k]? =w.heap[k]?)
  (c:∀k,k<w.heap.size->Live A F k->Live E s k) (e:∀id O d,A id=some O->O.v=some d->∃id0 l,E id0=some l/\l.v=some d) (f:dD C E s w Z):dD C A F M Z:=λid O d I Y=>by
 obtain⟨id0,l,W,U⟩:=e id O d I Y;exact Dt.ej.stays (λk a=>⟨⟨kY a.1 b,λhh=>a.2.1 (c k a.1 hh),a.2.2⟩,hk k a.1 a.2.1⟩) d (f id0 l d W U)
theorem Za{C:Ctx}{E A:G}{s F:S}{w M:World}(b:w.heap.size<=M.heap.size)(hk:∀k,k<w.heap.size->¬Live E s k->M.heap[k]? =w.heap[k]?)
  (c:∀k,k<w.heap.size->Live A F k->Live E s k) (e:∀id O d,A id=some O->O.v=some d->∃id0 l,E id0=some l/\l.v=some d):
  ∀Z:Nat->Prop,(∀k,Z k->k<w.heap.size/\¬Live E s k)->dD C E s w Z->dD C A F M Z:=λZ _ f id O d I Y=>by
 obtain⟨id0,l,W,U⟩:=e id O d I Y;exact Dt.ej.stays (λk a=>⟨⟨kY a.1 b,λhh=>a.2.1 (c k a.1 hh),a.2.2⟩,hk k a.1 a.2.1⟩) d (f id0 l d W U)
theorem Rel.rd' {C:Ctx} {base:Nat} {E A:G} {s F:S} {w M:World} (b:Rel C base E s w) (a:w.heap.size<=M.heap.size) (hk:∀k,k<w.heap.size->¬Live E s k->M.heap[k]? =w.heap[k]?)
  (c:∀k,k<w.heap.size->Live A F k->Live E s k) (e:∀id O d,A id=some O->O.v=some d->∃id0 l,E id0=some l/\l.v=some d):dD C A F M λ_=>False:=
 Za a hk c e _ (λ_ h=>h.elim) b.rd
theorem Of{C:Ctx}{E A:G}{s F:S}{w M:World}(hk:vp E s w M)(a:∀k,Live A F k->k<w.heap.size->Live E s k)
  (b:∀id O d,A id=some O->O.v=some d->∃id0 l,E id0=some l/\l.v=some d):
  ∀Z:Nat->Prop,(∀k,Z k->k<w.heap.size/\¬Live E s k)->dD C E s w Z->dD C A F M Z:=
 Za hk.size (λk h c=>by rw[fb h];exact hk.stays k _ (fb h) c) (λk h h'=>a k h' h) b
structure a6e(C:Ctx)(base:Nat)(E:G)(s:S)(w:World)(A:G)(F:S)(M:World):Prop where
 grow:Grow E A
 rel:Rel C base A F M
 keep:vp E s w M
 live:∀k,Live A F k->k<w.heap.size->Live E s k
 next:s.next<=F.next
 Xi:∀id l,E id=some l->id<s.next
 Se:∀id O,A id=some O->(∃l,E id=some l)\/(s.next<=id/\(w.heap.size<=O.aO\/∃id0 b0 l0,s.h.get id0=some b0/\E id0=some l0/\l0.aO=O.aO))
 p0:∀id N,F.h.get id=some N->id<s.next->∃b,s.h.get id=some b
theorem Step.of' {C:Ctx} {base:Nat} {E A:G} {s F:S} {w M:World} (h:a6e C base E s w A F M) (a:∀id O d,A id=some O->O.v=some d->∃id0 l,E id0=some l/\l.v=some d):Step C base E s w A F M:=
 ⟨h.grow,h.rel,h.keep,h.live,h.next,h.Xi,h.Se,h.p0,Of h.keep h.live a⟩
theorem Step.of {C:Ctx} {base:Nat} {E:G} {s F:S} {w M:World} (h:a6e C base E s w E F M):Step C base E s w E F M:=Step.of' h λid l _ I Y=>⟨id,l,I,Y⟩
theorem Rel.LB {C:Ctx} {base:Nat} {E A:G} {s:S} {w:World} (a:Rel C base E s w) (c:Grow E A):∀f∈s.pc,f.pos=true/\f.holds A:=λf b=>
 ⟨(a.pc f b).1,Fact.WJ c (a.pc f b).1 (a.pc f b).2⟩
theorem Rel.alloc {C:Ctx} {base:Nat} {E:G} {s:S} {w:World} (c:Rel C base E s w) (b:gn) (o:Obj) (dl cp:Nat) {M:World}
  (q:M.heap=w.heap.push o)
  (H:∀A,Grow E A->dC C A ⟨w.heap.size,dl,cp,none⟩ b o):
  Rel C base (λid=>if id=s.next then some ⟨w.heap.size,dl,cp,none⟩else E id) (s.new b) M:=by
 have f:Grow E (λid=>if id=s.next then some ⟨w.heap.size,dl,cp,none⟩else E id):=by intro id l r;have:id≠s.next:=gE (c.lt r);exact⟨l,by simp[this,r],rfl,rfl,rfl⟩
 have m:∀(k:Nat)(x:Obj),w.heap[k]? =some x->M.heap[k]? =some x:=by grind
 have v:∀{id b l},s.h.get id=some b->E id=some l->l.aO<w.heap.size:=by
  intro id b l I Y;obtain⟨O,T,W,U,_⟩:=c.aO id b I;rw[Y]at W;obtain rfl:=ae W;rcases ed l.aO w.heap.size with h|h
  .exact h
  .grind
 refine⟨?_,?_,?_,?_,?_,?_,c.LB f,?_⟩
 .intro id N a;simp only[S.new]at a;rw[Tr.bY]at a;split at a
  .grind
  .next y=>
   obtain⟨l,T,I,Y,W⟩:=c.aO id N a;have i:id≠s.next:=λh=>y h.symm
   exact⟨l,T,by simp[i,I],m _ _ Y,W.mono f ⟨rfl,rfl,rfl⟩⟩
 .intro id u z B l O I Y W U i n;simp only[S.new,Tr.bY]at I Y;by_cases e1:s.next=id
  .grind
  .rw[av e1]at I;have j:id≠s.next:=dt e1;simp only[j,br]at W;by_cases e2:s.next=u
   .grind
   .rw[av e2]at Y;have p:u≠s.next:=dt e2;simp only[p,br]at U;exact c.sep id u z B l O I Y W U i n
 .intro id a;simp only[S.new]at a;have t:s.next+1<=id:=a;have:id≠s.next:=by omega
  simp only[this,br];exact c.new id (by omega)
 .intro g D;obtain⟨l,I,Y,W⟩:=c.gm g D;have:g≠s.next:=gE (c.lt I);exact⟨l,by simp[this,I],Y,W⟩
 .intro id N l I Y W;simp only[S.new,Tr.bY]at I;by_cases e1:s.next=id
  .subst e1;simp only[bc]at Y;obtain rfl:=ae Y;have:=c.bs;simp at W;omega
  .rw[av e1]at I;have j:id≠s.next:=dt e1;simp only[j,br]at Y;exact c.low id N l I Y W
 .have:=c.bs;rw[q];simp;omega
 .refine c.rd' (by rw[q];simp) (λk hk _=>?_) (λk hk=>?_) (λid O d I Y=>?_)
  .grind
  .rintro⟨id,N,l,I,Y,W,U⟩;simp only[S.new,Tr.bY]at I;by_cases e:s.next=id
   .grind
   .rw[av e]at I;have F:id≠s.next:=dt e;simp only[F,br]at W;exact⟨id,N,l,I,Y,W,U⟩
  .grind
theorem vp.alloc {E:G} {s:S} {w M:World} (o:Obj) (b:M.heap=w.heap.push o) (c:M.tape=w.tape) (ho:M.os=w.os) (d:M.output=w.output):vp E s w M:=by
 refine⟨by rw[b];simp,c,ho,d,λk x hk _=>?_⟩;have a:k<w.heap.size:=by grind
 rw[b,Array.getElem?_push,av (gE a)];exact hk
theorem Step.alloc {C:Ctx} {base:Nat} {E:G} {s:S} {w:World} (c:Rel C base E s w) (b:gn) (o:Obj) (dl cp:Nat) {M:World}
  (f:M.heap=w.heap.push o) (g:M.tape=w.tape) (ho:M.os=w.os) (i:M.output=w.output)
  (m:∀A,Grow E A->dC C A ⟨w.heap.size,dl,cp,none⟩ b o):
  Step C base E s w (λid=>if id=s.next then some ⟨w.heap.size,dl,cp,none⟩else E id) (s.new b) M:=by
 have a:∀k,Live (λid=>if id=s.next then some ⟨w.heap.size,dl,cp,none⟩else E id) (s.new b) k->k<w.heap.size->Live E s k:=by
  rintro k ⟨id,N,l,I,Y,W,U⟩ hk;simp only[S.new,Tr.bY]at I;by_cases e:s.next=id
  .grind
  .rw[av e]at I;have n:id≠s.next:=dt e;simp only[n,br]at W;exact⟨id,N,l,I,Y,W,U⟩
 refine⟨?_,c.alloc b o dl cp f m,vp.alloc o f g ho i,?_,Nat.le_succ _,λ_ _ h=>c.lt h,?_,?_,Of (vp.alloc o f g ho i) a λid O d I Y=>?_⟩
 .intro id l j;have:id≠s.next:=gE (c.lt j);exact⟨l,by simp[this,j],rfl,rfl,rfl⟩
 .exact a
 .grind
 .grind[S.new,Tr.bY]
 .grind
theorem Rel.CN {C:Ctx} {base:Nat} {E A:G} {s:S} {w M:World} (p:Rel C base E s w) {id:Nat} {b N:gn} {l O:Loc} {T:Obj} {h':Tr gn}
  (t:s.h.get id=some b) (v:E id=some l) (m:A id=some O) (z:l.same O) (c:ez b=false)
  (a:∀i,i≠id->A i=E i)
  (hh:∀i x,i≠id->h'.get i=some x->s.h.get i=some x) (n:h'.get id=some N)
  (J:∀k,k≠l.aO->M.heap[k]? =w.heap[k]?) (F:M.heap[l.aO]? =some T) (B:M.heap.size=w.heap.size)
  (P:dC C A O N T)
  (D:∀i x li,i≠id->h'.get i=some x->E i=some li->li.aO=l.aO->dC C A li x T)
  (r:∀i x li,i≠id->h'.get i=some x->E i=some li->li.aO=l.aO->gR N i x O li):
  Rel C base A ⟨h',s.next,s.pc⟩ M:=by
 have f:Grow E A:=by
  intro i li V;by_cases e:i=id
  .grind
  .exact⟨li,by rw[a i e];exact V,rfl,rfl,rfl⟩
 refine⟨?_,?_,?_,?_,?_,?_,p.LB f,?_⟩
 .intro i x Z;by_cases e:i=id
  .subst e;rw[n]at Z;obtain rfl:=ae Z;exact⟨O,T,m,by rw[z.1];exact F,P⟩
  .obtain⟨li,o,I,Y,W⟩:=p.aO i x (hh i x e Z);refine⟨li,?_⟩;by_cases e2:li.aO=l.aO
   .grind
   .exact⟨o,by rw[a i e];exact I,by rw[J _ e2];exact Y,W.mono f ⟨rfl,rfl,rfl⟩⟩
 .intro i j x y li K I Y W U q u;by_cases e:i=id
  .subst e;rw[m]at W;obtain rfl:=ae W;have L:j≠i:=dt q;rw[n]at I;obtain rfl:=ae I;rw[a j L]at U;left;exact r j y K L Y U (by rw[<-u,z.1])
  .by_cases e2:j=id
   .subst e2;rw[m]at U;obtain rfl:=ae U;rw[n]at Y;obtain rfl:=ae Y;rw[a i e]at W;right;exact r i x li e I W (by rw[u,z.1])
   .rw[a i e]at W;rw[a j e2]at U;exact p.sep i j x y li K (hh i x e I) (hh j y e2 Y) W U q u
 .intro i V;have q:i≠id:=λh=>by subst h;rw[p.new i V]at v;cases v
  rw[a i q];exact p.new i V
 .intro g Q;obtain⟨R,I,Y,W⟩:=p.gm g Q;obtain⟨H,U,t1,t2,_⟩:=f g R I;exact⟨H,U,t1.trans Y,t2.trans W⟩
 .intro i x li I Y W;by_cases e:i=id
  .subst e;rw[m]at Y;obtain rfl:=ae Y;rw[z.1]at W;have:=p.low i b l t v W;rw[c]at this;cases this
  .rw[a i e]at Y;exact p.low i x li (hh i x e I) Y W
 .rw[B];exact p.bs
 .refine p.rd' (Nat.le_of_eq B.symm) (λk _ X=>J k λe=>X ⟨id,b,l,t,c,v,e.symm⟩) (λk _=>?_) (λi li d I Y=>?_)
  .rintro⟨i,x,li,I,Y,W,U⟩;by_cases e:i=id
   .subst e;rw[m]at W;obtain rfl:=ae W;exact⟨i,b,l,t,c,v,by rw[<-z.1];exact U⟩
   .exact⟨i,x,li,hh i x e I,Y,by rw[<-a i e];exact W,U⟩
  .by_cases e:i=id
   .subst e;rw[m]at I;obtain rfl:=ae I;exact⟨i,l,v,by rw[<-(ub z.2.2).2];exact Y⟩
   .grind
theorem e8{a b:IntKind}(h:th a b=true):a=b:=b7 h
theorem kA{a b:Kd}(h:r8 a b=true):a=b:=by
 cases a<;>cases b<;>first|rfl|(cases h;done)|skip
 .rw[e8 h]
 .rw[bj h]
 .simp only[r8,aM]at h;rw[bj h.1,bj h.2]
theorem K9{E:G}{v:AV}{c:Value}(h:ai E v=some c)(hk:Es v≠.any):∃d,ax E (ea v)=some d/\(Es v).fits d/\c=d.v:=by
 cases v<;>first|exact absurd rfl hk|skip
 .simp only[ai,aD]at h;exact⟨_,rfl,⟨_,rfl⟩,h.symm⟩
 .simp only[ai,aD]at h;exact⟨_,rfl,⟨_,rfl⟩,h.symm⟩
 .simp only[ai,aD]at h;exact⟨_,rfl,⟨_,rfl⟩,h.symm⟩
 .exact ek h
theorem zj{E:G}{v:AV}{c:Value}{k:IntKind}(h:ai E v=some c)(hk:Es v=.int k):∃n,ax E (ea v)=some (.val (.int k n))/\c=.int k n:=by obtain⟨d,I,Y,W⟩:=K9 h (by rw[hk];intro e;cases e);rw[hk]at Y;obtain⟨n,rfl⟩:=Y;exact⟨n,I,W⟩
theorem K8{E:G}{v:AV}{c:Value}(h:ai E v=some c)(hk:Es v=.str):∃s,ax E (ea v)=some (.val (.string s))/\c=.string s:=by obtain⟨d,I,Y,W⟩:=K9 h (by rw[hk];intro e;cases e);rw[hk]at Y;obtain⟨n,rfl⟩:=Y;exact⟨n,I,W⟩
theorem uQ{k:Kd}(h:zJ k=true):∃q,k=.int q:=by cases k<;>first|exact⟨_,rfl⟩|cases h
theorem R.gb {α:Type} {C:Ctx} {base:Nat} {E:G} {s:S} {w:World} (b:Rel C base E s w) {f:Fact} {r:R α} {Q:α->Prop} (h:¬f.holds E->r.path Q):(R.must (f::s.pc) r).path Q:=by
 by_cases a:f.holds E
 .left;refine⟨E,λx Z=>?_⟩;cases Z with
  |head=>exact a
  |tail _ Z=>exact(b.pc x Z).2
 .exact .inr (h a)
theorem j6{E:G}{nm:String}{p:List Dt->Prop}{l:List SE}{ds:List Dt}(h:¬(Fact.rel nm false p l).holds E)(a:jj E l=some ds):¬p ds:=λb=>h ⟨ds,a,b⟩
theorem a6V{E:G}{x:SE}{d:Dt}(h:ax E x=some d):jj E [x]=some [d]:=by simp[jj,h]
theorem A5{E:G}{x y:SE}{d e:Dt}(h:ax E x=some d)(h':ax E y=some e):jj E [x,y]=some [d,e]:=by simp[jj,h,h']
theorem ID{E:G}{x y z:SE}{d e f:Dt}(h:ax E x=some d)(h':ax E y=some e)(Y:ax E z=some f):jj E [x,y,z]=some [d,e,f]:=by simp[jj,h,h',Y]
theorem eA{E:G}{k:Kd}{e:SE}{d:Dt}{v:Value}(h:ax E e=some d)(a:k.fits d)(b:d.v=v):ai E (.cE k e)=some v:=by rw[ir h a,b]
theorem Dt.cu.get {C:Ctx} {w:World} {F:Nat->Prop} {P:List Kd}:∀{l:List Dt}{j i:Nat}{d:Dt},Dt.cu C w F P j l->l[i]? =some d->(∃k,P[(j+i)%P.length]? =some k/\k.fits d)/\d.ej C w F
 | [],_,_,_,_,h=>by simp at h
 |x::l,j,0,d,⟨I,Y,W⟩,h=>by grind
 |x::l,j,i+1,d,⟨I,Y,W⟩,h=>by
  have:=W.get (i:=i) (d:=d) (by simpa using h)
  rwa [show j+1+i=j+(i+1) by omega]at this
theorem GQ{C:Ctx}{w:World}{F:Nat->Prop}{r:R AV}{d:Dt}(h:okV r=some d):d.ej C w F:=by
 unfold okV at h;split at h
 .split at h<;>first|(obtain rfl:=ae h;rfl)|cases h
 .cases h
theorem W4{C:Ctx}{w:World}{F:Nat->Prop}{op:BinOp}{u v:Value}{d:Dt}(h:fj op u v=some d):d.ej C w F:=by
 unfold fj at h;split at h
 .grind[GQ]
 .exact GQ h
 .cases h
theorem Nn:∀(k:Kd)(n:Nat),Qv k=true->k.fits (FJ k n)
 | .int k,_,_=>⟨0,rfl⟩
 | .bool,_,_=>⟨false,rfl⟩
 | .str,_,_=>⟨_,rfl⟩
 | .sl t,n,_=>⟨none,0,0,n,[],rfl⟩
 | .any,_,h=>by cases h
 | .ptr _ _,_,h=>by cases h
 | .WI,_,h=>by cases h
theorem Nl{C:Ctx}{w:World}{F:Nat->Prop}:∀(k:Kd)(n:Nat),(FJ k n).ej C w F
 | .int _,_=>rfl
 | .bool,_=>rfl
 | .str,_=>rfl
 | .sl _,_=>.inl ⟨rfl,rfl⟩
 | .any,_=>rfl
 | .ptr _ _,_=>rfl
 | .WI,_=>rfl
theorem y7:∀(P:List Kd)(szs:List Nat),(kO P szs).length=P.length
 | [],_=>rfl
 |_::l,[]=>by simp[kO,y7 l []]
 |_::l,_::m=>by simp[kO,y7 l m]
theorem y8:∀(P:List Kd)(szs:List Nat)(i:Nat)(d:Dt),(kO P szs)[i]? =some d->∃k n,P[i]? =some k/\d=FJ k n
 | [],_,i,d,h=>by simp[kO]at h
 |k::l,[],0,d,h=>⟨k,0,rfl,by simpa[kO]using h.symm⟩
 |k::l,n::m,0,d,h=>⟨k,n,rfl,by simpa[kO]using h.symm⟩
 |k::l,[],i+1,d,h=>by simpa using y8 l [] i d (by simpa[kO]using h)
 |k::l,n::m,i+1,d,h=>by simpa using y8 l m i d (by simpa[kO]using h)
theorem jQ(z:List Dt):∀n,(jF z n).length=n*z.length
 |0=>by simp[jF]
 |n+1=>by simp only[jF,cg,jQ z n,eh,Nat.one_mul];omega
theorem Ob(z:List Dt):∀(n i:Nat),i<n*z.length->(jF z n)[i]? =z[i%z.length]?
 |0,i,h=>by omega
 |n+1,i,h=>by
  simp only[jF,pA];split
  .next I=>rw[mv I]
  .next I=>
   rw[Ob z n (i-z.length) (by rw[eh,Nat.one_mul]at h;omega)];rw[Nat.mod_eq_sub_mod (show z.length<=i by omega)]
theorem Dt.cu.mk' {C:Ctx} {w:World} {F:Nat->Prop} {P:List Kd}:∀{l:List Dt}{j:Nat},(∀(i:Nat)d,l[i]? =some d->(∃k,P[(j+i)%P.length]? =some k/\k.fits d)/\d.ej C w F)->Dt.cu C w F P j l
 | [],_,_=>trivial
 |d::l,j,h=>⟨(h 0 d rfl).1,(h 0 d rfl).2,Dt.cu.mk' λi d' V=>by
   have:=h (i+1) d' (by simpa using V)
   rwa [show j+(i+1)=j+1+i by omega]at this⟩
theorem Qu{C:Ctx}{w:World}{F:Nat->Prop}{P:List Kd}{szs:List Nat}(b:P.all Qv=true)(n:Nat):Dt.cu C w F P 0 (jF (kO P szs) n):=by
 refine .mk' λi d V=>?_
 have a:i<n*(kO P szs).length:=by rw[<-jQ];exact(my.1 V).1
 rw[Ob _ _ _ a,y7]at V;obtain⟨k,m,I,rfl⟩:=y8 P szs _ d V;refine⟨⟨k,by rw[eD];exact I,Nn k m ?_⟩,Nl k m⟩;exact qP.1 b k (mV I)
theorem P5{C:Ctx}{w:World}{F:Nat->Prop}(l:List UInt8):Dt.cu C w F [.int .u8] 0 (fw l):=by
 refine .mk' λi d V=>?_
 simp only[fw,kh,bk]at V;obtain⟨b, -,rfl⟩:=V;exact⟨⟨.int .u8,by simp[Nat.mod_one],_,rfl⟩,rfl⟩
theorem a4j{C:Ctx}{w:World}{F:Nat->Prop}{o:Vn}{x d:Dt}(Z:x.ej C w F)(h:e1 o x=some d):d.ej C w F:=by
 cases o<;>simp only[e1]at h<;>try(cases h;done)
 .grind[GQ]
 .split at h<;>first|(obtain rfl:=ae h;rfl)|cases h
 .split at h<;>first|(obtain rfl:=ae h;rfl)|cases h
 .split at h
  .rename_i n _ a t g J i k;obtain rfl:=ae h;obtain⟨b,⟨a',q,r,e1,e2,e3,c,e,j,m⟩,Y⟩:=Z;obtain rfl:=ae (Value.pointer.inj e1);exact⟨b,⟨_,q,r,rfl,e2,e3,c,e,by show i+(k+n)<=a.off+n;omega,by show lP w F a.block (a.off+n-(i+(k+n))) J;rwa [show a.off+n-(i+(k+n))=a.off-(i+k) by omega]⟩,Y⟩
  .cases h
 .split at h
  .exact(Z.2.2.get h).2
  .cases h
 .split at h<;>first|(obtain rfl:=ae h;rfl)|cases h
 .obtain rfl:=ae h;trivial
 .obtain rfl:=ae h;exact .inl ⟨rfl,rfl⟩
 .split at h
  .split at h
   .next f=>
    obtain rfl:=ae h;exact Qu f _
   .cases h
  .cases h
 .split at h
  .obtain rfl:=ae h;exact P5 _
  .cases h
 .split at h
  .obtain⟨l, -,rfl⟩:=bk.1 h;rfl
  .cases h
theorem Dt.cu.set {C:Ctx} {w:World} {F:Nat->Prop} {P:List Kd} {l:List Dt} {j i:Nat} {d:Dt} (h:Dt.cu C w F P j l) (a:(∃k,P[(j+i)%P.length]? =some k/\k.fits d)/\d.ej C w F):Dt.cu C w F P j (l.set i d):=.mk' λq x Z=>by
 rw[List.getElem?_set]at Z;split at Z
 .next e=>
  subst e;split at Z
  .obtain rfl:=ae Z;exact a
  .cases Z
 .exact h.get Z
theorem Dt.cu.take {C:Ctx} {w:World} {F:Nat->Prop} {P:List Kd}:∀{j:Nat}{l:List Dt}(n:Nat),Dt.cu C w F P j l->Dt.cu C w F P j (l.take n)
 |_,_,0,_=>by simp[Dt.cu]
 |_,[],_+1,_=>by simp[Dt.cu]
 |j,d::l,n+1,⟨I,Y,W⟩=>⟨I,Y,W.take n⟩
theorem Dt.cu.snoc {C:Ctx} {w:World} {F:Nat->Prop} {P:List Kd} {d:Dt}:∀{j:Nat}{l:List Dt},Dt.cu C w F P j l->(∃k,P[(j+l.length)%P.length]? =some k/\k.fits d)->d.ej C w F->Dt.cu C w F P j (l++[d])
 |j,[],_,hk,a=>⟨hk,a,eI⟩
 |j,x::l,⟨I,Y,W⟩,hk,a=>⟨I,Y,W.snoc (by rw[show j+1+l.length=j+(x::l).length by simp;omega];exact hk) a⟩
theorem a4i{C:Ctx}{w:World}{F:Nat->Prop}{o:Vn}{x y d:Dt}(Z:x.ej C w F)(j:y.ej C w F)(h:e2 o x y=some d):d.ej C w F:=by
 cases o<;>simp only[e2]at h<;>try(cases h;done)
 .grind[W4]
 .split at h
  .obtain⟨b, -,rfl⟩:=bk.1 h;rfl
  .cases h
 .split at h
  .rename_i a n c t g J q i;split at h
   .next V=>
    obtain rfl:=ae h;rcases Z with⟨e, -⟩|⟨l,⟨a',n',c',e,e3,f⟩,Y⟩
    .cases e
    .injection e with m p r;obtain rfl:=ae m;subst p;have s:=(f (by omega)).2;exact⟨l,⟨_,i,n,rfl,rfl,rfl,V,e3,by show i*g+0<=a.off+i*g;omega,by show lP w F a.block (a.off+i*g-(i*g+0)) J;rwa [show a.off+i*g-(i*g+0)=a.off by omega]⟩,Y⟩
   .cases h
  .cases h
 .split at h
  .split at h
   .obtain rfl:=ae h;exact Dt.cu.take _ Z
   .cases h
  .cases h
 .split at h
  .split at h
   .next hk=>
    obtain rfl:=ae h;exact Dt.cu.snoc Z (by rw[eD];exact hk) j
   .cases h
  .cases h
 .split at h
  .exact(Dt.cu.get Z h).2
  .cases h
 .split at h
  .split at h
   .next hk=>
    obtain rfl:=ae h;obtain⟨rfl,rfl⟩:=hk;refine Dt.cu.mk' λi d V=>?_
    rw[pA]at V;split at V
    .exact Dt.cu.get Z V
    .have:=Dt.cu.get j V;exact⟨by obtain⟨⟨k,I,Y⟩, -⟩:=this;exact⟨k,by simpa[Nat.mod_one]using I,Y⟩,this.2⟩
   .cases h
  .cases h
theorem a4h{C:Ctx}{w:World}{F:Nat->Prop}{o:Vn}{x y z d:Dt}(Z:x.ej C w F)(b:y.ej C w F)(a:z.ej C w F)(h:e3 o x y z=some d):d.ej C w F:=by
 cases o<;>simp only[e3]at h<;>try(cases h;done)
 .split at h<;>first|(obtain rfl:=ae h;rfl)|cases h
 .grind
 .split at h
  .split at h
   .next hk=>
    obtain rfl:=ae h;exact Dt.cu.set Z ⟨by rw[eD];exact hk.2,a⟩
   .cases h
  .cases h
theorem fL{C:Ctx}{w:World}{F:Nat->Prop}{E:G}(a:∀id l d,E id=some l->l.v=some d->d.ej C w F):∀(e:SE)(d:Dt),ax E e=some d->d.ej C w F
 | .var i,d,h=>by grind[ax,Option.bind_eq_some_iff]
 | .int _ _,d,h| .bool _,d,h| .str _,d,h=>by
   obtain rfl:=ae h;rfl
 | .a1 o x,d,h=>by
   simp only[ax,cV]at h;obtain⟨u,b,h⟩:=h;exact a4j (fL a x u b) h
 | .a2 o x y,d,h=>by
   simp only[ax,cV]at h;obtain⟨u,b,v,c,h⟩:=h;exact a4i (fL a x u b) (fL a y v c) h
 | .a3 o x y z,d,h=>by
   simp only[ax,cV]at h;obtain⟨u,b,v,c,q,f,h⟩:=h;exact a4h (fL a x u b) (fL a y v c) (fL a z q f) h
theorem Ad{E:G}{k:Kd}{e:SE}:ai E (Un k e)=ai E (.cE k e):=by
 cases e with
 |int q n=>
  cases k with
  |int r=>
   show ai E (match th r q with|true=>.int q n|false=>.cE (.int r) (.int q n))=_;cases h:th r q with
   |true=>obtain rfl:=e8 h;exact(ir (E:=E) (k:=.int r) (e:=.int r n) (d:=.val (.int r n)) rfl ⟨n,rfl⟩).symm
   |false=>rfl
  |any=>exact(ir (E:=E) (k:=.any) (e:=.int q n) (d:=.val (.int q n)) rfl rfl).symm
  |_=>rfl
 |bool b=>
  cases k with
  |bool=>exact(ir (E:=E) (k:=.bool) (e:=.bool b) (d:=.val (.bool b)) rfl ⟨b,rfl⟩).symm
  |any=>exact(ir (E:=E) (k:=.any) (e:=.bool b) (d:=.val (.bool b)) rfl rfl).symm
  |_=>rfl
 |str s=>
  cases k with
  |str=>exact(ir (E:=E) (k:=.str) (e:=.str s) (d:=.val (.string ⟨⟨s⟩⟩)) rfl ⟨_,rfl⟩).symm
  |any=>exact(ir (E:=E) (k:=.any) (e:=.str s) (d:=.val (.string ⟨⟨s⟩⟩)) rfl rfl).symm
  |_=>rfl
 |_=>rfl
theorem YN{C:Ctx}{E:G}{k:Kd}{v:AV}{x:SE}{c:Value}(h:seK C k v=some x)(b:ai E v=some c):∃d,ax E x=some d/\k.fits d/\d.v=c:=by
 have gen:(match r8 (Es v) k && !r8 k .any with|true=>some (ea v)|false=>none)=some x->∃d,ax E x=some d/\k.fits d/\d.v=c:=by
  intro h;cases a:(r8 (Es v) k && !r8 k .any)with
  |false=>rw[a]at h;cases h
  |true=>rw[a]at h;obtain rfl:=ae h;simp only[aM,im]at a;obtain⟨I,Y⟩:=a;obtain rfl:=kA I;obtain⟨d,g1,g2,g3⟩:=K9 b (λe=>by rw[e]at Y;cases Y);exact⟨d,g1,g2,g3.symm⟩
 cases v<;>first|exact gen h|skip
 cases k<;>first|(cases h;done)|skip
 obtain rfl:=ae h;simp only[ai,aD]at b;exact⟨_,rfl,⟨_,_,_,_,_,rfl⟩,b⟩
theorem uj{C:Ctx}{E:G}{a:List Kd}:∀(l:List AV)(P:List Kd)(e y:SE)(J:List Dt)(cs:List Value),aN E l=some cs->ax E e=some (.ls a J)->
  (∃p,P=a.drop p/\p<=a.length/\J.length%a.length=p%a.length)->sW C a l P e=some y->∃ds,ax E y=some (.ls a (J++ds))/\ds.map Dt.v=cs
 | [],P,e,y,J,cs,g,o,_,h=>by
   obtain rfl:=ae h;simp only[aN,aD]at g;subst g;exact⟨[],by simpa using o,rfl⟩
 |v::l,P,e,y,J,cs,g,o,⟨p,B,D,i⟩,h=>by
  obtain⟨c,j,F,k,rfl⟩:=aL.1 g;have step:∀(q:Kd)(b:List Kd)(p':Nat)(x:SE),seK C q v=some x->sW C a l b (.a2 .sn e x)=some y->a[J.length%a.length]? =some q->b=a.drop p'->p'<=a.length->(J.length+1)%a.length=p'%a.length->
    ∃ds,ax E y=some (.ls a (J++ds))/\ds.map Dt.v=c::j:=by
   intro q b p' x Z H K r m L;obtain⟨d,g1,g2,g3⟩:=YN Z F;have s:ax E (.a2 .sn e x)=some (.ls a (J++[d])):=by simp only[ax,o,g1,bn,e2];rw[aJ ⟨q,K,g2⟩]
   obtain⟨ds,I,Y⟩:=uj l b (.a2 .sn e x) y (J++[d]) j k s ⟨p',r,m,by rw[cg];exact L⟩ H;exact⟨d::ds,by simpa using I,by simp[Y,g3]⟩
  cases P with
  |nil=>
   have t:p=a.length:=by grind[List.length_nil,List.length_drop]
   cases a with
   |nil=>cases h
   |cons q b=>
    simp only[sW]at h;cases Z:seK C q v with
    |none=>rw[Z]at h;cases h
    |some x=>
     rw[Z]at h;have z:J.length%(q::b).length=0:=by rw[i,t,Nat.mod_self]
     refine step q b 1 x Z h (by rw[z];rfl) rfl (by simp) ?_;rw[Nat.add_mod,z,eD,Nat.mod_mod]
  |cons q b=>
   simp only[sW]at h;cases Z:seK C q v with
   |none=>rw[Z]at h;cases h
   |some x=>
    rw[Z]at h;have f:p<a.length:=by grind
    have A:=AM f;rw[<-B]at A;injection A with u w;have n:J.length%a.length=p:=by rw[i,mv f]
    refine step q b (p+1) x Z h (by rw[n,dV f,u]) w f ?_;rw[Nat.add_mod,n,Nat.add_mod p 1,mv f]
theorem a3G{C:Ctx}{w:World}{F:Nat->Prop}{E:G}(t:∀id l d,E id=some l->l.v=some d->d.ej C w F){u j:Nat}{e:SE}{c:Value}(h:ai E (.cE (.ptr u j) e)=some c):
  ∃a,c=.pointer (some a)/\a.spot=none/\∀(m:Nat)k,(aA C u)[j+m]? =some k->∃v,ai E (.cE k (.a1 (.ld m) e))=some v/\w.cell? ⟨a.block,a.off+m,none⟩=some v:=by
 obtain⟨d,x,y,rfl⟩:=ek h;obtain⟨a,g,J,i,rfl⟩:=y;obtain⟨z,⟨a',q,r,e1,e2,e3,A,K,L,M,vs,Q,lo,V,B,D⟩,Y⟩:=fL t e _ x;obtain rfl:=ae (Value.pointer.inj e1);refine⟨a,rfl,e2,λm k hk=>?_⟩;have o:j+m<(aA C u).length:=(my.1 hk).1;have p:g=(aA C u).length:=z;have H:(q+1)*g<=r*g:=kZ g A;have b:i+j+m<J.length:=by grind
 obtain⟨⟨k',f,s⟩,I⟩:=Y.get (dV b);have n:(0+(i+j+m))%(aA C u).length=j+m:=by rw[eD,e3,p,kf,Nat.mul_comm,Nat.mul_add_mod,mv o]
 rw[n,hk]at f;obtain rfl:=ae f;refine⟨J[i+j+m].v,ir ?_ s,?_⟩
 .grind[ax,Go.Proofs.YtokipodjggomfaaGreatDoor.Abs.e1]
 .have:=D (i+j+m) _ (dV b);simp only[World.cell?,B];rw[show a.off+m=a.off-(i+j)+(i+j+m) by omega];exact this
def eY(C:Ctx)(base:Nat)(E:G)(s:S)(w:World)(r:Result Next):Nx->Prop
 | .val v F=>∃A c M,r=.ok (.value c) M/\ai A v=some c/\Step C base E s w A F M
 | .skip F=>∃A M,r=.ok .skip M/\Step C base E s w A F M
 | .enter f args F=>∃A l M,r=.ok (.enter f ⟨l⟩) M/\aN A args=some l/\Step C base E s w A F M
 | .round l args F=>F=s/\∃B cs,E l=some B/\aN E args=some cs/\r=(Instr.yield B.aO ⟨cs⟩).run C.P w
 | .defer d F=>∃A x M,r=.ok (.defer x) M/\oM A d=some x/\Step C base E s w A F M
 | .recover F=>F=s/\r=.ok .recover w
 | .gv v F=>∃A c M,r=.halt (.panic c) M/\ai A v=some c/\Step C base E s w A F M
def VS(x:Sem Value):Sem Next:=do pure (.value (<-x))
def US(x:Sem Unit):Sem Next:=do x;pure .skip
section
variable{C:Ctx}{base:Nat}{E:G}{s:S}{w:World}{nt:Nat}{t:Tr AV}{a:Act}
theorem fh(a:Rel C base E s w){x:Sem Value}{v:AV}{c:Value}(Z:x.run C.P w=.ok c w)(b:ai E v=some c):
  eY C base E s w ((VS x).run C.P w) (.val v s):=
 ⟨E,c,w,by simp[VS,Z],b,Step.refl a⟩
theorem Ud(b:Rel C base E s w)(c:aW E nt t a.tmps)(x:Operand)(ty:TypeId):
  (rU x ty C t s).path (eY C base E s w ((pure (.value (a.eval x)):Sem Next).run C.P w)):=by
 refine R.bR _ (bO b c x) λv d=>?_
 exact⟨E,_,w,rfl,d,Step.refl b⟩
theorem a4B{k:Nat}{vs:Array Value}{e:TypeId}{a:Nat×Nat}{w:World}(h:w.heap[k]? =some (.cells vs e a))(i:Nat):
 w.cell? ⟨k,i,none⟩=vs[i]? :=by grind[World.cell?]
theorem jT{cs:Tr AV}{n dl:Nat}{vs:Array Value}(h:∀i v,i<n->cs.get i=some v->∃c,vs[dl+i]? =some c/\VR E v c):
  ∀(k off:Nat),off+k<=n->(nR cs k off).path (λl=>∃r,aN E l=some r/\l.length=k/\∀j v,r[j]? =some v->vs[dl+off+j]? =some v)
 |0,off,_=>⟨[],by simp[aN],rfl,by simp⟩
 |k+1,off,hk=>by
  show(match cs.get off with|some v=>(do let v <-wi v;let l <-nR cs k (Nat.add off 1);R.ok (v::l))|none=>R.bad _).path _;cases b:cs.get off with
  |none=>trivial
  |some v=>
   obtain⟨c,d,e⟩:=h off v (by omega) b;refine R.bR _ (DN v) λx Z=>?_
   obtain⟨rfl,f⟩:=Z;refine R.bR _ (jT h k (off+1) (by omega)) λl g=>?_
   obtain⟨r,I,Y,W⟩:=g;refine⟨c::r,aL.2 ⟨c,r,e.resolve_left f,I,rfl⟩,by simp[Y],λj v a=>?_⟩;cases j with
   |zero=>simp at a;subst a;simpa using d
   |succ j=>have:=W j v (by simpa using a);rw[show dl+off+(j+1)=dl+(off+1)+j by omega];exact this
theorem oW(f:Rel C base E s w)(b off k:Nat):
  (uw s b off k).path (λl=>∃B r,E b=some B/\aN E l=some r/\l.length=k/\∀j v,r[j]? =some v->w.cell? ⟨B.aO,B.dl+off+j,none⟩=some v):=by
 unfold uw;cases g:s.h.get b with
 |none=>trivial
 |some x=>
  cases x with
  |cells e cs n fz gU st sg=>
   obtain⟨B,o,i,ho,vs,lo,V,rfl,I,Y,W,U⟩:=f.aO b _ g;simp only;cases c:Nat.ble (Nat.add off k) n with
   |false=>trivial
   |true=>
    have a:off+k<=n:=by simpa using bZ c
    refine R.aZ ?_ (jT Y k off a);rintro l ⟨r,g1,g2,g3⟩;exact⟨B,r,i,g1,g2,λj v d=>by rw[a4B ho];exact g3 j v d⟩
  |_=>trivial
theorem addr_add(b o n:Nat):Addr.add ⟨b,o,none⟩ n=⟨b,o+n,none⟩:=by
 unfold Addr.add;split
 .next h=>subst h;rfl
 .rfl
theorem eX{P:Program}{aO o:Nat}{r:List Value}{w:World}(h:∀j v,r[j]? =some v->w.cell? ⟨aO,o+j,none⟩=some v)(k:Nat)(hk:r.length=k):
  (loadCells ⟨aO,o,none⟩ k).run P w=.ok ⟨r⟩ w:=by
 subst hk;have:=run_loadCells_list (P:=P) w ⟨aO,o,none⟩ r (λj v a=>by rw[addr_add];exact h j v a);simpa using this
theorem LZ(b:Bool)(l:List AV):(BC b l).path (λv=>(b=true/\v=.agg l)\/(b=false/\l=[v])):=by
 cases b
 .cases l with
  |nil=>trivial
  |cons x l=>cases l with
   |nil=>exact .inr ⟨rfl,rfl⟩
   |cons y l=>trivial
 .exact .inl ⟨rfl,rfl⟩
theorem Bq{e:SE}{b o:Nat}:∀(n:Nat)(P:List Kd)(m:Nat),(∀(q:Nat)k,P[q]? =some k->∃v,ai E (.cE k (.a1 (.ld (m+q)) e))=some v/\w.cell? ⟨b,o+(m+q),none⟩=some v)->
  (Md e n P m).path (λl=>∃r,aN E l=some r/\l.length=n/\∀(j:Nat)v,r[j]? =some v->w.cell? ⟨b,o+m+j,none⟩=some v)
 |0,_,_,_=>⟨[],rfl,rfl,by simp⟩
 |n+1,[],m,_=>R.bg _ _
 |n+1,k::P,m,h=>by
  refine R.bR _ (Bq (b:=b) (o:=o) n P (m+1) λq k' hk=>?_) λl c=>?_
  .have:=h (q+1) k' (by simpa using hk)
   rwa [show m+(q+1)=m+1+q by omega]at this
  .obtain⟨r,I,Y,W⟩:=c;obtain⟨v,U,h5⟩:=h 0 k rfl;refine⟨v::r,aL.2 ⟨v,r,U,I,rfl⟩,by simp[Y],λj u a=>?_⟩;cases j with
   |zero=>simp only[dj,aD]at a;subst a;exact h5
   |succ j=>
    have:=W j u (by simpa using a)
    rwa [show o+m+(j+1)=o+(m+1)+j by omega]
theorem Bu{e i:SE}{g b o:Nat}:∀(n:Nat)(P:List Kd)(m:Nat),(∀(q:Nat)k,P[q]? =some k->∃v,ai E (.cE k (.a2 (.at g (m+q)) e i))=some v/\w.cell? ⟨b,o+(m+q),none⟩=some v)->
  (M4 e i g n P m).path (λl=>∃r,aN E l=some r/\l.length=n/\∀(j:Nat)v,r[j]? =some v->w.cell? ⟨b,o+m+j,none⟩=some v)
 |0,_,_,_=>⟨[],rfl,rfl,by simp⟩
 |n+1,[],m,_=>R.bg _ _
 |n+1,k::P,m,h=>by
  refine R.bR _ (Bu (b:=b) (o:=o) n P (m+1) λq k' hk=>?_) λl c=>?_
  .have:=h (q+1) k' (by simpa using hk)
   rwa [show m+(q+1)=m+1+q by omega]at this
  .obtain⟨r,I,Y,W⟩:=c;obtain⟨v,U,h5⟩:=h 0 k rfl;refine⟨v::r,aL.2 ⟨v,r,U,I,rfl⟩,by simp[Y],λj u a=>?_⟩;cases j with
   |zero=>simp only[dj,aD]at a;subst a;exact h5
   |succ j=>
    have:=W j u (by simpa using a)
    rwa [show o+m+(j+1)=o+(m+1)+j by omega]
theorem DO(G:Good C)(y:Rel C base E s w)(ty:TypeId)(p:AV)(cp:Value)(F:ai E p=some cp):
  (loadAt C s ty p).path (λv=>∃a c,cp=.pointer (some a)/\a.spot=none/\ai E v=some c/\(loadVar ty a).run C.P w=.ok c w):=by
 have fin:∀(i:TI)(K o:Nat)(l:List AV)(r:List Value),y1 C.P ty i->aN E l=some r->l.length=(match i.agg with|true=>i.size|false=>1)->(∀(j:Nat)v,r[j]? =some v->w.cell? ⟨K,o+j,none⟩=some v)->
   (BC i.agg l).path (λv=>∃c,ai E v=some c/\(loadVar ty ⟨K,o,none⟩).run C.P w=.ok c w):=by
  intro i K o l r d Y W U;refine R.aZ ?_ (LZ i.agg l);intro v S;rcases S with⟨f,rfl⟩|⟨f,rfl⟩
  .refine⟨.agg ⟨r⟩,by simp[ai,Y],?_⟩;simp only[loadVar,aS,d.agg w,bw,f,bc,d.size w];rw[eX U _ (by rw[bJ Y,W,f])];rfl
  .obtain⟨c,r',Z,z,rfl⟩:=aL.1 Y;simp only[aN,aD]at z;subst z;refine⟨c,Z,?_⟩;have T:=U 0 c (by simp);simp only[iF]at T;simp only[loadVar,aS,d.agg w,bw,f];simp[T]
 cases p with
 |ptr b off=>
  unfold loadAt;refine R.bR _ (c6 G ty) λi V=>?_
  obtain⟨V,d⟩:=V;refine R.bR _ (oW y b off _) λl t=>?_
  obtain⟨B,r,I,Y,W,U⟩:=t;refine R.aZ ?_ (fin i B.aO (B.dl+off) l r d Y W U);rintro v ⟨c,g1,g2⟩;simp only[ai,I,cM,aD]at F;exact⟨_,c,F.symm,rfl,g1,g2⟩
 |cE k e=>
  cases k with
  |ptr u j=>
   unfold loadAt;refine R.bR _ (c6 G ty) λi V=>?_
   obtain⟨V,d⟩:=V;obtain⟨a,rfl,f,t⟩:=a3G y.rd F;refine R.bR _ (Bq (w:=w) (E:=E) (e:=e) (b:=a.block) (o:=a.off) _ ((aA C u).drop j) 0 λq k hk=>?_) λl t=>?_
   .grind
   .obtain⟨r,Y,W,U⟩:=t;refine R.aZ ?_ (fin i a.block a.off l r d Y W U);rintro v ⟨c,g1,g2⟩;obtain⟨ab,ao,asp⟩:=a;simp only at f;subst f;exact⟨_,c,rfl,rfl,g1,g2⟩
  |_=>exact R.bg _ _
 |jn b i g k=>
  obtain⟨B,q,kd,t,V,hq,rfl⟩:=tz F;show(L7 C s ty b i g k).path _;unfold L7;cases hb:s.h.get b with
  |none=>trivial
  |some x=>
   cases x with
   |vec el e=>
    obtain⟨O,o,I,Y,vs,lo,H,J,rfl,g1,g2,⟨i',g3,g4,g5,g6,g7⟩,g8,g9⟩:=y.aO b _ hb;rw[t]at I;obtain rfl:=ae I;refine R.bR _ (c6 G ty) λj X=>?_
    obtain⟨X,d⟩:=X;refine R.bR _ (R.bf _ _) λ_ m=>?_
    have m:g=(aA C el).length:=bj m;refine R.gb y λhn=>?_
    have hin:q*g+g<=J.length:=by
     rcases EY (q*g+g<=J.length)with h|h
     .exact h
     .exact absurd ⟨_,_,kd,_,rfl,λhh=>h hh.2⟩ (j6 hn (A5 g1 V))
    have L:Dt.cu C w _ (aA C el) 0 J:=fL y.rd e _ g1;refine R.pb _ (Bu (w:=w) (E:=E) (e:=e) (i:=i) (g:=g) (b:=B.aO) (o:=B.dl+q*g) _ ((aA C el).drop k) k λp kk hk=>?_) λl M=>?_
    .rw[tX]at hk;have N:k+p<(aA C el).length:=(my.1 hk).1;have n:q*g+(k+p)<J.length:=by omega
     obtain⟨⟨k',A,Q⟩, -⟩:=L.get (dV n);have D:(0+(q*g+(k+p)))%(aA C el).length=k+p:=by rw[eD,m,Nat.mul_comm,Nat.mul_add_mod,mv N]
     rw[D,hk]at A;obtain rfl:=ae A;refine⟨J[q*g+(k+p)].v,ir ?_ Q,?_⟩
     .simp only[ax,g1,V,bn,Go.Proofs.YtokipodjggomfaaGreatDoor.Abs.e2];exact dV n
     .have:=g2 (q*g+(k+p)) _ (dV n);simp only[World.cell?,Y];rw[kf];exact this
    .obtain⟨r,r2,r3,r4⟩:=M;refine R.aZ ?_ (fin j B.aO (B.dl+(q*g+k)) l r d r2 r3 λj' v S=>?_)
     .grind
     .grind
   |_=>exact R.bg _ _
 |_=>exact R.bg _ _
end
end Go.Proofs.YtokipodjggomfaaGreatDoor.Abs
