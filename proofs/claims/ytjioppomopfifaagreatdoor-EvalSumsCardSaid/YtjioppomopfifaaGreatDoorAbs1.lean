/- An abstract machine that evaluates programs of the model in the kernel, over values that are known in part: its values, its heap, its operations, its frames, its contracts. No condition: definitions alone. -/
import GoSem.Step
import GoSem.Claims
namespace Go.Proofs.YtjioppomopfifaaGreatDoor.Abs
open Go
inductive Tr (α:Type) where
 |nil
 |node (v:Option α) (l r:Tr α)
 deriving Inhabited
noncomputable def Tr.get {α:Type} (t:Tr α):Nat→Option α:=
 @Tr.rec α (fun _=>Nat→Option α) (fun _=>none)
  (fun v _ _ gl gr i=>@Nat.rec (fun _=>Option α) v (fun n _=>@Bool.rec (fun _=>Option α) (gr (Nat.div n 2)) (gl (Nat.div n 2)) (Nat.beq (Nat.mod n 2) 0)) i) t
noncomputable def Tr.upd {α:Type} (x:Option α) (f:Nat):Nat→Tr α→Tr α:=
 @Nat.rec (fun _=>Nat→Tr α→Tr α) (fun _ t=>t)
  (fun _ up i t=>@Nat.rec (fun _=>Tr α)
    (@Tr.rec α (fun _=>Tr α) (.node x .nil .nil) (fun _ l r _ _=>.node x l r) t)
    (fun n _=>@Bool.rec (fun _=>Tr α)
      (@Tr.rec α (fun _=>Tr α) (.node none .nil (up (Nat.div n 2) .nil)) (fun v l r _ _=>.node v l (up (Nat.div n 2) r)) t)
      (@Tr.rec α (fun _=>Tr α) (.node none (up (Nat.div n 2) .nil) .nil) (fun v l r _ _=>.node v (up (Nat.div n 2) l) r) t)
      (Nat.beq (Nat.mod n 2) 0)) i) f
noncomputable def Tr.set {α:Type} (t:Tr α) (i:Nat) (x:α):Tr α:=Tr.upd (some x) (Nat.add i 1) i t
noncomputable def Tr.del {α:Type} (t:Tr α) (i:Nat):Tr α:=Tr.upd none (Nat.add i 1) i t
noncomputable def Tr.pz {α:Type}:List α→Nat→Tr α→Tr α
 | []=>fun _ t=>t
 |x::xs=>fun i t=>Tr.pz xs (Nat.add i 1) (t.set i x)
noncomputable def Tr.ofList {α:Type} (l:List α):Tr α:=Tr.pz l 0 .nil
inductive Kd where
 |any
 |int (k:IntKind)
 |bool
 |str
 |sl (t:TypeId)
 |ptr (t:TypeId) (i:Nat)
 |ifc
 deriving Inhabited
inductive SOp where
 |bin (op:BinOp)
 |un (op:UnOp)
 |conv (k:IntKind)
 |len
 |idx
 |sub
 |ite
 |el
 |off (n:Nat)
 |ld (n:Nat)
 |isNil
 |tk (sz:Nat)
 |sn
 |at (sz k:Nat)
 |nl (ks:List Kd)
 |ns (t:TypeId) (sz:Nat)
 |zs (ks:List Kd) (RJ:List Nat)
 |up (sz k:Nat)
 |sb
 |bs
 |cat
 deriving Inhabited
inductive SE where
 |var (i:Nat)
 |int (k:IntKind) (n:Int)
 |bool (b:Bool)
 |str (s:List UInt8)
 |a1 (o:SOp) (x:SE)
 |a2 (o:SOp) (x y:SE)
 |a3 (o:SOp) (x y z:SE)
 deriving Inhabited
inductive Dt where
 |val (v:Value)
 |sl (v:Value) (t:TypeId) (sz:Nat) (es:List Dt)
 |pt (v:Value) (t:TypeId) (sz:Nat) (es:List Dt) (i k:Nat)
 |ls (ks:List Kd) (es:List Dt)
 deriving Inhabited
def Dt.v:Dt→Value
 | .val v=>v
 | .sl v _ _ _=>v
 | .pt v _ _ _ _ _=>v
 | .ls _ _=>.tuple ⟨[]⟩
inductive Fact where
 |tr (e:SE)
 |fl (e:SE)
 |inr (i n:SE)
 |rel (nm:String) (neg:Bool) (p:List Dt→Prop) (args:List SE)
 deriving Inhabited
def a5k (l:List Dt):Prop:=∃k,l=[.val (.int k 0)]
def adZ (l:List Dt):Prop:=∃k n,l=[.val (.int k n)]∧n < 0
def ac3 (l:List Dt):Prop:=∃s t:ByteArray,l=[.val (.string s),.val (.string t)]∧1099511627776 < s.size+t.size
def CJ (l:List Dt):Prop:=∃k n m,l=[.val (.int k n),.val (.int .i64 m)]∧¬ (0≤n∧n < m)
def a5n (l:List Dt):Prop:=∃k n k' m q,l=[.val (.int k n),.val (.int k' m),.val (.int .i64 q)]∧¬ (0≤n∧n≤m∧m≤q)
def Pj (sz:Nat) (l:List Dt):Prop:=∃ks es k n,l=[.ls ks es,.val (.int k n)]∧¬ (0≤n∧n.toNat * sz+sz≤es.length)
def a5m (sz bytes cnt:Nat) (l:List Dt):Prop:=∃ks es n,l=[.ls ks es,.val (.int .i64 n)]∧¬ (0≤n∧n.toNat * sz≤es.length∧(n.toNat+cnt) * bytes≤68719476736∧n.toNat+cnt≤68719476736)
inductive AV where
 |int (k:IntKind) (n:Int)
 |bool (b:Bool)
 |str (s:List UInt8)
 |ptr (b off:Nat)
 |uN
 |sl (b off len cap:Nat)
 |gQ (b pre e0 len sz:Nat)
 |aW
 |iY (r:Nat)
 |iW
 |fn (f:Fn) (first captured:List AV)
 |yield (l:Nat)
 |qV
 |iface (t:TypeId) (v:AV)
 |qU
 |agg (cs:List AV)
 |ou (vs:List AV)
 |junk
 |raw (v:Value)
 |opq (k:Kd) (e:SE)
 |rE (b:Nat) (n c:SE)
 |lu (b:Nat) (i:SE) (sz k:Nat)
 deriving Inhabited
def gV:Fn→Bool
 | .yield _=>false
 |_=>true
mutual
def AV.ofConst:Value→AV
 | .int k n=>.int k n
 | .bool b=>.bool b
 | .string s=>.str s.data.toList
 | .pointer none=>.uN
 | .slice none 0 0=>.aW
 | .map none=>.iW
 | .nilFunc=>.qV
 | .func f ⟨[]⟩ ⟨[]⟩=>match gV f with|true=>.fn f [] []|false=>.raw (.func f #[] #[])
 | .nilIface=>.qU
 | .iface t v=>.iface t (AV.ofConst v)
 | .agg ⟨l⟩=>.agg (AV.vW l)
 | .tuple ⟨l⟩=>.ou (AV.vW l)
 |v=>.raw v
def AV.vW:List Value→List AV
 | []=>[]
 |v::l=>AV.ofConst v::AV.vW l
end
structure AD where
 target:AV
 args:List AV
 deriving Inhabited
inductive lZ where
 |call (d:AD)
 |collected (r:Nat)
 deriving Inhabited
structure ME where
 k:AV
 v:AV
 born:Nat
 deriving Inhabited
inductive jc where
 |cells (elem:TypeId) (cs:Tr AV) (n fz:Nat) (jX:List Nat) (stale sg:Bool)
 |map (es:List ME) (clock:Nat)
 |vY (m:Option Nat) (since:Nat) (seen:List Nat) (last:Nat)
 |KJ (s:List UInt8) (pos:Nat)
 |jT (ds:Option (List AD))
 |loop (st:LoopState) (pending:Option Code) (fn:FuncId) (nt:Nat) (tmps:Tr AV) (params:List Tmp) (assign body:Code) (defers:Nat)
 |vec (elem:TypeId) (e:SE)
 |tab (elem:TypeId) (k:IntKind) (zs:List Int)
 deriving Inhabited
structure S where
 h:Tr jc
 next:Nat
 pc:List Fact
 deriving Inhabited
inductive R (α:Type) where
 |ok (a:α)
 |bad (why:String)
 |ask (n:Nat) (k:Nat→R α)
 |must (pc:List Fact) (k:R α)
 deriving Inhabited
noncomputable def R.bind {α β:Type} (r:R α) (f:α→R β):R β:=
 @R.rec α (fun _=>R β) f (fun w=>.bad w) (fun n _ ih=>.ask n ih) (fun pc _ ih=>.must pc ih) r
noncomputable instance:Monad R where
 pure:=.ok
 bind:=R.bind
noncomputable def R.xk {α:Type} (why:String):Option α→R α
 |some a=>.ok a
 |none=>.bad why
noncomputable def bP (b:Bool) (why:String):R Unit:=
 match b with
 |true=>.ok ()
 |false=>.bad why
structure TI where
 desc:TypeDesc
 size:Nat
 bytes:Nat
 zero:Option (List AV)
 agg:Bool
 zv:Option AV
 deriving Inhabited
noncomputable def a5Z:TypeDesc→Bool
 | .struct _=>true
 | .array _ _=>true
 |_=>false
noncomputable def MO (types:Array TypeInfo) (i:TypeInfo):TI:=
 let u:TypeDesc:=match i.desc with
  | .named _ u=>((types[u]?).map (·.desc)).getD .invalid
  |d=>d
 { desc:=u,size:=i.size,bytes:=i.bytes,zero:=i.zero.map fun z=>AV.vW z.cells.toList,agg:=a5Z u,zv:=i.zero.map AV.ofConst }
structure AsE where
 g:Nat
 tR:Nat
 hb:Nat
 he:Nat
 tP:Nat
 tF:Nat
 n:Nat
inductive Ext where
 |H8|indexByte|count|cmp|clone|V5
 |index (g:Nat)
 |closed (g t:Nat)
 |as (x:AsE)
noncomputable def sb:List Nat→List UInt8
 | []=>[]
 |n::l=>UInt8.ofNat n::sb l
noncomputable def rp (v:AV):Nat→List AV
 | 0=>[]
 |n+1=>v::rp v n
noncomputable def ap:List AV→List AV→List AV
 | []=>fun m=>m
 |v::l=>fun m=>v::ap l m
inductive MB where
 |cells (elem:TypeId) (cs:List AV) (fz:Nat) (stale sg:Bool)
 |map (es:List ME) (clock:Nat)
 deriving Inhabited
structure iL where
 args:List AV
 next:Nat
 pre:List (Nat×MB)
 res:AV
 last:Nat
 post:List (Nat×MB)
 deriving Inhabited
noncomputable def MB.blk:MB→jc
 | .cells e cs fz st sg=>.cells e (Tr.ofList cs) cs.length fz [] st sg
 | .map es c=>.map es c
noncomputable def GI:List (Nat×MB)→Tr jc→Tr jc
 | []=>fun h=>h
 |x::l=>fun h=>GI l (h.set x.1 x.2.blk)
noncomputable def iL.S (m:iL):S:=⟨GI m.pre .nil,m.next,[]⟩
inductive dL where
 |code (c:Code)
 |inBlock (id:Nat)
 |inLoop (body:Code)
 |inScope (body:Code)
 |inRange (l:Nat)
 |endRange (l:Nat)
 |beginRound
 deriving Inhabited
inductive CB where
 |cells (elem:TypeId) (cs:List AV) (fz:Nat) (stale sg:Bool)
 |jT (ds:List AD)
 |loop (st:LoopState) (pe:Option Code) (fn:FuncId) (nt:Nat) (tmps:List (Nat×AV)) (params:List Tmp) (assign body:Code) (defers:Nat)
 |vec (elem:TypeId) (e:SE)
 |tab (elem:TypeId) (k:IntKind) (zs:List Int)
 |map (es:List ME) (clock:Nat)
 deriving Inhabited
structure uF where
 res:AV
 post:List (Nat×CB)
 facts:List Fact
 m:Nat
 jB:Bool:=false
 deriving Inhabited
structure nK where
 fn:FuncId
 nt:Nat
 round:Option Nat
 t:List (Nat×AV)
 todo:List dL
 n:Nat
 pre:List (Nat×CB)
 facts:List Fact
 outs:List uF
 deriving Inhabited
structure Ctx where
 P:Program
 T:Tr TI
 F:Tr Func
 nG:Nat
 eqT:Nat→Bool
 X:List (FuncId×Ext)
 M:List (FuncId×iL)
 K:List nK
 L:List nK
 deriving Inhabited
noncomputable def mkCtx (P:Program) (eqT:Nat→Bool) (X:List (FuncId×Ext)) (M:List (FuncId×iL):=[]) (K:List nK:=[]) (L:List nK:=[]):Ctx:={ P,T:=Tr.ofList (P.types.toList.map (MO P.types)),F:=Tr.ofList P.funcs.toList,nG:=P.globals.size,eqT,X,M,K,L }
noncomputable def ti (C:Ctx) (t:TypeId):R TI:=R.xk "no type" (C.T.get t)
noncomputable def under (C:Ctx) (t:TypeId):R TypeDesc:=do let i ←ti C t;.ok i.desc
noncomputable def zeroOf (C:Ctx) (t:TypeId):R (List AV):=do let i ←ti C t;R.xk "no zero" i.zero
noncomputable def nM (C:Ctx) (t:TypeId):R AV:=do let i ←ti C t;R.xk "no zero value" i.zv
noncomputable def S.new (s:S) (b:jc):S:=⟨s.h.set s.next b,Nat.add s.next 1,s.pc⟩
noncomputable def AV.cells:AV→R (List AV)
 | .agg cs=>.ok cs
 | .junk=>.bad "cells"
 | .raw v=>match v with
   | .agg _=>.bad "cells"
   |v=>.ok [.raw v]
 |v=>.ok [v]
noncomputable def CQ (v:AV):R AV:=
 @AV.rec (fun _=>R AV) (fun _=>Unit) (fun _ _=>.ok v) (fun _=>.ok v) (fun _=>.ok v) (fun _ _=>.ok v) (.ok v) (fun _ _ _ _=>.ok v) (fun _ _ _ _ _=>.ok v) (.ok v) (fun _=>.ok v) (.ok v)
  (fun _ _ _ _ _=>.ok v) (fun _=>.ok v) (.ok v) (fun _ _ _=>.ok v) (.ok v) (fun _ _=>.ok v) (fun _ _=>.ok v) (.bad "junk read") (fun _=>.ok v) (fun _ _=>.ok v) (fun _ _ _=>.ok v) (fun _ _ _ _=>.ok v) () (fun _ _ _ _=>()) v
noncomputable def getCells (cs:Tr AV):Nat→Nat→R (List AV)
 | 0=>fun _=>.ok []
 |k+1=>fun off=>
  match cs.get off with
  |some v=>do let v ←CQ v;let l ←getCells cs k (Nat.add off 1);.ok (v::l)
  |none=>.bad "getCells: hole"
noncomputable def rdCells (s:S) (b off k:Nat):R (List AV):=
 match s.h.get b with
 |some (.cells _ cs n _ _ _ _)=>
  match Nat.ble (Nat.add off k) n with
  |true=>getCells cs k off
  |false=>.bad "rdCells: beyond"
 |_=>.bad "rdCells: no cells"
noncomputable def ofCells:Bool→List AV→R AV
 |true=>fun l=>.ok (.agg l)
 |false=>fun l=>match l with
  | [v]=>.ok v
  |_=>.bad "ofCells"
noncomputable def jL (elem:TypeId) (cs:List AV):jc:=.cells elem (Tr.ofList cs) cs.length 0 [] false false
noncomputable def qN:List Nat→Tr jc→Tr jc
 | []=>fun h=>h
 |a::l=>fun h=>qN l (h.del a)
noncomputable def abp:AV→Bool
 | .agg _=>false
 | .ou _=>false
 | .junk=>false
 | .raw v=>match v with
   | .agg _=>false
   | .tuple _=>false
   |_=>true
 |_=>true
noncomputable def oh:List AV→Bool
 | []=>true
 |v::l=>match abp v with
  |true=>oh l
  |false=>false
noncomputable def jy (s:S) (b off:Nat) (vs:List AV):R S:=
 match vs with
 | []=>.ok s
 |v::vs'=>
  match s.h.get b with
  |some (.cells elem cs n fz jX stale sg)=>
   match !stale && Nat.ble (Nat.add off (v::vs').length) n && Nat.ble fz off && oh (v::vs') with
   |true=>.ok ⟨(qN jX s.h).set b (.cells elem (Tr.pz (v::vs') off cs) n fz [] false sg),s.next,s.pc⟩
   |false=>.bad "write"
  |_=>.bad "write: no cells"
noncomputable def Af (a b:IntKind):Bool:=decide (a=b)
noncomputable def o7 (a b:Kd):Bool:=
 match a with
 | .any=>match b with| .any=>true|_=>false
 | .int x=>match b with| .int y=>Af x y|_=>false
 | .bool=>match b with| .bool=>true|_=>false
 | .str=>match b with| .str=>true|_=>false
 | .sl x=>match b with| .sl y=>Nat.beq x y|_=>false
 | .ptr x i=>match b with| .ptr y j=>Nat.beq x y && Nat.beq i j|_=>false
 | .ifc=>match b with| .ifc=>true|_=>false
noncomputable def wU:AV→Kd
 | .int k _=>.int k
 | .bool _=>.bool
 | .str _=>.str
 | .opq k _=>k
 |_=>.any
noncomputable def dW:AV→SE
 | .int k n=>.int k n
 | .bool b=>.bool b
 | .str s=>.str s
 | .opq _ e=>e
 |_=>.bool true
noncomputable def adb (C:Ctx) (t:TypeId):Kd:=
 match C.T.get t with
 |some i=>match i.desc with
  | .int k=>.int k
  | .bool=>.bool
  | .string=>.str
  | .slice e=>.sl e
  |_=>.any
 |none=>.any
noncomputable def Ze (C:Ctx):List TypeId→List Kd
 | []=>[]
 |t::l=>adb C t::Ze C l
noncomputable def aJ (C:Ctx) (t:TypeId):List Kd:=
 match C.P.cellTypes C.P.depth t with
 |some l=>Ze C l
 |none=>[]
noncomputable def Wh (e:SE):Nat→List Kd→Nat→R (List AV)
 | 0=>fun _ _=>.ok []
 |n+1=>fun ks m=>match ks with
  | []=>.bad "load: beyond the element"
  |k::ks=>do
   let l ←Wh e n ks (Nat.add m 1)
   .ok (.opq k (.a1 (.ld m) e)::l)
noncomputable def X5 (e i:SE) (sz:Nat):Nat→List Kd→Nat→R (List AV)
 | 0=>fun _ _=>.ok []
 |n+1=>fun ks m=>match ks with
  | []=>.bad "load: beyond the element"
  |k::ks=>do
   let l ←X5 e i sz n ks (Nat.add m 1)
   .ok (.opq k (.a2 (.at sz m) e i)::l)
noncomputable def V8 (C:Ctx) (s:S) (t:TypeId) (b:Nat) (i:SE) (sz k:Nat):R AV:=
 match s.h.get b with
 |some (.vec el e)=>do
  let j ←ti C t
  bP (Nat.beq sz (aJ C el).length) "load: size"
  .must (.rel "hole" false (Pj sz) [e,i]::s.pc) ((X5 e i sz (match j.agg with|true=>j.size|false=>1) ((aJ C el).drop k) k).bind fun l=>ofCells j.agg l)
 |_=>.bad "load: no cells"
noncomputable def loadAt (C:Ctx) (s:S) (t:TypeId):AV→R AV
 | .opq k e=>match k with
   | .ptr u j=>do
     let i ←ti C t
     let l ←Wh e (match i.agg with|true=>i.size|false=>1) ((aJ C u).drop j) 0
     ofCells i.agg l
   |_=>.bad "load: unknown"
 | .ptr b off=>do
   let i ←ti C t
   let l ←rdCells s b off (match i.agg with|true=>i.size|false=>1)
   ofCells i.agg l
 | .lu b i sz k=>V8 C s t b i sz k
 |_=>.bad "load: not an address"
noncomputable def iq:List UInt8→List UInt8→Bool
 | []=>fun y=>match y with| []=>true|_=>false
 |a::x=>fun y=>match y with
  | []=>false
  |b::y=>match Nat.beq a.toNat b.toNat with|true=>iq x y|false=>false
noncomputable def iEq (a b:Int):Bool:=decide (a=b)
noncomputable def ad1 (a b:BinOp):Bool:=decide (a=b)
noncomputable def adW (a b:UnOp):Bool:=decide (a=b)
noncomputable def EF:List Kd→List Kd→Bool
 | []=>fun y=>match y with| []=>true|_::_=>false
 |a::x=>fun y=>match y with
  | []=>false
  |b::y=>o7 a b && EF x y
def BI:Kd→Bool
 | .int _=>true
 | .bool=>true
 | .str=>true
 | .sl _=>true
 |_=>false
noncomputable def V6:List Nat→List Nat→Bool
 | []=>fun y=>match y with| []=>true|_::_=>false
 |a::x=>fun y=>match y with
  | []=>false
  |b::y=>Nat.beq a b && V6 x y
noncomputable def Yn (a b:SOp):Bool:=
 match a with
 | .bin x=>match b with| .bin y=>ad1 x y|_=>false
 | .un x=>match b with| .un y=>adW x y|_=>false
 | .conv x=>match b with| .conv y=>Af x y|_=>false
 | .len=>match b with| .len=>true|_=>false
 | .idx=>match b with| .idx=>true|_=>false
 | .sub=>match b with| .sub=>true|_=>false
 | .ite=>match b with| .ite=>true|_=>false
 | .el=>match b with| .el=>true|_=>false
 | .off x=>match b with| .off y=>Nat.beq x y|_=>false
 | .ld x=>match b with| .ld y=>Nat.beq x y|_=>false
 | .isNil=>match b with| .isNil=>true|_=>false
 | .tk x=>match b with| .tk y=>Nat.beq x y|_=>false
 | .sn=>match b with| .sn=>true|_=>false
 | .at x y=>match b with| .at x' y'=>Nat.beq x x' && Nat.beq y y'|_=>false
 | .nl x=>match b with| .nl y=>EF x y|_=>false
 | .ns x y=>match b with| .ns x' y'=>Nat.beq x x' && Nat.beq y y'|_=>false
 | .zs x y=>match b with| .zs x' y'=>EF x x' && V6 y y'|_=>false
 | .up x y=>match b with| .up x' y'=>Nat.beq x x' && Nat.beq y y'|_=>false
 | .sb=>match b with| .sb=>true|_=>false
 | .bs=>match b with| .bs=>true|_=>false
 | .cat=>match b with| .cat=>true|_=>false
noncomputable def fZ:SE→SE→Bool
 | .var i=>fun b=>match b with| .var j=>Nat.beq i j|_=>false
 | .int k n=>fun b=>match b with| .int k' m=>Af k k' && iEq n m|_=>false
 | .bool x=>fun b=>match b with| .bool y=>x==y|_=>false
 | .str x=>fun b=>match b with| .str y=>iq x y|_=>false
 | .a1 o x=>fun b=>match b with| .a1 o' x'=>Yn o o' && fZ x x'|_=>false
 | .a2 o x y=>fun b=>match b with| .a2 o' x' y'=>Yn o o' && fZ x x' && fZ y y'|_=>false
 | .a3 o x y z=>fun b=>match b with| .a3 o' x' y' z'=>Yn o o' && fZ x x' && fZ y y' && fZ z z'|_=>false
noncomputable def seK (C:Ctx) (k:Kd) (v:AV):Option SE:=
 match v with
 | .aW=>match k with
   | .sl t=>some (.a1 (.ns t (aJ C t).length) (.bool true))
   |_=>none
 |v=>match o7 (wU v) k && !o7 k .any with
  |true=>some (dW v)
  |false=>none
noncomputable def yS (C:Ctx) (ks0:List Kd):List AV→List Kd→SE→Option SE
 | []=>fun _ e=>some e
 |v::l=>fun ks e=>match ks with
  | []=>match ks0 with
    | []=>none
    |q::ks=>match seK C q v with
     |some x=>yS C ks0 l ks (.a2 .sn e x)
     |none=>none
  |q::ks=>match seK C q v with
   |some x=>yS C ks0 l ks (.a2 .sn e x)
   |none=>none
noncomputable def wS:SE→List SE→SE×List SE
 | .a2 o x y=>fun acc=>match o with
   | .sn=>wS x (y::acc)
   |o=>(.a2 o x y,acc)
 | .var i=>fun acc=>(.var i,acc)
 | .int k n=>fun acc=>(.int k n,acc)
 | .bool b=>fun acc=>(.bool b,acc)
 | .str s=>fun acc=>(.str s,acc)
 | .a1 o x=>fun acc=>(.a1 o x,acc)
 | .a3 o x y z=>fun acc=>(.a3 o x y z,acc)
noncomputable def yD (ks0:List Kd):List SE→List Kd→List AV
 | []=>fun _=>[]
 |x::l=>fun ks=>match ks with
  | []=>match ks0 with
    | []=>[]
    |q::ks=>.opq q x::yD ks0 l ks
  |q::ks=>.opq q x::yD ks0 l ks
noncomputable def a4F (e:SE):Option (Nat×SE):=
 match e with
 | .a2 o _ n=>match o with
   | .tk sz=>some (sz,n)
   |_=>none
 |_=>none
noncomputable def nth {α:Type}:List α→Nat→Option α
 | []=>fun _=>none
 |x::l=>fun i=>match i with
  | 0=>some x
  |n+1=>nth l n
noncomputable def Gq (C:Ctx) (ks:List Kd) (sz:Nat) (i:SE):List AV→Nat→SE→Option SE
 | []=>fun _ e=>some e
 |v::l=>fun k e=>match nth ks k with
  |some q=>match seK C q v with
   |some x=>Gq C ks sz i l (Nat.add k 1) (.a3 (.up sz k) e i x)
   |none=>none
  |none=>none
noncomputable def DT (C:Ctx) (s:S) (b:Nat) (i:SE) (sz k:Nat) (c:List AV):R S:=
 match s.h.get b with
 |some (.vec el y)=>match Nat.beq sz (aJ C el).length && (!Nat.beq sz 0 && (Nat.ble (Nat.add k c.length) sz && oh c)) with
  |false=>.bad "store: place"
  |true=>match Gq C (aJ C el) sz i c k y with
   |some y'=>.must (.rel "hole" false (Pj sz) [y,i]::s.pc) (.ok ⟨s.h.set b (.vec el y'),s.next,s.pc⟩)
   |none=>.bad "store: a cell"
 |_=>.bad "store: no cells"
noncomputable def ni (C:Ctx) (s:S) (b:Nat) (i:SE) (sz k:Nat) (c:List AV):R S:=
 match s.h.get b with
 |some (.vec el y)=>match a4F (wS y []).1 with
  |none=>DT C s b i sz k c
  |some p=>match (Nat.beq p.1 sz && fZ p.2 i) && (Nat.beq sz (aJ C el).length && (!Nat.beq sz 0 && (Nat.ble (Nat.add k c.length) (wS y []).2.length && oh c))) with
   |false=>DT C s b i sz k c
   |true=>match yS C (aJ C el) ((yD (aJ C el) (wS y []).2 (aJ C el)).take k++c++(yD (aJ C el) (wS y []).2 (aJ C el)).drop (Nat.add k c.length)) (aJ C el) (wS y []).1 with
    |some y'=>.ok ⟨s.h.set b (.vec el y'),s.next,s.pc⟩
    |none=>.bad "store: a cell"
 |_=>.bad "store: no cells"
noncomputable def storeAt (C:Ctx) (s:S) (t:TypeId) (a v:AV):R S:=
 match a with
 | .ptr b off=>do
   let i ←ti C t
   let c ←v.cells
   match Nat.beq c.length i.size with
   |true=>jy s b off c
   |false=>.bad "store: size"
 | .lu b k sz q=>do
   let i ←ti C t
   let c ←v.cells
   match Nat.beq c.length i.size with
   |true=>ni C s b k sz q c
   |false=>.bad "store: size"
 |_=>.bad "store: not an address"
noncomputable def rO (place:Nat→Option (Nat×Nat)):List (Nat×AV)→List AV→R (List AV)
 | []=>fun cells=>.ok cells
 | (i,v)::rest=>fun cells=>
   match place i with
   |none=>.bad "fill: place"
   |some (off,size)=>do
    let c ←v.cells
    match Nat.beq c.length size && Nat.ble (Nat.add off size) cells.length with
    |true=>rO place rest (cells.take off++c++cells.drop (Nat.add off size))
    |false=>.bad "fill: size"
noncomputable def asInt:AV→R Int
 | .int _ n=>.ok n
 |_=>.bad "int expected"
noncomputable def BA:AV→R Nat
 | .int _ (.ofNat n)=>.ok n
 |_=>.bad "index: no natural"
noncomputable def adV:AV→R Bool
 | .bool b=>.ok b
 |_=>.bad "bool expected"
noncomputable def Fp (zero:List AV):Nat→List AV
 | 0=>[]
 |n+1=>zero++Fp zero n
noncomputable def partOf (C:Ctx) (t:TypeId) (cs:List AV) (off:Nat):R AV:=do
 let i ←ti C t
 match i.agg with
 |true=>.ok (.agg ((cs.drop off).take i.size))
 |false=>R.xk "part" (nth cs off)
inductive Nx where
 |val (v:AV) (s:S)
 |skip (s:S)
 |enter (f:FuncId) (args:List AV) (s:S)
 |round (l:Nat) (args:List AV) (s:S)
 |defer (d:AD) (s:S)
 |recover (s:S)
 |jB (v:AV) (s:S)
 deriving Inhabited
noncomputable def nS:List UInt8→List UInt8→Bool
 | []=>fun y=>match y with| []=>false|_=>true
 |a::x=>fun y=>match y with
  | []=>false
  |b::y=>match Nat.blt a.toNat b.toNat with
   |true=>true
   |false=>match Nat.beq a.toNat b.toNat with|true=>nS x y|false=>false
noncomputable def intOp:BinOp→IntKind→Int→Int→R AV
 | .add=>fun k x y=>.ok (.int k (k.wrap (x+y)))
 | .sub=>fun k x y=>.ok (.int k (k.wrap (x - y)))
 | .mul=>fun k x y=>.ok (.int k (k.wrap (x * y)))
 | .quo=>fun k x y=>match decide (y=0) with|true=>.bad "div by zero" |false=>.ok (.int k (k.wrap (x.tdiv y)))
 | .rem=>fun k x y=>match decide (y=0) with|true=>.bad "mod by zero" |false=>.ok (.int k (x.tmod y))
 | .and=>fun k x y=>.ok (.int k (k.wrap (BitVec.ofInt k.bits x &&& BitVec.ofInt k.bits y).toNat))
 | .or=>fun k x y=>.ok (.int k (k.wrap (BitVec.ofInt k.bits x |||BitVec.ofInt k.bits y).toNat))
 | .xor=>fun k x y=>.ok (.int k (k.wrap (BitVec.ofInt k.bits x ^^^ BitVec.ofInt k.bits y).toNat))
 | .andNot=>fun k x y=>.ok (.int k (k.wrap (BitVec.ofInt k.bits x &&& ~~~ BitVec.ofInt k.bits y).toNat))
 | .eql=>fun _ x y=>.ok (.bool (decide (x=y)))
 | .neq=>fun _ x y=>.ok (.bool (!decide (x=y)))
 | .lss=>fun _ x y=>.ok (.bool (decide (x < y)))
 | .leq=>fun _ x y=>.ok (.bool (decide (x≤y)))
 | .gtr=>fun _ x y=>.ok (.bool (decide (y < x)))
 | .geq=>fun _ x y=>.ok (.bool (decide (y≤x)))
 |_=>fun _ _ _=>.bad "intOp"
noncomputable def shiftOp (op:BinOp) (k:IntKind) (x y:Int):R AV:=
 match decide (y < 0) with
 |true=>.bad "negative shift"
 |false=>
  match op with
  | .shl=>.ok (.int k (k.wrap (x * 2 ^ (min y.toNat k.bits))))
  | .shr=>.ok (.int k (x.fdiv (2 ^ (min y.toNat k.bits))))
  |_=>.bad "shiftOp"
noncomputable def strOp:BinOp→List UInt8→List UInt8→R AV
 | .add=>fun x y=>match Nat.ble (Nat.add x.length y.length) 1099511627776 with|true=>.ok (.str (x++y))|false=>.bad "too long"
 | .eql=>fun x y=>.ok (.bool (iq x y))
 | .neq=>fun x y=>.ok (.bool (!iq x y))
 | .lss=>fun x y=>.ok (.bool (nS x y))
 | .leq=>fun x y=>.ok (.bool (nS x y || iq x y))
 | .gtr=>fun x y=>.ok (.bool (!(nS x y || iq x y)))
 | .geq=>fun x y=>.ok (.bool (!nS x y))
 |_=>fun _ _=>.bad "strOp"
noncomputable def eqFields (C:Ctx) (eq:TypeId→AV→AV→R Bool) (a b:List AV):List Field→R Bool
 | []=>.ok true
 |f::fs=>match f.name== "_" with
  |true=>eqFields C eq a b fs
  |false=>do
   let u ←partOf C f.type a f.offset
   let v ←partOf C f.type b f.offset
   let r ←eq f.type u v
   match r with
   |true=>eqFields C eq a b fs
   |false=>.ok false
noncomputable def wZ (s:S) (b i:Nat):Bool:=
 match s.h.get b with
 |some (.cells _ _ n fz _ st sg)=> !st && Nat.ble fz i && Nat.ble i n && !sg
 |_=>false
noncomputable def ZF (C:Ctx) (s:S):Nat→TypeId→AV→AV→R Bool
 | 0=>fun _ _ _=>.bad "eq: depth"
 |d+1=>fun t x y=>do
  match ←under C t with
  | .bool=>match x,y with
    | .bool a,.bool b=>.ok (a==b)
    |_,_=>.bad "eq bool"
  | .int _=>match x,y with
    | .int k a,.int k' b=>match decide (k=k') with|true=>.ok (decide (a=b))|false=>.bad "eq kinds"
    |_,_=>.bad "eq int"
  | .string=>match x,y with
    | .str a,.str b=>.ok (iq a b)
    |_,_=>.bad "eq string"
  | .pointer e=>match x,y with
    | .uN,.uN=>.ok true
    | .uN,.ptr _ _=>.ok false
    | .ptr _ _,.uN=>.ok false
    | .ptr a i,.ptr b j=>do
      let i' ←ti C e
      bP (!Nat.beq i'.size 0) "eq: pointers to nothing"
      match Nat.beq a b with
      |true=>.ok (Nat.beq i j)
      |false=>do
       bP (wZ s a i && wZ s b j) "eq: pointers"
       .ok false
    |_,_=>.bad "eq pointer"
  | .interface _=>match x,y with
    | .qU,.qU=>.ok true
    | .qU,.iface _ _=>.ok false
    | .iface _ _,.qU=>.ok false
    | .iface tx vx,.iface ty vy=>
      match Nat.beq tx ty with
      |false=>.ok false
      |true=>
       match C.P.types[tx]? with
       |some i=>match i.comparable with
        |true=>ZF C s d tx vx vy
        |false=>.bad "eq: not comparable"
       |none=>.bad "eq: no type"
    |_,_=>.bad "eq interface"
  | .slice _=>match x,y with
    | .aW,.aW=>.ok true
    | .aW,.sl ..=>.ok false
    | .aW,.gQ ..=>.ok false
    | .sl ..,.aW=>.ok false
    | .gQ ..,.aW=>.ok false
    |_,_=>.bad "eq slice"
  | .map _ _=>match x,y with
    | .iW,.iW=>.ok true
    | .iW,.iY _=>.ok false
    | .iY _,.iW=>.ok false
    |_,_=>.bad "eq map"
  | .struct fs=>match x,y with
    | .agg a,.agg b=>do
      bP (!C.P.stoodInHeld t) "eq: struct"
      eqFields C (ZF C s d) a b fs.toList
    |_,_=>.bad "eq struct"
  | .func _ _ _=>match x,y with
    | .qV,.qV=>.ok true
    | .qV,.fn ..=>.ok false
    | .fn ..,.qV=>.ok false
    |_,_=>.bad "eq func"
  |_=>.bad "eq: unsupported"
noncomputable def dB:BinOp→Bool
 | .shl=>true
 | .shr=>true
 |_=>false
noncomputable def dO:Operand→Bool
 | .const _=>true
 |_=>false
noncomputable def QO (C:Ctx) (t:TypeId) (c:Bool) (x y:AV):R Unit:=
 match x with
 | .qU=>match y with
   | .qU=>bP c "eq: two nils"
   | .raw _=>.bad "eq: raw"
   | .opq _ _=>.bad "eq: unknown"
   |_=>.ok ()
 | .agg _=>bP (!C.P.eqGuardType C.P.depth t) "eq: guard"
 | .raw _=>.bad "eq: raw"
 | .opq _ _=>.bad "eq: unknown"
 |_=>match y with
  | .raw _=>.bad "eq: raw"
  | .opq _ _=>.bad "eq: unknown"
  |_=>.ok ()
noncomputable def abU (C:Ctx) (s:S) (op:BinOp) (t:TypeId) (c:Bool) (x y:AV):R AV:=
 match op with
 | .eql=>do QO C t c x y;let r ←ZF C s 100 t x y;.ok (.bool r)
 | .neq=>do QO C t c x y;let r ←ZF C s 100 t x y;.ok (.bool (!r))
 |_=>.bad "bin"
noncomputable def nX (C:Ctx) (s:S) (op:BinOp) (t:TypeId) (c:Bool) (x y:AV):R AV:=
 match x,y with
 | .int k a,.int k' b=>
   match dB op with
   |true=>shiftOp op k a b
   |false=>match decide (k=k') with|true=>intOp op k a b|false=>.bad "bin kinds"
 | .str a,.str b=>strOp op a b
 | .raw _,_=>.bad "bin: raw"
 |_,.raw _=>.bad "bin: raw"
 | .opq _ _,_=>.bad "bin: unknown"
 |_,.opq _ _=>.bad "bin: unknown"
 |x,y=>abU C s op t c x y
noncomputable def uG:BinOp→Bool
 | .eql=>true
 | .neq=>true
 | .lss=>true
 | .leq=>true
 | .gtr=>true
 | .geq=>true
 |_=>false
noncomputable def Ac (e:SE):List Fact→Option Bool
 | []=>none
 |f::l=>match f with
  | .tr x=>match fZ x e with
    |true=>some true
    |false=>Ac e l
  | .fl x=>match fZ x e with
    |true=>some false
    |false=>Ac e l
  | .inr _ _=>Ac e l
  | .rel _ _ _ _=>Ac e l
abbrev Bds:=Option Int×Option Int
noncomputable def Lr (a:Option Int) (n:Int):Option Int:=
 match a with
 |none=>some n
 |some m=>match decide (m < n) with|true=>some n|false=>some m
noncomputable def LC (a:Option Int) (n:Int):Option Int:=
 match a with
 |none=>some n
 |some m=>match decide (n < m) with|true=>some n|false=>some m
noncomputable def isO (a:Option Int) (c:Int):Bool:=
 match a with
 |none=>false
 |some m=>decide (m=c)
noncomputable def Vl (c:Int) (x:Bds):Bds:=
 (match isO x.1 c with|true=>some (c+1)|false=>x.1,match isO x.2 c with|true=>some (c - 1)|false=>x.2)
noncomputable def adM (op:BinOp) (b:Bool) (c:Int) (x:Bds):Bds:=
 match op with
 | .eql=>match b with|true=>(Lr x.1 c,LC x.2 c)|false=>Vl c x
 | .neq=>match b with|false=>(Lr x.1 c,LC x.2 c)|true=>Vl c x
 | .lss=>match b with|true=>(x.1,LC x.2 (c - 1))|false=>(Lr x.1 c,x.2)
 | .leq=>match b with|true=>(x.1,LC x.2 c)|false=>(Lr x.1 (c+1),x.2)
 | .gtr=>match b with|true=>(Lr x.1 (c+1),x.2)|false=>(x.1,LC x.2 c)
 | .geq=>match b with|true=>(Lr x.1 c,x.2)|false=>(x.1,LC x.2 (c - 1))
 |_=>x
noncomputable def Aj:BinOp→BinOp
 | .lss=>.gtr
 | .leq=>.geq
 | .gtr=>.lss
 | .geq=>.leq
 |op=>op
noncomputable def lT:BinOp→Bool
 | .eql=>true| .neq=>true| .lss=>true| .leq=>true| .gtr=>true| .geq=>true|_=>false
noncomputable def Rf (e:SE):Option (BinOp×SE×IntKind×Int):=
 match e with
 | .a2 o x y=>match o with
   | .bin op=>match lT op with
     |false=>none
     |true=>match y with
      | .int k c=>some (op,x,k,c)
      |_=>match x with
       | .int k c=>some (Aj op,y,k,c)
       |_=>none
   |_=>none
 |_=>none
noncomputable def Gl (x:SE) (k:IntKind) (e:SE) (b:Bool) (m:Bds):Bds:=
 match Rf e with
 |some (op,y,k',c)=>match Af k k' && fZ x y with
  |true=>adM op b c m
  |false=>m
 |none=>m
noncomputable def wM (x:SE) (k:IntKind):List Fact→Bds→Bds
 | []=>fun m=>m
 |f::l=>fun m=>match f with
  | .tr e=>Gl x k e true (wM x k l m)
  | .fl e=>Gl x k e false (wM x k l m)
  |_=>wM x k l m
noncomputable def Wp:SE→Bool
 | .a1 o _=>match o with| .len=>true|_=>false
 |_=>false
noncomputable def Uy (a:Option Int) (n:Int):Bool:=match a with|some m=>decide (m≤n)|none=>false
noncomputable def Wx (a:Option Int) (n:Int):Bool:=match a with|some m=>decide (n≤m)|none=>false
noncomputable def ET (op:BinOp) (c:Int) (m:Bds):Option Bool:=
 match op with
 | .eql=>match Wx m.1 (c+1) || Uy m.2 (c - 1) with|true=>some false|false=>match Wx m.1 c && Uy m.2 c with|true=>some true|false=>none
 | .neq=>match Wx m.1 (c+1) || Uy m.2 (c - 1) with|true=>some true|false=>match Wx m.1 c && Uy m.2 c with|true=>some false|false=>none
 | .lss=>match Uy m.2 (c - 1) with|true=>some true|false=>match Wx m.1 c with|true=>some false|false=>none
 | .leq=>match Uy m.2 c with|true=>some true|false=>match Wx m.1 (c+1) with|true=>some false|false=>none
 | .gtr=>match Wx m.1 (c+1) with|true=>some true|false=>match Uy m.2 c with|true=>some false|false=>none
 | .geq=>match Wx m.1 c with|true=>some true|false=>match Uy m.2 (c - 1) with|true=>some false|false=>none
 |_=>none
noncomputable def a0A (e:SE) (pc:List Fact):Option (Int×Int):=
 match wM e .i64 pc (none,none) with
 | (a,b)=>match a with
   |some l=>match b with
    |some h=>some (l,h)
    |none=>none
   |none=>none
noncomputable def acQ (a b:Option (Int×Int)):Option (Int×Int):=
 match a with
 |some (l,h)=>match b with
  |some (l',h')=>match decide (-4611686018427387904≤l+l') && decide (h+h'≤4611686018427387904) with
   |true=>some (l+l',h+h')
   |false=>none
  |none=>none
 |none=>none
noncomputable def abd (a b:Option (Int×Int)):Option (Int×Int):=
 match a with
 |some (l,h)=>match b with
  |some (l',h')=>match decide (-4611686018427387904≤l - h') && decide (h - l'≤4611686018427387904) with
   |true=>some (l - h',h - l')
   |false=>none
  |none=>none
 |none=>none
noncomputable def yw (pc:List Fact):SE→Option (Int×Int)
 | .int k n=>match k with
   | .i64=>match decide (-4611686018427387904≤n) && decide (n≤4611686018427387904) with
     |true=>some (n,n)
     |false=>none
   |_=>none
 | .a2 o x y=>match a0A (.a2 o x y) pc with
   |some r=>some r
   |none=>match o with
    | .bin op=>match op with
      | .add=>acQ (yw pc x) (yw pc y)
      | .sub=>abd (yw pc x) (yw pc y)
      |_=>none
    |_=>none
 | .var i=>a0A (.var i) pc
 | .a1 o x=>a0A (.a1 o x) pc
 | .a3 o x y z=>a0A (.a3 o x y z) pc
 |_=>none
noncomputable def inR (e:SE) (lo hi:Int) (pc:List Fact):Bool:=
 match yw pc e with
 |some (l,h)=>decide (lo≤l) && decide (h≤hi)
 |none=>false
noncomputable def abb (op:BinOp) (x:SE) (k:IntKind) (c:Int) (pc:List Fact):Option Bool:=
 match Af k .i64 with
 |true=>match yw pc x with
  |some (l,h)=>ET op c (some l,some h)
  |none=>none
 |false=>none
noncomputable def a0F (e:SE) (pc:List Fact):Option Bool:=
 match e with
 | .a2 o x y=>match o with
   | .bin op=>match lT op with
     |true=>match yw pc x with
      |some (l,h)=>match yw pc y with
       |some (l',h')=>ET op 0 (some (l - h'),some (h - l'))
       |none=>none
      |none=>none
     |false=>none
   |_=>none
 |_=>none
noncomputable def XY (e:SE) (pc:List Fact):Option Bool:=
 match Rf e with
 |some (op,x,k,c)=>match ET op c (wM x k pc (match Wp x with|true=>(some 0,none)|false=>(none,none))) with
  |some b=>some b
  |none=>abb op x k c pc
 |none=>a0F e pc
noncomputable def a3U (e:SE):Option (Bool×SE×SE):=
 match e with
 | .a2 o x y=>match o with
   | .bin op=>match op with
     | .eql=>some (true,x,y)
     | .neq=>some (false,x,y)
     |_=>none
   |_=>none
 |_=>none
noncomputable def Og (a b:Bool):Bool:=
 match a with
 |true=>b
 |false=> !b
noncomputable def Ky (x y e:SE) (b:Bool):Option Bool:=
 match a3U e with
 |some (p,u,v)=>match (fZ u x && fZ v y) || (fZ u y && fZ v x) with
  |true=>some (Og p b)
  |false=>none
 |none=>none
noncomputable def qm (x y:SE):List Fact→Option Bool
 | []=>none
 |f::l=>match f with
  | .tr e=>match Ky x y e true with
    |some b=>some b
    |none=>qm x y l
  | .fl e=>match Ky x y e false with
    |some b=>some b
    |none=>qm x y l
  | .inr _ _=>qm x y l
  | .rel _ _ _ _=>qm x y l
noncomputable def a7c (e:SE) (pc:List Fact):Option Bool:=
 match a3U e with
 |some (p,x,y)=>match fZ x y with
  |true=>some p
  |false=>match qm x y pc with
   |some b=>some (Og p b)
   |none=>none
 |none=>none
noncomputable def xu (e:SE) (pc:List Fact):Option Bool:=
 match Ac e pc with
 |some b=>some b
 |none=>match XY e pc with
  |some b=>some b
  |none=>a7c e pc
noncomputable def Y0 (e:SE):Option SE:=
 match e with
 | .a1 o x=>match o with
   | .un u=>match u with
     | .not=>some x
     |_=>none
   |_=>none
 |_=>none
noncomputable def sF (e:SE) (pc:List Fact):Option Bool:=
 match Y0 e with
 |some x=>match xu x pc with
  |some b=>some (!b)
  |none=>none
 |none=>xu e pc
noncomputable def ZT (s:S) (e:SE):AV:=
 match sF e s.pc with
 |some b=>.bool b
 |none=>.opq .bool e
noncomputable def J6 (e:SE):Bool:=
 match e with
 | .int _ n=>(match n with| .ofNat _=>true| .negSucc _=>false)
 |_=>false
noncomputable def Uw (pc:List Fact) (e:SE):Option Nat:=
 match (wM (.a1 .len e) .i64 pc (some 0,none)).2 with
 |some m=>some m.toNat
 |none=>none
noncomputable def Bq (pc:List Fact):SE→Option Nat
 | .str s=>some s.length
 | .a2 o x y=>(match o with
   | .bin op=>(match op with
     | .add=>(match Bq pc x with
       |some a=>(match Bq pc y with
        |some b=>some (Nat.add a b)
        |none=>none)
       |none=>none)
     |_=>Uw pc (.a2 o x y))
   |_=>Uw pc (.a2 o x y))
 | .a3 o x y z=>(match o with
   | .sub=>Bq pc x
   |_=>Uw pc (.a3 o x y z))
 |e=>Uw pc e
noncomputable def Wy (pc:List Fact) (x y:SE):Bool:=
 match Bq pc x with
 |some a=>(match Bq pc y with
  |some b=>Nat.ble (Nat.add a b) 1099511627776
  |none=>false)
 |none=>false
noncomputable def a09 (e:SE) (n:Nat):Bool:=
 match e with
 | .int _ m=>(match m with
   | .ofNat q=>Nat.beq q n
   | .negSucc _=>false)
 |_=>false
noncomputable def abh (e:SE):Option SE:=
 match e with
 | .a2 o x y=>match o with
   | .bin op=>match op with
     | .shl=>match a09 y 4 with
       |true=>some x
       |false=>none
     |_=>none
   |_=>none
 |_=>none
noncomputable def JI (e:SE):Option (SE×Nat):=
 match e with
 | .a2 o x y=>match o with
   | .bin op=>match op with
     | .or=>match y with
       | .int k c=>match k with
         | .u64=>match c with
           | .ofNat n=>match Nat.blt n 16 with
             |true=>match abh x with
              |some z=>some (z,n)
              |none=>none
             |false=>none
           | .negSucc _=>none
         |_=>none
       |_=>none
     |_=>none
   |_=>none
 |_=>none
noncomputable def Kz (k:IntKind) (e:SE):Option SE:=
 match e with
 | .a1 o x=>match o with
   | .conv q=>match Af q k with
     |true=>some x
     |false=>none
   |_=>none
 |_=>none
noncomputable def a2f (op:BinOp) (x y:SE) (pc:List Fact):Option AV:=
 match op with
 | .and=>match JI x with
   |some (_,c)=>match y with
    | .int k n=>match k with
      | .u64=>(match n with
        | .ofNat m=>(match Nat.beq m 15 with
          |true=>some (.int .u64 (.ofNat c))
          |false=>none)
        | .negSucc _=>none)
      |_=>none
    |_=>none
   |none=>none
 | .shr=>match Kz .i64 x with
   |some z=>match JI z with
    |some (u,_)=>match Kz .u64 u with
     |some n=>match a09 y 4 && inR n (-576460752303423488) 576460752303423487 pc with
      |true=>some (.opq (.int .i64) n)
      |false=>none
     |none=>none
    |none=>none
   |none=>none
 |_=>none
noncomputable def V9 (e:SE):Option Int:=
 match e with
 | .int k n=>match k with
   | .i64=>some n
   |_=>none
 |_=>none
noncomputable def Zb (e:SE):SE×Int:=
 match e with
 | .a2 o x y=>match o with
   | .bin op=>match op with
     | .add=>match V9 y with
       |some n=>(x,n)
       |none=>(e,0)
     | .sub=>match V9 y with
       |some n=>(x, -n)
       |none=>(e,0)
     |_=>(e,0)
   |_=>(e,0)
 |_=>(e,0)
noncomputable def Yg (x:SE) (k:Int):SE:=
 match k with
 | .ofNat n=>match n with
   | 0=>x
   |n+1=>.a2 (.bin .add) x (.int .i64 (.ofNat (n+1)))
 | .negSucc n=>.a2 (.bin .sub) x (.int .i64 (.ofNat (n+1)))
noncomputable def a0x (k:Int):Bool:=decide (-1073741824≤k) && decide (k≤1073741824)
noncomputable def a5T (s:S) (op:BinOp) (x:SE) (c:Int):Option AV:=
 match Zb x with
 | (b,k)=>match inR b (-1152921504606846976) 1152921504606846976 s.pc && (a0x k && a0x c) with
   |false=>none
   |true=>match op with
    | .add=>some (.opq (.int .i64) (Yg b (k+c)))
    | .sub=>some (.opq (.int .i64) (Yg b (k - c)))
    |op=>match lT op with
     |true=>match decide (k=0) with
      |true=>none
      |false=>some (ZT s (.a2 (.bin op) b (.int .i64 (c - k))))
     |false=>none
noncomputable def a8N (s:S) (op:BinOp) (x y:SE):Option AV:=
 match V9 y with
 |some c=>a5T s op x c
 |none=>match V9 x with
  |some c=>match op with
   | .sub=>none
   |op=>a5T s (Aj op) y c
  |none=>none
noncomputable def Wj (e:SE):Bool:=
 match e with
 | .int _ n=>(match n with
   | .ofNat m=>Nat.blt 0 m
   | .negSucc _=>false)
 |_=>false
noncomputable def a2b (s:S) (op:BinOp) (k k':IntKind) (x y:SE):R AV:=
 match dB op with
 |true=>(match J6 y with
  |true=>.ok (.opq (.int k) (.a2 (.bin op) x y))
  |false=>.must (.rel "neg" false adZ [y]::s.pc) (.ok (.opq (.int k) (.a2 (.bin op) x y))))
 |false=>match decide (k=k') with
  |false=>.bad "bin kinds"
  |true=>match uG op with
   |true=>.ok (ZT s (.a2 (.bin op) x y))
   |false=>match op with
    | .quo=>(match Wj y with
      |true=>.ok (.opq (.int k) (.a2 (.bin op) x y))
      |false=>.must (.rel "zero" false a5k [y]::s.pc) (.ok (.opq (.int k) (.a2 (.bin op) x y))))
    | .rem=>(match Wj y with
      |true=>.ok (.opq (.int k) (.a2 (.bin op) x y))
      |false=>.must (.rel "zero" false a5k [y]::s.pc) (.ok (.opq (.int k) (.a2 (.bin op) x y))))
    |op=>.ok (.opq (.int k) (.a2 (.bin op) x y))
noncomputable def a4J (s:S) (op:BinOp) (k k':IntKind) (x y:SE):R AV:=
 match a2f op x y s.pc with
 |some v=>.ok v
 |none=>match a8N s op x y with
  |some v=>.ok v
  |none=>a2b s op k k' x y
noncomputable def a4I (s:S) (op:BinOp) (x y:SE):R AV:=
 match uG op with
 |true=>.ok (ZT s (.a2 (.bin op) x y))
 |false=>match op with
  | .add=>(match Wy s.pc x y with
    |true=>.ok (.opq .str (.a2 (.bin op) x y))
    |false=>.must (.rel "long" false ac3 [x,y]::s.pc) (.ok (.opq .str (.a2 (.bin op) x y))))
  |_=>.bad "strOp"
noncomputable def a2E (s:S) (op:BinOp) (x y:AV):R AV:=
 match wU x with
 | .int k=>match wU y with
   | .int k'=>a4J s op k k' (dW x) (dW y)
   |_=>.bad "bin: unknown"
 | .str=>match wU y with
   | .str=>a4I s op (dW x) (dW y)
   |_=>.bad "bin: unknown"
 |_=>.bad "bin: unknown"
noncomputable def a6t (C:Ctx) (s:S) (op:BinOp) (t:TypeId) (c:Bool) (x y:AV):R AV:=
 match x with
 | .opq _ _=>a2E s op x y
 |x=>match y with
  | .opq _ _=>a2E s op x y
  |y=>nX C s op t c x y
noncomputable def zY (i n:SE):List Fact→Bool
 | []=>false
 |f::l=>match f with
  | .inr a b=>match fZ a i && fZ b n with
    |true=>true
    |false=>zY i n l
  |_=>zY i n l
noncomputable def Qd (i:SE):List Fact→Bool
 | []=>false
 |f::l=>match f with
  | .inr a _=>match fZ a i with
    |true=>true
    |false=>Qd i l
  |_=>Qd i l
noncomputable def a5P (e:SE):Option (SE×SE):=
 match e with
 | .a2 o x y=>match o with
   | .bin op=>match op with
     | .lss=>some (x,y)
     |_=>none
   |_=>none
 |_=>none
noncomputable def Vp (m n:SE) (pc:List Fact):Bool:=
 match fZ m n with
 |true=>true
 |false=>match qm m n pc with
  |some b=>b
  |none=>false
noncomputable def Ik (i n:SE) (pc:List Fact):List Fact→Bool
 | []=>false
 |f::l=>match f with
  | .tr e=>match a5P e with
    |some (a,m)=>match fZ a i && Vp m n pc with
     |true=>true
     |false=>Ik i n pc l
    |none=>Ik i n pc l
  |_=>Ik i n pc l
noncomputable def a5Q (i:SE) (pc:List Fact):Bool:=
 match Qd i pc with
 |true=>true
 |false=>match J6 i with
  |true=>true
  |false=>Wx (wM i .i64 pc (none,none)).1 0
noncomputable def lD (i n:SE) (pc:List Fact):Bool:=
 match zY i n pc with
 |true=>true
 |false=>Ik i n pc pc && a5Q i pc
noncomputable def a2B (e:SE) (n:Nat) (pc:List Fact):Bool:=
 match sF (.a2 (.bin .geq) e (.int .i64 (.ofNat n))) pc with
 |some b=>b
 |none=>false
noncomputable def FK (x:SE) (pc:List Fact):Bool:=Uy (wM (.a1 .len x) .i64 pc (some 0,none)).2 4611686018427387904
noncomputable def BD (e:SE):Option (SE×Nat):=
 match e with
 | .a2 o x y=>match o with
   | .bin op=>match op with
     | .add=>match y with
       | .int k n=>match k with
         | .i64=>match n with
           | .ofNat m=>some (x,m)
           | .negSucc _=>none
         |_=>none
       |_=>none
     |_=>none
   |_=>none
 |_=>none
noncomputable def JQ (i n:SE):List Fact→Bool
 | []=>false
 |f::l=>match f with
  | .fl e=>match fZ e (.a2 (.bin .geq) i n) with
    |true=>true
    |false=>JQ i n l
  |_=>JQ i n l
noncomputable def Dj (i:SE) (d:Nat) (n:SE):List Fact→Bool
 | []=>false
 |f::l=>match f with
  | .fl e=>(match e with
    | .a2 o a m=>match o with
      | .bin op=>match op with
        | .gtr=>match BD a with
          |some (j,c)=>(match fZ j i && (fZ m n && (Nat.blt d c && Nat.blt c 1000000)) with
           |true=>true
           |false=>Dj i d n l)
          |none=>Dj i d n l
        |_=>Dj i d n l
      |_=>Dj i d n l
    |_=>Dj i d n l)
  |_=>Dj i d n l
noncomputable def Dy (x:SE) (pc:List Fact) (i:SE):Bool:=
 Ik i (.a1 .len x) pc pc || (JQ i (.a1 .len x) pc || (FK x pc && Dj i 0 (.a1 .len x) pc))
noncomputable def Bv (x:SE) (pc:List Fact):Nat→SE→Bool
 | 0=>fun l=>lD l (.a2 (.bin .add) (.a1 .len x) (.int .i64 (.ofNat 1))) pc
 |f+1=>fun l=>match lD l (.a2 (.bin .add) (.a1 .len x) (.int .i64 (.ofNat 1))) pc with
  |true=>true
  |false=>match BD l with
   |some (y,n)=>Bv x pc f y && (((Nat.beq n 1 && Dy x pc y) || a2B (.a1 .len (.a3 .sub x y (.a1 .len x))) n pc) && FK x pc)
   |none=>false
noncomputable def Zl (x:SE) (pc:List Fact) (i:SE):Bool:=
 match lD i (.a1 .len x) pc with
 |true=>true
 |false=>match Bv x pc 4 i && Dy x pc i with
  |true=>true
  |false=>match BD i with
   |some (j,d)=>FK x pc && (Bv x pc 4 j && Dj j d (.a1 .len x) pc)
   |none=>false
noncomputable def Ib (e:SE):Bool:=
 match e with
 | .int _ n=>(match n with
   | .ofNat m=>Nat.beq m 0
   | .negSucc _=>false)
 |_=>false
noncomputable def LD (l h:SE):List Fact→Bool
 | []=>false
 |f::r=>match f with
  | .tr e=>match fZ e (.a2 (.bin .leq) l h) with
    |true=>true
    |false=>LD l h r
  |_=>LD l h r
noncomputable def leK (x l h:SE) (pc:List Fact):Bool:=
 match LD l h pc with
 |true=>true
 |false=>match BD h with
  |some (y,n)=>LD l y pc && (Nat.blt n 1000000 && (FK x pc && Bv x pc 4 y))
  |none=>false
noncomputable def a1M (x:SE) (pc:List Fact) (l h:SE):Bool:=
 match BD h with
 |some (y,n)=>Nat.beq n 1 && (fZ y l && (FK x pc && Zl x pc l))
 |none=>false
noncomputable def a1L (x:SE) (pc:List Fact) (l h:SE):Bool:=
 match h with
 | .int k n=>(match k with
   | .i64=>match n with
     | .ofNat m=>Ib l && a2B (.a1 .len x) m pc
     | .negSucc _=>false
   |_=>false)
 |_=>Bv x pc 4 h && (Ib l || (leK x l h pc && Bv x pc 4 l))
noncomputable def Wq (e:SE):Bool:=
 match e with
 | .a2 o x _=>(match o with
   | .at sz k=>Nat.beq sz 1 && (Nat.beq k 0 && (match x with
     | .a1 p _=>(match p with| .sb=>true|_=>false)
     |_=>false))
   | .idx=>true
   |_=>false)
 |_=>false
noncomputable def nib (e:SE):Bool:=
 match e with
 | .a2 o x y=>(match o with
   | .bin op=>(match op with
     | .shr=>Wq x && (match y with
       | .int _ n=>(match n with| .ofNat m=>Nat.beq m 4| .negSucc _=>false)
       |_=>false)
     | .and=>(match y with
       | .int k n=>Af k .u8 && (match n with| .ofNat m=>Nat.beq m 15| .negSucc _=>false)
       |_=>false)
     |_=>false)
   |_=>false)
 |_=>false
noncomputable def a1J (x l h:SE):Bool:=
 match x with
 | .str s=>Nat.beq s.length 16 && (nib l && fZ h (.a2 (.bin .add) l (.int .u8 (.ofNat 1))))
 |_=>false
noncomputable def a2M (x:SE) (pc:List Fact) (l h:SE):Bool:=
 match fZ h (.a1 .len x) with
 |true=>Bv x pc 4 l
 |false=>match a1M x pc l h with
  |true=>true
  |false=>match a1L x pc l h with
   |true=>true
   |false=>a1J x l h
noncomputable def S.add (s:S) (f:Fact):S:=⟨s.h,s.next,f::s.pc⟩
noncomputable def Kr (s:S) (e:SE):R (Bool×S):=
 match xu e s.pc with
 |some b=>.ok (b,s)
 |none=>.ask 2 fun i=>match i with
  | 0=>.ok (true,s.add (.tr e))
  |_+1=>.ok (false,s.add (.fl e))
noncomputable def Qj (s:S) (e:SE):R (Bool×S):=
 match Y0 e with
 |some x=>(Kr s x).bind fun r=>.ok (!r.1,r.2)
 |none=>Kr s e
noncomputable def abS (op:UnOp) (x:AV):R AV:=
 match op,x with
 | .neg,.opq (.int k) e=>.ok (.opq (.int k) (.a1 (.un .neg) e))
 | .not,.opq .bool e=>.ok (.opq .bool (.a1 (.un .not) e))
 | .neg,.int k n=>intOp .sub k 0 n
 | .xor,.int k n=>intOp .xor k (if k.signed then -1 else k.max) n
 | .not,.bool b=>.ok (.bool (!b))
 |_,_=>.bad "unary"
noncomputable def sH:List UInt8→List AV
 | []=>[]
 |b::l=>.int .u8 (.ofNat b.toNat)::sH l
noncomputable def Bh:List AV→R (List UInt8)
 | []=>.ok []
 |v::l=>
  match v with
  | .int .u8 (.ofNat n)=>do let r ←Bh l;.ok (UInt8.ofNat n::r)
  |_=>.bad "byte expected"
noncomputable def a00 (s:S) (b:Nat) (e:TypeId):Nat:=
 match s.h.get b with
 |some (.cells el _ k _ _ _ _)=>match Nat.beq el e with
  |true=>k
  |false=>0
 |_=>0
noncomputable def oOk (s:S) (b:Nat) (e:TypeId) (n sz sz':Nat):Bool:=Nat.beq sz sz' && !Nat.beq sz 0 && Nat.ble (Nat.mul n sz) (a00 s b e)
noncomputable def srcCells (s:S) (e:TypeId) (sz:Nat):AV→R (Nat×List AV)
 | .aW=>.ok (0,[])
 | .str l=>match Nat.beq sz 1 with
   |true=>.ok (l.length,sH l)
   |false=>.bad "src of a string"
 | .sl b off len _=>do let c ←rdCells s b off (Nat.mul len sz);.ok (len,c)
 | .gQ b _ e0 len sz'=>do
   bP (oOk s b e (Nat.add e0 len) sz sz') "src size"
   let c ←rdCells s b (Nat.mul e0 sz) (Nat.mul len sz)
   .ok (len,c)
 |_=>.bad "srcCells"
noncomputable def KA (s:S) (e:TypeId) (sz bytes n:Nat) (all:List AV):R Nx:=do
 bP (Nat.ble (Nat.mul n bytes) 68719476736 && Nat.ble n 68719476736 && Nat.beq all.length (Nat.mul n sz)) "append: too long"
 .ok (.val (.gQ s.next 0 0 n sz) (s.new (jL e all)))
noncomputable def a7L (s:S) (e:TypeId) (sz bytes b off len cap n:Nat) (new:List AV):R Nx:=
 match Nat.ble (Nat.add len n) cap with
 |true=>do
  let s' ←jy s b (Nat.add off (Nat.mul len sz)) new
  .ok (.val (.sl b off (Nat.add len n) cap) s')
 |false=>do
  let old ←rdCells s b off (Nat.mul len sz)
  KA s e sz bytes (Nat.add len n) (old++new)
noncomputable def adO (s:S) (sz b pre e0 len n:Nat) (new:List AV):R Nx:=do
 let s' ←jy s b (Nat.mul (Nat.add e0 len) sz) new
 .ok (.val (.gQ b pre e0 (Nat.add len n) sz) s')
noncomputable def a1Y (s:S) (e:TypeId) (sz bytes b e0 len n:Nat) (cs:Tr AV) (k fz:Nat) (jX:List Nat) (sg:Bool) (new:List AV):R Nx:=do
 bP (Nat.beq (Nat.mul (Nat.add e0 len) sz) k && Nat.ble (Nat.mul (Nat.add len n) bytes) 68719476736 && Nat.ble (Nat.add len n) 68719476736 && Nat.beq new.length (Nat.mul n sz) && Nat.ble fz k && oh new) "append: between"
 let old ←getCells cs (Nat.mul len sz) (Nat.mul e0 sz)
 .ok (.val (.gQ s.next 0 0 (Nat.add len n) sz)
  ⟨(s.h.set b (.cells e cs k fz jX true sg)).set s.next
    (.cells e (Tr.ofList (old++new)) (Nat.mul (Nat.add len n) sz) (Nat.sub fz (Nat.mul e0 sz)) (b::jX) false sg),
    Nat.add s.next 1,s.pc⟩)
noncomputable def Rw (s:S) (e:TypeId) (sz bytes b pre e0 len n:Nat) (new:List AV):R Nx:=
 match s.h.get b with
 |some (.cells el cs k fz jX false sg)=>do
  bP (Nat.beq el e) "append type"
  match Nat.ble (Nat.mul (Nat.add (Nat.add e0 len) n) sz) k with
  |true=>adO s sz b pre e0 len n new
  |false=>a1Y s e sz bytes b e0 len n cs k fz jX sg new
 |_=>.bad "append: base"
noncomputable def a1W (C:Ctx) (s:S) (e:TypeId) (sz bytes b:Nat) (n:SE) (cnt:Nat) (new:List AV):R Nx:=
 match s.h.get b with
 |some (.vec el x)=>do
  bP (Nat.beq el e && (Nat.beq sz (aJ C e).length && (Nat.beq new.length (Nat.mul cnt sz) && (!Nat.beq cnt 0 && (!Nat.beq sz 0 && oh new))))) "append: cells"
  match yS C (aJ C e) new (aJ C e) (.a2 (.tk sz) x n) with
  |some y=>.must (.rel "grow" false (a5m sz bytes cnt) [x,n]::s.pc) (.ok (.val (.rE s.next (.a2 (.bin .add) n (.int .i64 (.ofNat cnt))) (.var (Nat.add s.next 1))) ⟨(s.h.del b).set s.next (.vec e y),Nat.add (Nat.add s.next 1) 1,.inr n (.a2 (.bin .add) n (.int .i64 (.ofNat cnt)))::s.pc⟩))
  |none=>.bad "append: a cell"
 |_=>.bad "append: no cells"
noncomputable def a7J (C:Ctx) (s:S) (e:TypeId) (sz bytes:Nat) (base:AV) (n:Nat) (new:List AV):R Nx:=
 match base with
 | .aW=>
   match n with
   | 0=>.ok (.val .aW s)
   |m+1=>KA s e sz bytes (m+1) new
 | .sl b off len cap=>a7L s e sz bytes b off len cap n new
 | .gQ b pre e0 len sz'=>
   match n with
   | 0=>do
     bP (oOk s b e (Nat.add e0 len) sz sz') "append: nothing"
     .ok (.val (.gQ b pre e0 len sz') s)
   |m+1=>
    match Nat.beq sz sz' with
    |true=>Rw s e sz bytes b pre e0 len (m+1) new
    |false=>.bad "append: size"
 | .rE b k _=>a1W C s e sz bytes b k n new
 |_=>.bad "append: base"
noncomputable def VO:Option AV→R (Option Nat)
 |none=>.ok none
 |some v=>do let n ←BA v;.ok (some n)
noncomputable def inB (a h m c:Nat) (hi mx:Option Nat):Bool:=Nat.ble m c && Nat.ble h m && Nat.ble a h && (hi.isSome || mx.isNone)
noncomputable def zX (m a off sz:Nat):Nat:=
 match Nat.beq m a with
 |true=>off
 |false=>Nat.add off (Nat.mul a sz)
noncomputable def a2e (C:Ctx) (e:TypeId) (b off len cap:Nat) (lo hi mx:Option Nat):R AV:=do
 let i ←ti C e
 bP (inB (lo.getD 0) (hi.getD len) (mx.getD cap) cap hi mx) "slice bounds"
 .ok (.sl b (zX (mx.getD cap) (lo.getD 0) off i.size) (Nat.sub (hi.getD len) (lo.getD 0)) (Nat.sub (mx.getD cap) (lo.getD 0)))
noncomputable def a4V (C:Ctx) (s:S) (e:TypeId) (b pre e0 len sz:Nat) (lo hi mx:Option Nat):R AV:=do
 let i ←ti C e
 match mx with
 |none=>do
  bP (oOk s b e (Nat.add e0 (hi.getD len)) i.size sz && Nat.ble (lo.getD 0) (hi.getD len)) "oslice bounds"
  match lo.getD 0 with
  | 0=>.ok (.gQ b pre e0 (hi.getD len) sz)
  |n+1=>.ok (.gQ b e0 (Nat.add e0 (n+1)) (Nat.sub (hi.getD len) (n+1)) sz)
 |some m=>do
  bP (oOk s b e (Nat.add e0 len) i.size sz && Nat.ble m len && !Nat.beq len 0 && inB (lo.getD 0) (hi.getD len) m m hi (some m)) "oslice bounds"
  .ok (.sl b (zX m (lo.getD 0) (Nat.mul e0 sz) sz) (Nat.sub (hi.getD len) (lo.getD 0)) (Nat.sub m (lo.getD 0)))
noncomputable def FQ:Kd→Bool
 | .int _=>true
 |_=>false
noncomputable def CW:AV→Bool
 | .opq _ _=>true
 |_=>false
noncomputable def Ot (b:Option AV) (d:SE):R SE:=
 match b with
 |none=>.ok d
 |some v=>match FQ (wU v) with
  |true=>.ok (dW v)
  |false=>.bad "slice: unknown bound"
noncomputable def Wn:Option AV→Bool
 |some v=>CW v
 |none=>false
noncomputable def a0o (s:S) (d:TypeDesc) (x:AV) (lo hi mx:Option AV):R AV:=
 match d with
 | .string=>match wU x with
   | .str=>match mx with
     |some _=>.bad "slice: of a string"
     |none=>do
      let l ←Ot lo (.int .i64 0)
      let h ←Ot hi (.a1 .len (dW x))
      match a2M (dW x) s.pc l h with
      |true=>.ok (.opq .str (.a3 .sub (dW x) l h))
      |false=>.must (.rel "cut" false a5n [l,h,.a1 .len (dW x)]::s.pc) (.ok (.opq .str (.a3 .sub (dW x) l h)))
   |_=>.bad "slice: unknown"
 |_=>.bad "slice: unknown"
noncomputable def Vj (C:Ctx) (s:S) (t:TypeId) (x:AV) (lo hi mx:Option AV):R AV:=
 match CW x || Wn lo || Wn hi with
 |true=>do
  let d ←under C t
  a0o s d x lo hi mx
 |false=>do
  let lo ←VO lo
  let hi ←VO hi
  let mx ←VO mx
  let d ←under C t
  match x with
  | .str l=>
    match d with
    | .string=>do
      bP (inB (lo.getD 0) (hi.getD l.length) l.length l.length hi mx && mx.isNone) "slice string bounds"
      .ok (.str ((l.take (hi.getD l.length)).drop (lo.getD 0)))
    |_=>.bad "slice string type"
  | .aW=>
    match d with
    | .slice e=>do
      let _ ←ti C e
      bP (inB (lo.getD 0) (hi.getD 0) (mx.getD 0) 0 hi mx) "slice nil bounds"
      .ok .aW
    |_=>.bad "slice nil type"
  | .sl b off len cap=>
    match d with
    | .slice e=>a2e C e b off len cap lo hi mx
    |_=>.bad "slice type"
  | .gQ b pre e0 len sz=>
    match d with
    | .slice e=>a4V C s e b pre e0 len sz lo hi mx
    |_=>.bad "oslice"
  | .ptr b off=>
    match d with
    | .array n e=>a2e C e b off n n lo hi mx
    |_=>.bad "slice of a pointer"
  |_=>.bad "slice of?"
noncomputable def a14:Option AV→Bool
 |none=>true
 |some v=>match v with
  | .int _ n=>decide (n=0)
  |_=>false
noncomputable def a1I (C:Ctx) (s:S) (d:TypeDesc) (b:Nat) (n c:SE) (lo hi mx:Option AV):R AV:=
 match d with
 | .slice e=>do
   let _ ←ti C e
   match mx with
   |some _=>.bad "slice: a capacity"
   |none=>match a14 lo with
    |false=>.bad "slice: low"
    |true=>match hi with
     |none=>.ok (.rE b n c)
     |some h=>match o7 (wU h) (.int .i64) with
      |false=>.bad "slice: high"
      |true=>.must (.rel "cut" false a5n [.int .i64 0,dW h,n]::s.pc) (.ok (.rE b (dW h) c))
 |_=>.bad "slice: of what"
noncomputable def Yo (C:Ctx) (s:S) (t:TypeId) (x:AV) (lo hi mx:Option AV):R AV:=
 match x with
 | .rE b n c=>do
   let d ←under C t
   a1I C s d b n c lo hi mx
 |x=>Vj C s t x lo hi mx
noncomputable def oM (a b:AV):Bool:=
 match a,b with
 | .int _ x,.int _ y=>decide (x=y)
 | .str x,.str y=>iq x y
 | .bool x,.bool y=>x==y
 |_,_=>false
noncomputable def keyOf (d:TypeDesc) (v:AV):Bool:=
 match d,v with
 | .int k,.int k' _=>decide (k=k')
 | .string,.str _=>true
 | .bool,.bool _=>true
 |_,_=>false
noncomputable def abM (d:TypeDesc):List ME→Bool
 | []=>true
 |e::_=>keyOf d e.k
noncomputable def sW (k:AV):List ME→Option ME
 | []=>none
 |e::es=>match oM k e.k with
  |true=>some e
  |false=>sW k es
noncomputable def OD (k v:AV):List ME→List ME
 | []=>[]
 |e::es=>match oM k e.k with
  |true=>⟨k,v,e.born⟩::es
  |false=>e::OD k v es
noncomputable def NM (k:AV):List ME→List ME
 | []=>[]
 |e::es=>match oM k e.k with
  |true=>es
  |false=>e::NM k es
noncomputable def setB (b:Nat) (v:AV):List ME→List ME
 | []=>[]
 |e::es=>match Nat.beq e.born b with
  |true=>⟨e.k,v,e.born⟩::es
  |false=>e::setB b v es
noncomputable def EJ (b:Nat):List ME→Option ME
 | []=>none
 |e::es=>match Nat.beq e.born b with
  |true=>some e
  |false=>EJ b es
noncomputable def Ah (k:Nat):List Nat→Bool
 | []=>false
 |e::es=>match Nat.beq k e with
  |true=>true
  |false=>Ah k es
noncomputable def leftOf (seen:List Nat):List ME→List ME
 | []=>[]
 |e::es=>match Ah e.born seen with
  |true=>leftOf seen es
  |false=>e::leftOf seen es
noncomputable def rJ (s:S):AV→R (List ME×Nat)
 | .iW=>.ok ([],0)
 | .iY r=>match s.h.get r with
   |some (.map es c)=>.ok (es,c)
   |_=>.bad "no map"
 |_=>.bad "map expected"
noncomputable def uP (d:TypeDesc) (k:AV) (es:List ME):Bool:=keyOf d k && abM d es
noncomputable def XU (C:Ctx) (s:S) (e:TypeId) (l:List UInt8):R Nx:=do
 let i ←ti C e
 match i.desc with
 | .int .u8=>do
   bP (Nat.beq i.size 1) "conv: byte size"
   .ok (.val (.gQ s.next 0 0 l.length 1) (s.new (.cells e (Tr.ofList (sH l)) l.length 0 [] false true)))
 |_=>.bad "conv string to slice"
noncomputable def Ef (C:Ctx) (s:S) (e:TypeId) (x:AV):R Nx:=do
 let i ←ti C e
 match i.desc with
 | .int .u8=>do
   bP (Nat.beq i.size 1) "conv: byte size"
   let r ←srcCells s e i.size x
   let bs ←Bh r.2
   .ok (.val (.str bs) s)
 |_=>.bad "conv slice to string"
def VL (sz:Nat) (l:List Dt):Prop:=∃ks es n,l=[.ls ks es,.val (.int .i64 n)]∧¬ (0≤n∧n.toNat * sz≤es.length)
noncomputable def XT (C:Ctx) (s:S) (e:TypeId) (x:SE):R Nx:=do
 let i ←ti C e
 match i.desc with
 | .int .u8=>do
   bP (Nat.beq i.size 1 && EF (aJ C e) [.int .u8]) "conv: byte size"
   .ok (.val (.rE s.next (.a1 .len x) (.var (Nat.add s.next 1))) ⟨s.h.set s.next (.vec e (.a1 .sb x)),Nat.add (Nat.add s.next 1) 1,s.pc⟩)
 |_=>.bad "conv string to slice"
noncomputable def XR (C:Ctx) (s:S) (e:TypeId) (b:Nat) (n:SE):R Nx:=do
 let i ←ti C e
 match i.desc with
 | .int .u8=>
   match s.h.get b with
   |some (.vec el v)=>do
    bP (Nat.beq i.size 1 && (Nat.beq el e && EF (aJ C e) [.int .u8])) "conv: bytes"
    .must (.rel "short" false (VL 1) [v,n]::s.pc) (.ok (.val (.opq .str (.a1 .bs (.a2 (.tk 1) v n))) s))
   |_=>.bad "conv: no bytes"
 |_=>.bad "conv slice to string"
noncomputable def Vz (C:Ctx) (s:S) (b off:Nat) (u:TypeId):Bool:=
 match s.h.get b with
 |some (.cells el _ n _ _ _ _)=>Nat.blt off n && rowAt C.P (fun t=>sameLayout C.P C.P.depth t u) C.P.depth el (n / C.P.cellsOf el) off 1
 |_=>false
noncomputable def Jh (C:Ctx) (s:S) (u:TypeId) (x:AV):R Nx:=
 match x with
 | .uN=>.ok (.val .uN s)
 | .ptr b off=>do
   let i ←ti C u
   bP (!Nat.beq i.size 0 && Vz C s b off u) "conv: place"
   .ok (.val (.ptr b off) s)
 |_=>.bad "conv: pointer"
noncomputable def a6s (C:Ctx) (s:S) (src dst:TypeId) (x:AV):R Nx:=do
 let a ←under C src
 let b ←under C dst
 match b with
 | .int k=>match x with
   | .int _ n=>.ok (.val (.int k (k.wrap n)) s)
   | .opq q e=>match q with
     | .int q=>.ok (.val (match Af k .i64 && (Af q .i64 && inR e (-4611686018427387904) 4611686018427387904 s.pc) with
       |true=>.opq (.int .i64) e
       |false=>.opq (.int k) (.a1 (.conv k) e)) s)
     |_=>.bad "conv: unknown"
   |_=>.bad "conv to int"
 | .string=>match x with
   | .opq q e=>match q with
     | .str=>.ok (.val (.opq .str e) s)
     |_=>.bad "conv: unknown"
   | .str l=>.ok (.val (.str l) s)
   | .int _ n=>.ok (.val (.str (Utf8.encode n).data.toList) s)
   | .rE b n _=>match a with
     | .slice e=>XR C s e b n
     |_=>.bad "conv to string"
   |x=>match a with
    | .slice e=>Ef C s e x
    |_=>.bad "conv to string"
 | .slice e=>match x with
   | .str l=>XU C s e l
   | .opq q ex=>match q with
     | .str=>XT C s e ex
     |_=>.bad "conv to slice"
   |_=>.bad "conv to slice"
 | .unsafePointer=>match a with
   | .pointer u=>Jh C s u x
   |_=>.bad "conv to a plain pointer"
 | .pointer u=>match a with
   | .unsafePointer=>Jh C s u x
   |_=>.bad "conv to pointer"
 |_=>.bad "conv"
noncomputable def NS (ok:Bool) (v:AV):R AV:=
 match ok with
 |true=>.ok (.ou [v,.bool true])
 |false=>.ok v
noncomputable def Gt (C:Ctx) (asserted:TypeId) (ok:Bool):R AV:=
 match ok with
 |true=>do
  let v ←nM C asserted
  .ok (.ou [v,.bool false])
 |false=>.bad "type assertion fails"
noncomputable def Vb (C:Ctx) (want:Array (String×TypeId)) (t:TypeId) (x:AV) (asserted:TypeId) (ok:Bool):R AV:=
 match C.P.types[t]? with
 |some info=>match Instr.missingMethod want info.methods with
  |none=>NS ok x
  |some _=>Gt C asserted ok
 |none=>.bad "TA: no type"
noncomputable def aek (C:Ctx) (x:AV) (asserted:TypeId) (ok:Bool):R AV:=do
 let d ←under C asserted
 match x with
 | .qU=>Gt C asserted ok
 | .iface t v=>match d with
   | .interface want=>Vb C want t (.iface t v) asserted ok
   |_=>match Nat.beq t asserted with
    |true=>NS ok v
    |false=>Gt C asserted ok
 |_=>.bad "TA"
noncomputable def Ir (c:Nat):List UInt8→Nat→Int
 | []=>fun _=> -1
 |b::l=>fun i=>match Nat.beq b.toNat c with|true=>.ofNat i|false=>Ir c l (Nat.add i 1)
noncomputable def countByte (c:Nat):List UInt8→Nat
 | []=>0
 |b::l=>match Nat.beq b.toNat c with|true=>Nat.add (countByte c l) 1|false=>countByte c l
noncomputable def bytesOf (x:AV):R (List UInt8):=
 match x with
 | .str l=>.ok l
 |_=>.bad "bytesOf"
noncomputable def a2v:Nat→List AV
 | 0=>[]
 |n+1=>.junk::a2v n
noncomputable def jr (f:FuncId):List (FuncId×Ext)→Option Ext
 | []=>none
 |x::l=>match Nat.beq x.1 f with
  |true=>some x.2
  |false=>jr f l
noncomputable def a7A (a b:List UInt8):Int:=
 match nS a b with
 |true=> -1
 |false=>match iq a b with
  |true=>0
  |false=>1
noncomputable def UK (C:Ctx) (s:S) (fn:Func) (n:Nat):R Nx:=do
 let t ←R.xk "MakeNoZero type" (fn.resultTypes[0]?)
 match ←under C t with
 | .slice e=>do
   let i ←ti C e
   bP (Nat.ble n 1099511627776 && Nat.beq i.size 1) "MakeNoZero: too long"
   .ok (.val (.gQ s.next 0 0 n 1) (s.new (.cells e (Tr.ofList (a2v n)) n 0 [] false false)))
 |_=>.bad "MakeNoZero slice"
noncomputable def X6:AV→R Nat
 | .int k (.ofNat c)=>match k with
   | .u8=>match Nat.blt c 256 with
     |true=>.ok c
     |false=>.bad "byte"
   |_=>.bad "byte"
 |_=>.bad "byte"
noncomputable def preB:List UInt8→List UInt8→Bool
 | []=>fun _=>true
 |b::l=>fun m=>match m with
  | []=>false
  |c::m=>match Nat.beq b.toNat c.toNat with
   |true=>preB l m
   |false=>false
noncomputable def Wu (sub:List UInt8):List UInt8→Nat→Int
 | []=>fun k=>match sub with
   | []=>.ofNat k
   |_::_=> -1
 |b::l=>fun k=>match preB sub (b::l) with
  |true=>.ofNat k
  |false=>Wu sub l (Nat.add k 1)
noncomputable def lU (C:Ctx) (s:S) (fn:Func) (e:Ext) (args:List AV):R Nx:=
 match e with
 | .H8=>match args with
   | [x]=>.ok (.val x s)
   |_=>.bad "NoEscape"
 | .indexByte=>match args with
   | [x,c]=>do let l ←bytesOf x;let c ←X6 c;.ok (.val (.int .i64 (Ir c l 0)) s)
   |_=>.bad "IndexByte"
 | .count=>match args with
   | [x,c]=>do let l ←bytesOf x;let c ←X6 c;.ok (.val (.int .i64 (.ofNat (countByte c l))) s)
   |_=>.bad "Count"
 | .cmp=>match args with
   | [x,y]=>do let a ←bytesOf x;let b ←bytesOf y;.ok (.val (.int .i64 (a7A a b)) s)
   |_=>.bad "cmpstring"
 | .clone=>match args with
   | [x]=>match x with
     | .iface t m=>match m with
       | .iY r=>do
         let m ←rJ s (.iY r)
         .ok (.val (.iface t (.iY s.next)) (s.new (.map m.1 m.2)))
       |_=>.bad "clone"
     |_=>.bad "clone"
   |_=>.bad "clone"
 | .V5=>match args with
   | [x]=>match x with
     | .int k (.ofNat n)=>match k with
       | .i64=>UK C s fn n
       |_=>.bad "MakeNoZero"
     |_=>.bad "MakeNoZero"
   |_=>.bad "MakeNoZero"
 | .index _=>.bad "index: no extern"
 | .closed _ _=>.bad "closed: no extern"
 | .as _=>.bad "as: no extern"
noncomputable def UQ (C:Ctx) (s:S) (f:FuncId) (args:List AV):R Nx:=
 match C.F.get f with
 |none=>.bad "no function"
 |some fn=>
  match fn.body with
  |some _=>.ok (.enter f args s)
  |none=>match jr f C.X with
   |some e=>lU C s fn e args
   |none=>.bad ("extern "++fn.name)
noncomputable def JV (P:Program) (t:TypeId) (name:String):Option (FuncId×Bool):=
 match P.types[t]? with
 |none=>none
 |some i=>
  match i.methods.find? (·.name==name) with
  |none=>none
  |some m=>match m.path.isEmpty with|true=>m.func|false=>none
noncomputable def callM (C:Ctx) (s:S) (recv:AV) (name:String) (args:List AV):R Nx:=
 match recv with
 | .iface t v=>
   match JV C.P t name with
   |none=>.bad ("method "++name)
   |some (f,a8v)=>do
    match ←under C t,a8v with
    | .pointer _,true=>UQ C s f (v::args)
    | .pointer _,false=>.bad "method: value receiver behind a pointer"
    |_,false=>UQ C s f (v::args)
    |_,true=>.bad "method: pointer receiver of a value"
 |_=>.bad "callM"
noncomputable def Ae (C:Ctx) (s:S) (f:AV) (args:List AV):R Nx:=
 match f with
 | .fn g first cap=>
   match g with
   | .func g=>UQ C s g (first++args++cap)
   | .method name=>
     match first++args with
     |r::rest=>callM C s r name rest
     | []=>.bad "method value"
   | .methodOf t name=>
     match first++args with
     |r::rest=>do
      match ←under C t with
      | .interface _=>callM C s r name rest
      |_=>callM C s (.iface t r) name rest
     | []=>.bad "method expr"
   |_=>.bad "call: via"
 | .yield l=>.ok (.round l args s)
 |_=>.bad "call of what"
noncomputable def minL (k:IntKind):List AV→Int→R AV
 | []=>fun m=>.ok (.int k m)
 |v::l=>fun m=>match v with
  | .int _ n=>minL k l (match decide (n < m) with|true=>n|false=>m)
  |_=>.bad "min"
noncomputable def maxL (k:IntKind):List AV→Int→R AV
 | []=>fun m=>.ok (.int k m)
 |v::l=>fun m=>match v with
  | .int _ n=>maxL k l (match decide (m < n) with|true=>n|false=>m)
  |_=>.bad "max"
noncomputable def FT:TypeDesc→Bool
 | .int _=>true
 |_=>false
noncomputable def a7K (s:S) (e:TypeId) (sz bytes:Nat) (z:List AV) (x:AV):Bool→R (Nat×List AV)
 |true=>do
  let n ←BA x
  bP (Nat.ble (Nat.mul n bytes) 68719476736 && Nat.ble n 68719476736) "append of make: too long"
  .ok (n,Fp z n)
 |false=>srcCells s e sz x
noncomputable def Ve (int:Bool) (x base:AV):Option (Nat×SE×SE):=
 match int with
 |true=>none
 |false=>match x with
 | .opq k e=>match o7 k .str with
   |true=>match base with
    | .rE b n _=>some (b,n,e)
    |_=>none
   |false=>none
 |_=>none
def abm (bytes:Nat) (l:List Dt):Prop:=∃ks es n s,l=[.ls ks es,.val (.int .i64 n),.val (.string s)]∧¬ (0≤n∧n.toNat≤es.length∧(n.toNat+s.size) * bytes≤68719476736∧n.toNat+s.size≤68719476736)
noncomputable def a1X (C:Ctx) (s:S) (e:TypeId) (sz bytes b:Nat) (n x:SE):R Nx:=
 match s.h.get b with
 |some (.vec el v)=>do
  bP (Nat.beq el e && (Nat.beq sz 1 && EF (aJ C e) [.int .u8])) "append: bytes"
  .must (.rel "grows" false (abm bytes) [v,n,x]::s.pc) (.ok (.val (.rE s.next (.a2 (.bin .add) n (.a1 .len x)) (.var (Nat.add s.next 1))) ⟨(s.h.del b).set s.next (.vec e (.a2 .cat (.a2 (.tk 1) v n) (.a1 .sb x))),Nat.add (Nat.add s.next 1) 1,s.pc⟩))
 |_=>.bad "append: no cells"
noncomputable def Ru (C:Ctx) (s:S) (argTypes:List TypeId) (args:List AV):R Nx:=
 match args,argTypes with
 | [base,x],st::xt::_=>do
   match ←under C st with
   | .slice e=>do
     let i ←ti C e
     let xd ←under C xt
     bP (!Nat.beq i.size 0) "append: of nothing"
     let z ←zeroOf C e
     bP (Nat.beq z.length i.size) "append: zero"
     match Ve (FT xd) x base with
     |some (b,n,ex)=>a1X C s e i.size i.bytes b n ex
     |none=>do
      let r ←a7K s e i.size i.bytes z x (FT xd)
      a7J C s e i.size i.bytes base r.1 r.2
   |_=>.bad "append slice"
 |_,_=>.bad "append"
noncomputable def a5U (C:Ctx) (s:S) (d:TypeDesc) (x:AV):R Nat:=
 match d with
 | .string=>match x with
   | .str l=>.ok l.length
   |_=>.bad "len of a string"
 | .array n _=>.ok n
 | .pointer a=>do
   match ←under C a with
   | .array n _=>.ok n
   |_=>.bad "len of a pointer"
 | .slice _=>match x with
   | .aW=>.ok 0
   | .sl _ _ n _=>.ok n
   | .gQ _ _ _ n _=>.ok n
   |_=>.bad "len of a slice"
 | .map _ _=>do
   let m ←rJ s x
   .ok m.1.length
 |_=>.bad "len"
noncomputable def a2q (k:Kd) (e:SE):AV:=
 match e with
 | .int q n=>match k with
   | .int r=>match Af r q with
     |true=>.int q n
     |false=>.opq k e
   | .any=>.int q n
   |_=>.opq k e
 | .bool b=>match k with
   | .bool=>.bool b
   | .any=>.bool b
   |_=>.opq k e
 | .str s=>match k with
   | .str=>.str s
   | .any=>.str s
   |_=>.opq k e
 |_=>.opq k e
noncomputable def PY (d:TypeDesc) (x:AV):Option AV:=
 match d with
 | .string=>match x with
   | .opq k e=>match k with
     | .str=>some (.opq (.int .i64) (.a1 .len e))
     |_=>none
   |_=>none
 | .slice _=>match x with
   | .opq k e=>match k with
     | .sl _=>some (.opq (.int .i64) (.a1 .len e))
     |_=>none
   | .rE _ n _=>some (a2q (.int .i64) n)
   |_=>none
 |_=>none
noncomputable def Z4 (C:Ctx) (s:S) (argTypes:List TypeId) (args:List AV):R Nx:=
 match args,argTypes with
 | [x],t::_=>do
   let d ←under C t
   match PY d x with
   |some v=>.ok (.val v s)
   |none=>do
    let n ←a5U C s d x
    .ok (.val (.int .i64 (.ofNat n)) s)
 |_,_=>.bad "len"
noncomputable def acG (x:AV):R Nat:=
 match x with
 | .aW=>.ok 0
 | .sl _ _ _ c=>.ok c
 |_=>.bad "cap: open"
noncomputable def Z5 (C:Ctx) (s:S) (argTypes:List TypeId) (args:List AV):R Nx:=
 match args,argTypes with
 | [x],t::_=>do
   match ←under C t with
   | .slice _=>do
     let n ←acG x
     .ok (.val (.int .i64 (.ofNat n)) s)
   |_=>.bad "cap"
 |_,_=>.bad "cap"
noncomputable def a7v (s:S) (e:TypeId) (sz:Nat) (r:Nat×List AV) (dst:AV):R Nx:=
 match dst with
 | .aW=>.ok (.val (.int .i64 0) s)
 | .sl b off len _=>do
   let s' ←jy s b off (r.2.take (Nat.mul (Nat.min r.1 len) sz))
   .ok (.val (.int .i64 (.ofNat (Nat.min r.1 len))) s')
 | .gQ b _ e0 len sz'=>do
   bP (oOk s b e (Nat.add e0 len) sz sz') "copy size"
   let s' ←jy s b (Nat.mul e0 sz') (r.2.take (Nat.mul (Nat.min r.1 len) sz))
   .ok (.val (.int .i64 (.ofNat (Nat.min r.1 len))) s')
 |_=>.bad "copy dst"
noncomputable def a1V (C:Ctx) (s:S) (argTypes:List TypeId) (args:List AV):R Nx:=
 match args,argTypes with
 | [dst,src],st::_=>do
   match ←under C st with
   | .slice e=>do
     let i ←ti C e
     let r ←srcCells s e i.size src
     a7v s e i.size r dst
   |_=>.bad "copy slice"
 |_,_=>.bad "copy"
noncomputable def Rt (C:Ctx) (s:S) (argTypes:List TypeId) (args:List AV):R Nx:=
 match args,argTypes with
 | [x,k],t::_=>do
   match ←under C t with
   | .map kt _=>do
     let d ←under C kt
     let m ←rJ s x
     bP (uP d k m.1) "delete: key"
     match x with
     | .iY r=>.ok (.val (.ou []) ⟨s.h.set r (.map (NM k m.1) m.2),s.next,s.pc⟩)
     |_=>.ok (.val (.ou []) s)
   |_=>.bad "delete"
 |_,_=>.bad "delete"
noncomputable def a2N (C:Ctx) (s:S) (e:TypeId) (x:AV):R Nx:=
 match x with
 | .sl b off len _=>do
   let z ←zeroOf C e
   let s' ←jy s b off (Fp z len)
   .ok (.val (.ou []) s')
 | .gQ b _ e0 len sz=>do
   let i ←ti C e
   bP (oOk s b e (Nat.add e0 len) i.size sz) "clear size"
   let z ←zeroOf C e
   let s' ←jy s b (Nat.mul e0 sz) (Fp z len)
   .ok (.val (.ou []) s')
 |_=>.bad "clear slice"
noncomputable def X0 (C:Ctx) (s:S) (argTypes:List TypeId) (args:List AV):R Nx:=
 match args,argTypes with
 | [x],st::_=>do
   match ←under C st with
   | .slice e=>match x with
     | .aW=>.ok (.val (.ou []) s)
     |x=>a2N C s e x
   | .map _ _=>match x with
     | .iW=>.ok (.val (.ou []) s)
     | .iY r=>do
       let m ←rJ s (.iY r)
       .ok (.val (.ou []) ⟨s.h.set r (.map [] m.2),s.next,s.pc⟩)
     |_=>.bad "clear map"
   |_=>.bad "clear"
 |_,_=>.bad "clear"
noncomputable def a4L (C:Ctx) (s:S) (u:TypeId) (b off n:Nat):R Nx:=
 match s.h.get b with
 |some (.cells e cs k fz jX false false)=>do
  bP (Nat.ble (Nat.add off n) k && rowAt C.P (fun t=>sameLayout C.P C.P.depth t u) C.P.depth e (k / C.P.cellsOf e) off n && Nat.ble n 1099511627776) "String of memory: beyond"
  let l ←getCells cs n off
  let bs ←Bh l
  .ok (.val (.str bs) ⟨s.h.set b (.cells e cs k (Nat.max fz (Nat.add off n)) jX false false),s.next,s.pc⟩)
 |_=>.bad "String of memory: block"
def ac2 (l:List Dt):Prop:=∃ks es n,l=[.ls ks es,.val (.int .i64 n)]∧¬ (0 < n∧n.toNat≤es.length∧n≤1099511627776)
def abn (l:List Dt):Prop:=∃k n,l=[.val (.int k n)]∧¬ 0 < n
noncomputable def a0p (C:Ctx) (s:S) (u:TypeId) (b:Nat) (n:SE):R Nx:=
 match s.h.get b with
 |some (.vec el v)=>do
  let i ←ti C el
  bP (Nat.beq i.size 1 && (EF (aJ C el) [.int .u8] && sameLayout C.P C.P.depth el u)) "String of bytes"
  .must (.rel "strv" false ac2 [v,n]::s.pc) (.ok (.val (.opq .str (.a1 .bs (.a2 (.tk 1) v n))) ⟨((s.h.del b).set s.next (.cells el .nil 0 0 [] true false)).del s.next,Nat.add s.next 1,s.pc⟩))
 |_=>.bad "String of bytes: block"
noncomputable def U6 (p n:AV):Option (Nat×SE):=
 match p with
 | .lu b i _ k=>match k with
   | 0=>match fZ i (.int .i64 (.ofNat 0)) with
     |true=>match n with
      | .opq q e=>match o7 q (.int .i64) with
        |true=>some (b,e)
        |false=>none
      |_=>none
     |false=>none
   |_+1=>none
 |_=>none
noncomputable def Rq (C:Ctx) (s:S) (argTypes:List TypeId) (args:List AV):R Nx:=
 match args,argTypes with
 | [p,n],t::_=>match U6 p n with
  |some (b,e)=>do
   match ←under C t with
   | .pointer u=>a0p C s u b e
   |_=>.bad "String of bytes: type"
  |none=>do
   let n ←BA n
   match n with
   | 0=>match p with
     | .uN=>.ok (.val (.str []) s)
     | .ptr _ _=>.ok (.val (.str []) s)
     |_=>.bad "String of memory"
   |m+1=>match p with
    | .ptr b off=>do
      match ←under C t with
      | .pointer u=>a4L C s u b off (m+1)
      |_=>.bad "String of memory: type"
    |_=>.bad "String of memory"
 |_,_=>.bad "String of memory"
noncomputable def Dw (C:Ctx) (s:S) (argTypes:List TypeId) (args:List AV):R Nx:=
 match args with
 | [.aW]=>.ok (.val .uN s)
 | [.sl b off _ c]=>match Nat.beq c 0 with|true=>.bad "SliceData cap 0" |false=>.ok (.val (.ptr b off) s)
 | [.gQ b _ e0 len sz]=>
   match argTypes,len with
   |st::_,_+1=>do
    match ←under C st with
    | .slice e=>do
      let i ←ti C e
      bP (oOk s b e (Nat.add e0 len) i.size sz) "SliceData open"
      .ok (.val (.ptr b (Nat.mul e0 sz)) s)
    |_=>.bad "SliceData type"
   |_,_=>.bad "SliceData"
 | [.rE b n _]=>.must (.rel "some" false abn [n]::s.pc) (.ok (.val (.lu b (.int .i64 (.ofNat 0)) 1 0) s))
 |_=>.bad "SliceData"
noncomputable def ZX (s:S) (args:List AV):R Nx:=
 match args with
 | .int k n::l=>do let v ←minL k l n;.ok (.val v s)
 |_=>.bad "min"
noncomputable def ZY (s:S) (args:List AV):R Nx:=
 match args with
 | .int k n::l=>do let v ←maxL k l n;.ok (.val v s)
 |_=>.bad "max"
noncomputable def XZ (s:S) (args:List AV):R Nx:=
 match args with
 | [.iface t v]=>.ok (.jB (.iface t v) s)
 |_=>.bad "panic"
noncomputable def UM:Builtin→Ctx→S→List TypeId→List AV→R Nx
 | .append=>Ru
 | .len=>Z4
 | .cap=>Z5
 | .copy=>a1V
 | .delete=>Rt
 | .clear=>X0
 | .min=>fun _ s _=>ZX s
 | .max=>fun _ s _=>ZY s
 | .recover=>fun _ s _ _=>.ok (.recover s)
 | .panic=>fun _ s _=>XZ s
 | .unsafeString=>Rq
 | .unsafeSliceData=>Dw
 |_=>fun _ _ _ _=>.bad "builtin"
noncomputable def Ed (C:Ctx):List Field→R (List (Nat×Nat))
 | []=>.ok []
 |f::fs=>do
  let i ←ti C f.type
  let l ←Ed C fs
  .ok ((f.offset,i.size)::l)
noncomputable def lV (C:Ctx) (t:Tr AV) (x:Operand):R AV:=
 @Operand.rec (fun _=>R AV) (fun d=>@Option.rec AV (fun _=>R AV) (.ok (.ou [])) (fun v=>CQ v) (t.get d))
  (fun v=>.ok (AV.ofConst v)) (fun g=>@Bool.rec (fun _=>R AV) (.bad "global") (.ok (.ptr g 0)) (Nat.blt g C.nG)) (fun f=>.ok (.fn (.func f) [] [])) x
noncomputable def evL (C:Ctx) (t:Tr AV):List Operand→R (List AV)
 | []=>.ok []
 |x::l=>do let v ←lV C t x;let r ←evL C t l;.ok (v::r)
noncomputable def evO (C:Ctx) (t:Tr AV):Option Operand→R (Option AV)
 |none=>.ok none
 |some x=>do let v ←lV C t x;.ok (some v)
noncomputable def XA (C:Ctx) (t:Tr AV):List (Nat×Operand)→R (List (Nat×AV))
 | []=>.ok []
 | (i,x)::l=>do let v ←lV C t x;let r ←XA C t l;.ok ((i,v)::r)
abbrev BG:=TypeId→Ctx→Tr AV→S→R Nx
noncomputable def yB (x:Operand):BG:=fun _ C t s=>do let v ←lV C t x;.ok (.val v s)
noncomputable def JJ (c a b:Operand):BG:=fun _ C t s=>do
 let c ←lV C t c
 match c with
 | .bool true=>do let v ←lV C t a;.ok (.val v s)
 | .bool false=>do let v ←lV C t b;.ok (.val v s)
 | .opq k e=>match sF e s.pc with
   |some x=>match x with
    |true=>do let v ←lV C t a;.ok (.val v s)
    |false=>do let v ←lV C t b;.ok (.val v s)
   |none=>do
    let u ←lV C t a
    let v ←lV C t b
    match o7 k .bool && o7 (wU u) (wU v) && !o7 (wU u) .any with
    |true=>.ok (.val (.opq (wU u) (.a3 .ite e (dW u) (dW v))) s)
    |false=>.bad "pick: unknown"
 |_=>.bad "pick"
noncomputable def a2l (e:TypeId):BG:=fun _ C _ s=>do
 let i ←ti C e
 let z ←R.xk "no zero" i.zero
 bP (Nat.beq z.length i.size) "alloc: size"
 .ok (.val (.ptr s.next 0) (s.new (jL e z)))
noncomputable def YS (e:TypeId) (x:Operand):BG:=fun _ C t s=>do
 let v ←lV C t x
 let c ←v.cells
 let i ←ti C e
 bP (Nat.beq c.length i.size) "box: size"
 .ok (.val (.ptr s.next 0) (s.new (jL e c)))
noncomputable def Ea (ty:TypeId) (parts:Array (Nat×Operand)):BG:=fun _ C t s=>do
 let zero ←zeroOf C ty
 let ps ←XA C t parts.toList
 match ←under C ty with
 | .struct fs=>do
   let pl ←Ed C fs.toList
   let cs ←rO (nth pl) ps zero
   .ok (.val (.agg cs) s)
 | .array _ e=>do
   let i ←ti C e
   let cs ←rO (fun k=>some (Nat.mul k i.size,i.size)) ps zero
   .ok (.val (.agg cs) s)
 |_=>.bad "build"
noncomputable def zC (C:Ctx) (e:TypeId) (n sz:Nat):R (List AV):=
 match Nat.beq n 0 with
 |true=>.ok []
 |false=>do
  let z ←zeroOf C e
  bP (Nat.beq z.length sz) "zero size"
  .ok z
noncomputable def pX (ty:TypeId) (len:Nat) (parts:Array (Nat×Operand)):BG:=fun _ C t s=>do
 match ←under C ty with
 | .slice e=>do
   let i ←ti C e
   bP (Nat.ble (Nat.mul len i.size) 16777216) "buildSlice: too long"
   let zero ←zC C e (Nat.mul len i.size) i.size
   let ps ←XA C t parts.toList
   let cs ←rO (fun k=>some (Nat.mul k i.size,i.size)) ps (Fp zero len)
   .ok (.val (.sl s.next 0 len len) (s.new (jL e cs)))
 |_=>.bad "buildSlice"
noncomputable def JK (ty:TypeId) (a:Operand):BG:=fun _ C t s=>do let p ←lV C t a;let v ←loadAt C s ty p;.ok (.val v s)
noncomputable def zU (ty:TypeId) (a x:Operand):BG:=fun _ C t s=>do let p ←lV C t a;let v ←lV C t x;let s' ←storeAt C s ty p v;.ok (.skip s')
noncomputable def rG (x:Operand):BG:=fun _ C t s=>do
 let v ←lV C t x
 match v with
 | .opq k _=>match k with
   | .ptr _ _=>.ok (.val v s)
   |_=>.bad "nilCheck: unknown"
 | .ptr _ _=>.ok (.val v s)
 | .lu _ _ _ _=>.ok (.val v s)
 | .sl ..=>.ok (.val v s)
 | .gQ ..=>.ok (.val v s)
 | .iface _ _=>.ok (.val v s)
 | .yield _=>.ok (.val v s)
 | .fn g _ _=>match g with
   | .func _=>.ok (.val v s)
   |_=>.bad "nilCheck of a method value"
 |_=>.bad "nil dereference"
noncomputable def Un (op:BinOp) (ty:TypeId) (x y:Operand):BG:=fun _ C t s=>do
 let a ←lV C t x;let b ←lV C t y;let v ←a6t C s op ty (dO x || dO y) a b;.ok (.val v s)
noncomputable def a3z (op:UnOp) (x:Operand):BG:=fun _ C t s=>do let a ←lV C t x;let v ←abS op a;.ok (.val v s)
noncomputable def JM (src dst:TypeId) (x:Operand):BG:=fun _ C t s=>do let a ←lV C t x;a6s C s src dst a
noncomputable def a5J:TypeDesc→R Unit
 | .interface _=>.bad "makeInterface"
 |_=>.ok ()
noncomputable def D7 (ty:TypeId) (x:Operand):BG:=fun _ C t s=>do
 let d ←under C ty
 a5J d
 let v ←lV C t x
 .ok (.val (.iface ty v) s)
noncomputable def JL (fn:Fn) (first cap:Array Operand):BG:=fun _ C t s=>do
 bP (gV fn) "makeFunc"
 let a ←evL C t first.toList
 let b ←evL C t cap.toList
 .ok (.val (.fn fn a b) s)
noncomputable def YQ (ty:TypeId) (r:Option Operand):BG:=fun _ C t s=>
 match r with
 |none=>.ok (.val (.iY s.next) (s.new (.map [] 0)))
 |some x=>do
  match ←under C ty with
  | .map _ _=>do
    let v ←lV C t x
    let _ ←asInt v
    .ok (.val (.iY s.next) (s.new (.map [] 0)))
  |_=>.bad "makeMap"
def a5l (bytes:Nat) (l:List Dt):Prop:=∃k n,l=[.val (.int k n)]∧¬ (0≤n∧n.toNat * bytes≤1099511627776∧n≤1099511627776)
noncomputable def Ep (C:Ctx):List Kd→List Nat
 | []=>[]
 |k::l=>(match k with| .sl t=>(aJ C t).length|_=>0)::Ep C l
noncomputable def aa5 (v:AV) (k:Kd):Bool:=
 match k with
 | .int q=>match v with| .int q' n=>Af q q' && decide (n=0)|_=>false
 | .bool=>match v with| .bool b=> !b|_=>false
 | .str=>match v with| .str l=>(match l with| []=>true|_::_=>false)|_=>false
 | .sl _=>match v with| .aW=>true|_=>false
 |_=>false
noncomputable def a15:List AV→List Kd→Bool
 | []=>fun ks=>match ks with| []=>true|_::_=>false
 |v::l=>fun ks=>match ks with
  | []=>false
  |k::ks=>aa5 v k && a15 l ks
noncomputable def a2r (C:Ctx) (s:S) (e:TypeId) (l c:AV):R Nx:=do
 let i ←ti C e
 let z ←zeroOf C e
 bP (o7 (wU l) (.int .i64) && (o7 (wU c) (.int .i64) && (fZ (dW l) (dW c) && (Nat.beq i.size z.length && (!Nat.beq i.size 0 && a15 z (aJ C e)))))) "makeSlice: unknown"
 .must (.rel "make" false (a5l i.bytes) [dW l]::s.pc) (.ok (.val (.rE s.next (dW l) (dW l)) (s.new (.vec e (.a1 (.zs (aJ C e) (Ep C (aJ C e))) (dW l))))))
noncomputable def sO (ty:TypeId) (l c:Operand):BG:=fun _ C t s=>do
 match ←under C ty with
 | .slice e=>do
   let l ←lV C t l
   let c ←lV C t c
   match CW l with
   |true=>a2r C s e l c
   |false=>do
   let l ←BA l
   let c ←BA c
   let i ←ti C e
   bP (Nat.ble l c && Nat.ble (Nat.mul c i.bytes) 1099511627776 && Nat.ble c 1099511627776) "makeSlice bounds"
   let z ←zC C e (Nat.mul c i.size) i.size
   .ok (.val (.sl s.next 0 l c) (s.new (jL e (Fp z c))))
 |_=>.bad "makeSlice"
noncomputable def D5 (ty:TypeId) (x:Operand) (lo hi mx:Option Operand):BG:=fun _ C t s=>do
 let v ←lV C t x
 let a ←evO C t lo
 let b ←evO C t hi
 let c ←evO C t mx
 let r ←Yo C s ty v a b c
 .ok (.val r s)
noncomputable def oK (ty:TypeId) (x:Operand) (f:Nat):BG:=fun _ C t s=>do
 match ←under C ty with
 | .struct fs=>do
   let fd ←R.xk "fieldAddr field" (nth fs.toList f)
   let i ←ti C fd.type
   bP (!Nat.beq i.size 0) "fieldAddr: size 0"
   let v ←lV C t x
   match v with
   | .ptr b off=>.ok (.val (.ptr b (Nat.add off fd.offset)) s)
   | .lu b i sz k=>.ok (.val (.lu b i sz (Nat.add k fd.offset)) s)
   | .opq k e=>match k with
     | .ptr u j=>.ok (.val (.opq (.ptr u (Nat.add j fd.offset)) (.a1 (.off fd.offset) e)) s)
     |_=>.bad "fieldAddr: unknown"
   |_=>.bad "fieldAddr ptr"
 |_=>.bad "fieldAddr"
noncomputable def D8 (ty:TypeId) (x:Operand) (f:Nat):BG:=fun _ C t s=>do
 match ←under C ty with
 | .struct fs=>do
   let fd ←R.xk "field" (nth fs.toList f)
   let v ←lV C t x
   match v with
   | .agg cs=>do let r ←partOf C fd.type cs fd.offset;.ok (.val r s)
   |_=>.bad "field agg"
 |_=>.bad "field"
noncomputable def a8b (C:Ctx) (s:S) (d:TypeDesc) (t:TypeId) (e:SE) (i:AV):R AV:=do
 bP (FQ (wU i)) "indexAddr: unknown index"
 match d with
 | .slice et=>do
   let q ←ti C et
   bP (Nat.beq et t && !Nat.beq q.size 0 && Nat.beq q.size (aJ C t).length) "indexAddr: unknown element"
   match lD (dW i) (.a1 .len e) s.pc with
   |true=>.ok (.opq (.ptr t 0) (.a2 .el e (dW i)))
   |false=>.must (.rel "out" false CJ [dW i,.a1 .len e]::s.pc) (.ok (.opq (.ptr t 0) (.a2 .el e (dW i))))
 |_=>.bad "indexAddr: unknown"
noncomputable def a7S (C:Ctx) (s:S) (d:TypeDesc) (b:Nat) (n:SE) (i:AV):R AV:=do
 bP (FQ (wU i)) "indexAddr: unknown index"
 match d with
 | .slice et=>do
   let q ←ti C et
   match lD (dW i) n s.pc with
   |true=>.ok (.lu b (dW i) q.size 0)
   |false=>.must (.rel "out" false CJ [dW i,n]::s.pc) (.ok (.lu b (dW i) q.size 0))
 |_=>.bad "indexAddr: unknown"
noncomputable def lF (i:SE) (k:IntKind) (pc:List Fact):List Nat→List Nat
 | []=>[]
 |j::l=>match sF (.a2 (.bin .eql) i (.int k (.ofNat j))) pc with
  |some false=>lF i k pc l
  |_=>j::lF i k pc l
noncomputable def upTo:Nat→List Nat
 | 0=>[]
 |n+1=>upTo n++[n]
noncomputable def Oo (C:Ctx) (s:S) (d:TypeDesc) (b off:Nat) (k:IntKind) (i:SE):R Nx:=
 match d with
 | .array n e=>do
   let j ←ti C e
   .must (.rel "out" false CJ [i,.int .i64 (.ofNat n)]::s.pc) (.ask (lF i k s.pc (upTo n)).length fun q=>match nth (lF i k s.pc (upTo n)) q with
    |some m=>.ok (.val (.ptr b (Nat.add off (Nat.mul m j.size))) (s.add (.tr (.a2 (.bin .eql) i (.int k (.ofNat m))))))
    |none=>.bad "index: none")
 |_=>.bad "indexAddr ptr"
noncomputable def oJ (ty:TypeId) (x ix:Operand):BG:=fun _ C t s=>do
 let i0 ←lV C t ix
 let v ←lV C t x
 let d ←under C ty
 match v with
 | .opq k e=>match k with
   | .sl u=>do
     let r ←a8b C s d u e i0
     .ok (.val r s)
   |_=>.bad "indexAddr: unknown"
 | .rE b n _=>do
   let r ←a7S C s d b n i0
   .ok (.val r s)
 | .ptr b off=>match CW i0 with
   |true=>match wU i0 with
    | .int k=>Oo C s d b off k (dW i0)
    |_=>.bad "indexAddr: unknown index"
   |false=>do
    let i ←BA i0
    match d with
     | .array n e=>match Nat.blt i n with
       |true=>do let e ←ti C e;.ok (.val (.ptr b (Nat.add off (Nat.mul i e.size))) s)
       |false=>.bad "index array"
     |_=>.bad "indexAddr ptr"
 |v=>do
  let i ←BA i0
  match v with
   | .sl b off len _=>match d with
     | .slice e=>match Nat.blt i len with
       |true=>do let e ←ti C e;.ok (.val (.ptr b (Nat.add off (Nat.mul i e.size))) s)
       |false=>.bad "index slice"
     |_=>.bad "indexAddr slice"
   | .gQ b _ e0 len sz=>match d with
     | .slice et=>match Nat.blt i len with
       |true=>do
        let e ←ti C et
        bP (oOk s b et (Nat.add e0 len) e.size sz) "index size"
        .ok (.val (.ptr b (Nat.mul (Nat.add e0 i) sz)) s)
       |false=>.bad "index oslice"
     |_=>.bad "indexAddr oslice"
   |_=>.bad "indexAddr"
noncomputable def Vd (s:S) (d:TypeDesc) (v i:AV):R AV:=do
 bP (FQ (wU i)) "index: unknown index"
 match d with
 | .string=>match wU v with
   | .str=>match Zl (dW v) s.pc (dW i) with
     |true=>.ok (.opq (.int .u8) (.a2 .idx (dW v) (dW i)))
     |false=>.must (.rel "out" false CJ [dW i,.a1 .len (dW v)]::s.pc) (.ok (.opq (.int .u8) (.a2 .idx (dW v) (dW i))))
   |_=>.bad "index: unknown"
 |_=>.bad "index: unknown"
noncomputable def Ou (C:Ctx) (s:S) (d:TypeDesc) (cs:List AV) (k:IntKind) (i:SE):R Nx:=
 match d with
 | .array n e=>do
   let j ←ti C e
   .must (.rel "out" false CJ [i,.int .i64 (.ofNat n)]::s.pc) (.ask (lF i k s.pc (upTo n)).length fun q=>match nth (lF i k s.pc (upTo n)) q with
    |some m=>do let r ←partOf C e cs (Nat.mul m j.size);.ok (.val r (s.add (.tr (.a2 (.bin .eql) i (.int k (.ofNat m))))))
    |none=>.bad "index: none")
 |_=>.bad "index agg type"
noncomputable def D6 (ty:TypeId) (x ix:Operand):BG:=fun _ C t s=>do
 let i0 ←lV C t ix
 let v ←lV C t x
 match CW i0 || CW v with
 |true=>do
  let d ←under C ty
  match v with
  | .agg cs=>match wU i0 with
    | .int k=>Ou C s d cs k (dW i0)
    |_=>.bad "index: unknown index"
  |v=>do
  let r ←Vd s d v i0
  .ok (.val r s)
 |false=>do
 let i ←BA i0
 match v with
 | .str l=>do
   match ←under C ty with
   | .string=>match nth l i with
     |some b=>.ok (.val (.int .u8 (.ofNat b.toNat)) s)
     |none=>.bad "index string"
   |_=>.bad "index string type"
 | .agg cs=>do
   match ←under C ty with
   | .array n e=>match Nat.blt i n with
     |true=>do let j ←ti C e;let r ←partOf C e cs (Nat.mul i j.size);.ok (.val r s)
     |false=>.bad "index agg"
   |_=>.bad "index agg type"
 |_=>.bad "index"
noncomputable def o8 (ok b:Bool) (v:AV):AV:=
 match ok with
 |true=>.ou [v,.bool b]
 |false=>v
noncomputable def Ak (s:S) (e:SE):List ME→R (Option ME×S)
 | []=>.ok (none,s)
 |x::l=>do
  let r ←Qj s (.a2 (.bin .eql) e (dW x.k))
  match r.1 with
  |true=>.ok (some x,r.2)
  |false=>Ak r.2 e l
noncomputable def nH (d:TypeDesc):List ME→Bool
 | []=>true
 |x::l=>keyOf d x.k && nH d l
noncomputable def Oq (d:TypeDesc) (k:AV) (es:List ME):Option SE:=
 match d with
 | .string=>match k with
   | .opq kd e=>match kd with
     | .str=>match nH d es with
       |true=>some e
       |false=>none
     |_=>none
   |_=>none
 | .int q=>match k with
   | .opq kd e=>match kd with
     | .int q'=>match Af q q' && nH d es with
       |true=>some e
       |false=>none
     |_=>none
   |_=>none
 |_=>none
noncomputable def yY (ty:TypeId) (x k:Operand) (ok:Bool):BG:=fun _ C t s=>do
 match ←under C ty with
 | .map kt e=>do
   let d ←under C kt
   let m ←lV C t x
   let m ←rJ s m
   let k ←lV C t k
   match Oq d k m.1 with
   |some se=>do
    let r ←Ak s se m.1
    match r.1 with
    |some e=>.ok (.val (o8 ok true e.v) r.2)
    |none=>do
     let v ←nM C e
     .ok (.val (o8 ok false v) r.2)
   |none=>do
    bP (uP d k m.1) "lookup: key"
    match sW k m.1 with
    |some e=>.ok (.val (o8 ok true e.v) s)
    |none=>do
     let v ←nM C e
     .ok (.val (o8 ok false v) s)
 |_=>.bad "lookup"
noncomputable def a8u (s:S) (r:Nat) (k v:AV) (m:List ME×Nat):S:=
 match sW k m.1 with
 |some _=>⟨s.h.set r (.map (OD k v m.1) m.2),s.next,s.pc⟩
 |none=>⟨s.h.set r (.map (m.1++[⟨k,v,m.2⟩]) (Nat.add m.2 1)),s.next,s.pc⟩
noncomputable def jJ (ty:TypeId) (m k x:Operand):BG:=fun _ C t s=>do
 match ←under C ty with
 | .map kt _=>do
   let d ←under C kt
   let mv ←lV C t m
   match mv with
   | .iY r=>do
     let m ←rJ s (.iY r)
     let k ←lV C t k
     let x ←lV C t x
     bP (uP d k m.1) "update: key"
     .ok (.skip (a8u s r k x m))
   |_=>.bad "mapUpdate"
 |_=>.bad "mapUpdate"
noncomputable def vU (ty:TypeId) (m k:Operand):BG:=fun _ C t s=>do
 match ←under C ty with
 | .map kt et=>do
   let d ←under C kt
   let mv ←lV C t m
   match mv with
   | .iY r=>do
     let m ←rJ s (.iY r)
     let k ←lV C t k
     bP (uP d k m.1) "entry: key"
     match sW k m.1 with
     |some e=>.ok (.val (.ou [e.v,.int .i64 (.ofNat e.born)]) ⟨s.h.set r (.map (OD k e.v m.1) m.2),s.next,s.pc⟩)
     |none=>do
      let v ←nM C et
      .ok (.val (.ou [v,.int .i64 (.ofNat m.2)]) ⟨s.h.set r (.map (m.1++[⟨k,v,m.2⟩]) (Nat.add m.2 1)),s.next,s.pc⟩)
   |_=>.bad "mapEntry"
 |_=>.bad "mapEntry"
noncomputable def pR (m b x:Operand):BG:=fun _ C t s=>do
 let mv ←lV C t m
 match mv with
 | .iY r=>do
   let m ←rJ s (.iY r)
   let b ←lV C t b
   let b ←BA b
   let x ←lV C t x
   match EJ b m.1 with
   |some _=>.ok (.skip ⟨s.h.set r (.map (setB b x m.1) m.2),s.next,s.pc⟩)
   |none=>.bad "entryStore"
 |_=>.bad "entryStore"
noncomputable def a8r (s:S) (d:TypeDesc) (v:AV):R jc:=
 match d with
 | .string=>match v with
   | .str l=>.ok (.KJ l 0)
   |_=>.bad "range"
 | .map _ _=>match v with
   | .iW=>.ok (.vY none 0 [] 0)
   | .iY r=>do
     let m ←rJ s (.iY r)
     .ok (.vY (some r) m.2 [] m.2)
   |_=>.bad "range"
 |_=>.bad "range"
noncomputable def Hr (ty:TypeId) (x:Operand):BG:=fun _ C t s=>do
 let v ←lV C t x
 let d ←under C ty
 let b ←a8r s d v
 .ok (.val (.ptr s.next 0) (s.new b))
noncomputable def BM (s:S) (r m since:Nat) (seen:List Nat) (clock:Nat) (e:ME):R Nx:=
 .ok (.val (.ou [.bool true,e.k,e.v]) ⟨s.h.set r (.vY (some m) since (e.born::seen) clock),s.next,s.pc⟩)
noncomputable def a2c (s:S) (r:Nat) (l:List UInt8) (pos:Nat) (c:Nat×Nat):R Nx:=
 .ok (.val (.ou [.bool true,.int .i64 (.ofNat pos),.int .i32 (.ofNat c.1)]) ⟨s.h.set r (.KJ l (Nat.add pos c.2)),s.next,s.pc⟩)
noncomputable def DI (n:Nat):List ME→Bool
 | []=>true
 |e::es=>match Nat.blt e.born n with
  |true=>DI n es
  |false=>false
noncomputable def a2o (s:S) (r m since:Nat) (seen:List Nat) (es:List ME) (clock:Nat):R Nx:=
 match leftOf seen es with
 | []=>.ok (.val (.ou [.bool false]) s)
 | [e]=>BM s r m since seen clock e
 |l=>.ask l.length fun i=>match nth l i with
  |some x=>BM s r m since seen clock x
  |none=>.bad "map range"
noncomputable def a02 (s:S) (r:Nat) (isStr:Bool):R Nx:=
 match s.h.get r with
 |some (.KJ l pos)=>match isStr with
  |true=>match Nat.blt pos l.length with
   |true=>a2c s r l pos (Utf8.decode ⟨⟨l⟩⟩ pos)
   |false=>.ok (.val (.ou [.bool false]) s)
  |false=>.bad "next"
 |some (.vY none _ _ _)=>match isStr with
  |false=>.ok (.val (.ou [.bool false]) s)
  |true=>.bad "next"
 |some (.vY (some m) since seen last)=>match isStr with
  |false=>do
   let mm ←rJ s (.iY m)
   bP (DI last mm.1 && DI since mm.1) "map range: insertion"
   a2o s r m since seen mm.1 mm.2
  |true=>.bad "next"
 |_=>.bad "next"
noncomputable def Pn (it:Operand) (isStr:Bool):BG:=fun _ C t s=>do
 let v ←lV C t it
 match v with
 | .ptr r off=>match off with
   | 0=>a02 s r isStr
   |_+1=>.bad "next iter"
 |_=>.bad "next iter"
noncomputable def entryOf (s:S) (r:Nat):R AV:=
 match s.h.get r with
 |some (.vY (some m) _ (b::_) last)=>do
  let mm ←rJ s (.iY m)
  bP (Nat.beq mm.2 last) "entry: insertion"
  match EJ b mm.1 with
  |some e=>.ok (.ou [e.k,e.v])
  |none=>.bad "entry: removed"
 |_=>.bad "entry iter"
noncomputable def D9 (it:Operand):BG:=fun _ C t s=>do
 let v ←lV C t it
 match v with
 | .ptr r off=>match off with
   | 0=>do
     let x ←entryOf s r
     .ok (.val x s)
   |_+1=>.bad "entry"
 |_=>.bad "entry"
noncomputable def a3A (x:Operand) (asserted:TypeId) (ok:Bool):BG:=fun _ C t s=>do let v ←lV C t x;let r ←aek C v asserted ok;.ok (.val r s)
noncomputable def vG (x:Operand) (i:Nat):BG:=fun _ C t s=>do
 let v ←lV C t x
 match v with
 | .ou l=>do let r ←R.xk "extract" (nth l i);.ok (.val r s)
 |_=>.bad "extract"
noncomputable def Fv (c:Call):BG:=fun _ C t s=>do
 let args ←evL C t c.args.toList
 match c.callee with
 | .builtin b=>UM b C s c.argTypes.toList args
 | .value f=>do let f ←lV C t f;Ae C s f args
 | .invoke r name=>do let r ←lV C t r;callM C s r name args
noncomputable def Hu (c:Call):BG:=fun _ C t s=>do
 let args ←evL C t c.args.toList
 match c.callee with
 | .value f=>do
   let f ←lV C t f
   match f with
   | .fn g a b=>.ok (.defer { target:=.fn g a b,args } s)
   |_=>.bad "defer of what"
 |_=>.bad "defer of a builtin or method"
noncomputable def Ht (x:Operand):BG:=fun _ C t s=>do
 let v ←lV C t x
 match v with
 | .iface t v=>.ok (.jB (.iface t v) s)
 |_=>.bad "panic nil"
noncomputable def Le:BG:=fun _ _ _ _=>.bad "op"
noncomputable def yJ (o:Op):BG:=
 @Op.rec (fun _=>BG)
  yB yB JJ a2l YS Ea pX jJ JK zU (fun _=>Le) (fun _=>Le) rG
  (fun op t x y _=>Un op t x y) (fun op _ x=>a3z op x) JM (fun _ _=>Le) D7 JL YQ (fun _ _=>Le) sO D5 oK D8
  oJ D6 yY jJ vU (fun _ m b x=>pR m b x) Hr Pn D9 (fun x _ a ok=>a3A x a ok) vG Fv
  (fun _=>Le) Hu Ht (fun _ _=>Le) (fun _ _ _=>Le) (fun _ _=>Le) o
end Go.Proofs.YtjioppomopfifaaGreatDoor.Abs
namespace Go.Proofs.YtjioppomopfifaaGreatDoor.Abs
open Go
inductive PI where
 |act (i:Nat)|ev (i:Nat)|re (i:Nat)|al (i:Nat)|on (i:Nat)
 deriving Inhabited
inductive PS where
 |act (i:Nat) (o:Oper)|ev (i:Nat) (o:Oper)|re (i:Nat) (o:Oper)|al (i:Nat) (o:Oper)|on (i:Nat)
 deriving Inhabited
inductive PK where
 |act|ev|al
 deriving Inhabited
noncomputable def Ei (e:Edge):Bool:=
 match e.ground with
 | .textOnly _=>false
 | .gcOnly _=>false
 |_=>true
noncomputable def bit (i:Nat):Nat:=Nat.shiftLeft 1 i
noncomputable def has (m i:Nat):Bool:=Nat.beq (Nat.land (Nat.shiftRight m i) 1) 1
noncomputable def sub (a b:Nat):Bool:=Nat.beq (Nat.lor a b) b
noncomputable def lI (a b:Nat):Bool:=Nat.beq (Nat.land a b) 0
noncomputable def Px:List Nat→Nat→Nat
 | []=>fun _=>0
 |x::l=>fun i=>match i with
  | 0=>x
  |n+1=>Px l n
noncomputable def qc (M:List Nat):List Edge→Nat
 | []=>0
 |e::l=>match Ei e with
  |true=>Nat.lor (Nat.lor (bit e.on) (Px M e.on)) (qc M l)
  |false=>qc M l
noncomputable def je:List Oper→List Nat→List Nat
 | []=>fun acc=>acc
 |o::l=>fun acc=>je l (acc++[qc acc o.after.toList])
noncomputable def opM:List Operand→Nat
 | []=>0
 |x::l=>match x with
  | .tmp t=>Nat.lor (bit t) (opM l)
  |_=>opM l
noncomputable def QT (o:Oper):Nat:=
 match o.dst with
 |some d=>bit d
 |none=>0
noncomputable def a1k (ops:List Oper) (o:Oper):Nat:=
 match o.guard with
 |some (g,_)=>match nth ops g with
  |some p=>QT p
  |none=>0
 |none=>0
noncomputable def qW (ops:List Oper) (o:Oper):Nat:=Nat.lor (opM o.op.operands.toList) (a1k ops o)
noncomputable def ady:Builtin→Bool
 | .len=>true
 | .cap=>true
 | .min=>true
 | .max=>true
 |_=>false
noncomputable def xQ:Op→Bool
 | .move _=>true
 | .pick _ _ _=>true
 | .build _ _=>true
 | .load _ _=>true
 | .nilCheck _=>true
 | .binOp _ _ _ _ _=>true
 | .unOp _ _ _=>true
 | .convert _ _ _=>true
 | .makeInterface _ _=>true
 | .makeFunc _ _ _=>true
 | .slice _ _ _ _ _=>true
 | .fieldAddr _ _ _=>true
 | .field _ _ _=>true
 | .indexAddr _ _ _=>true
 | .index _ _ _=>true
 | .lookup _ _ _ _=>true
 | .entry _=>true
 | .typeAssert _ _ _ _=>true
 | .extract _ _=>true
 | .call c=>match c.callee with
   | .builtin b=>ady b
   |_=>false
 |_=>false
noncomputable def MH:Op→Bool
 | .alloc _=>true
 | .box _ _=>true
 | .buildSlice _ _ _=>true
 | .makeMap _ r=>match r with
   |none=>true
   |some _=>false
 |_=>false
structure PO where
 i:Nat
 before:Nat
 look:Nat
 dst:Nat
 kind:PK
 deriving Inhabited
noncomputable def pJ (o:Op):PK:=
 match xQ o with
 |true=>.ev
 |false=>match MH o with
  |true=>.al
  |false=>.act
noncomputable def posOf (ops:List Oper) (M:List Nat):List Oper→Nat→List PO
 | []=>fun _=>[]
 |o::l=>fun i=>⟨i,Px M i,qW ops o,QT o,pJ o.op⟩::posOf ops M l (Nat.add i 1)
noncomputable def a2C (x:PO):List PO→Bool
 | []=>true
 |y::l=>match Nat.beq x.i y.i || lI x.dst (Nat.lor y.look y.dst) || (has y.before x.i && lI x.dst y.dst) with
  |true=>a2C x l
  |false=>false
noncomputable def KL (all:List PO):List PO→List PO
 | []=>[]
 |x::l=>(match x.kind with
  | .act=>x
  |_=>match a2C x all with
   |true=>x
   |false=>⟨x.i,x.before,x.look,x.dst,.act⟩)::KL all l
noncomputable def a2X:List PO→Nat
 | []=>0
 |x::l=>match x.kind with
  | .act=>Nat.lor (bit x.i) (a2X l)
  |_=>a2X l
noncomputable def DX (acts done:Nat):List PO→List PI
 | []=>[]
 |x::l=>match x.kind with
  | .act=>DX acts done l
  | .ev=>match Nat.beq (Nat.land x.before acts) done with
    |true=>.ev x.i::DX acts done l
    |false=>DX acts done l
  | .al=>match Nat.beq (Nat.land x.before acts) done with
    |true=>.al x.i::DX acts done l
    |false=>DX acts done l
noncomputable def a6g:List PI→Bool
 | []=>false
 |x::l=>match x with
  | .al _=>true
  |_=>a6g l
noncomputable def a8q (acts done ahead:Nat) (anew:Bool):List PO→List PI
 | []=>[]
 |x::l=>match x.kind with
  | .ev=>match !has ahead x.i && sub (Nat.land x.before acts) done && (anew || !Nat.beq (Nat.land x.before acts) done) with
    |true=>.re x.i::a8q acts done ahead anew l
    |false=>a8q acts done ahead anew l
  |_=>a8q acts done ahead anew l
noncomputable def a5r (before yC:Nat):List PO→List PI
 | []=>[]
 |x::l=>match x.kind with
  | .al=>match has before x.i && !has yC x.i with
    |true=>.on x.i::a5r before yC l
    |false=>a5r before yC l
  |_=>a5r before yC l
noncomputable def phase (all:List PO) (acts done ahead:Nat) (first:Bool):List PI:=
 let f:=DX acts done all
 f++(match first && !a6g f with
  |true=>[]
  |false=>a8q acts done ahead (a6g f) all)
noncomputable def phases (all:List PO) (acts n:Nat):List PO→Nat→Nat→List PI
 | []=>fun _done yC=>a5r (Nat.sub (bit n) 1) yC all
 |x::l=>fun done yC=>match x.kind with
  | .act=>a5r x.before yC all++(.act x.i::(phase all acts (Nat.lor done (bit x.i)) x.before false++phases all acts n l (Nat.lor done (bit x.i)) (Nat.lor yC x.before)))
  |_=>phases all acts n l done yC
noncomputable def jm (ops:List Oper):List PO:=posOf ops (je ops []) ops 0
noncomputable def G5 (n:Nat) (all iter:List PO):List PI:=phase all (a2X all) 0 0 true++phases all (a2X all) n iter 0 0
inductive U4 where
 |one (p:List PI)
 |two (pre:List PI) (x y:Nat) (ra rb:List Nat)
 deriving Inhabited
noncomputable def lH (i m:Nat):List PO→List PO
 | []=>[]
 |x::l=>(match Nat.beq x.i i with
  |true=>⟨x.i,Nat.lor x.before m,x.look,x.dst,x.kind⟩
  |false=>x)::lH i m l
noncomputable def a7o (i:Nat):List PO→List PO
 | []=>[]
 |x::l=>match Nat.beq x.i i with
  |true=>l
  |false=>x::a7o i l
noncomputable def X8:List PO→List PO
 | []=>[]
 |x::l=>match x.kind with
  | .act=>x::X8 l
  |_=>X8 l
noncomputable def a2u:List PO→Option (PO×PO)
 | []=>none
 |x::l=>match l with
  | [y]=>some (x,y)
  |l=>a2u l
noncomputable def Vs:List PI→Option (List Nat)
 | []=>none
 |p::l=>match p with
  | .re i=>(Vs l).map fun q=>i::q
  | .act _=>match l with
    | []=>some []
    |_=>none
  |_=>none
noncomputable def Gy (x:Nat):List PI→Option (List PI×List PI)
 | []=>none
 |p::l=>match p with
  | .act a=>match Nat.beq a x with
    |true=>some ([],l)
    |false=>(Gy x l).map fun q=>(p::q.1,q.2)
  |p=>(Gy x l).map fun q=>(p::q.1,q.2)
noncomputable def a8x (n:Nat) (all:List PO) (x y:PO):U4:=
 let allA:=lH y.i (Nat.lor (bit x.i) x.before) all
 let allB:=lH x.i (Nat.lor (bit y.i) y.before) all
 match Gy x.i (G5 n allA allA),Gy y.i (G5 n allB (a7o x.i allB++[⟨x.i,Nat.lor x.before (Nat.lor (bit y.i) y.before),x.look,x.dst,x.kind⟩])) with
 |some (pre,ta),some (_,tb)=>match Vs ta,Vs tb with
  |some ra,some rb=>.two pre x.i y.i ra rb
  |_,_=>.one []
 |_,_=>.one []
structure RF where
 done:Nat
 acts:Nat
 evs:Nat
 Jt:Nat
 YU:Nat
 stale:Nat
 run:Nat
 last:Nat
 fl:List PO
 deriving Inhabited
noncomputable def Dz (x:PO):List PO→Bool
 | []=>true
 |y::l=>match has x.before y.i || (lI x.dst (Nat.lor y.look y.dst) && lI x.look y.dst) with
  |true=>Dz x l
  |false=>false
noncomputable def Jo (x:PO):List PO→Bool
 | []=>true
 |y::l=>match lI x.dst (Nat.lor y.look y.dst) && (has x.before y.i || lI x.look y.dst) with
  |true=>Jo x l
  |false=>false
noncomputable def a5H (s:RF) (x:PO):Bool:=
 !has s.done x.i && sub x.before s.done && sub s.acts x.before && sub s.run x.before && Nat.beq s.stale 0 && Dz x s.fl
noncomputable def a5G (s:RF) (x:PO):Bool:=
 !has s.done x.i && sub x.before s.done && sub s.acts x.before && Nat.beq s.run 0 && lI x.dst x.look && Jo x s.fl
noncomputable def minus (a b:Nat):Nat:=Nat.xor (Nat.lor a b) b
noncomputable def fV:List PO→Nat→Option PO
 | []=>fun _=>none
 |x::l=>fun i=>match i with
  | 0=>some x
  |n+1=>fV l n
noncomputable def cZ (all:List PO) (n:Nat):List PI→RF→Bool
 | []=>fun s=>Nat.beq s.done (Nat.sub (bit n) 1) && Nat.beq s.YU s.Jt && Nat.beq s.stale 0
 |p::l=>fun s=>match p with
  | .act i=>match fV all i with
    |none=>false
    |some x=>a5H s x && cZ all n l ⟨Nat.lor s.done (bit i),Nat.lor s.acts (bit i),s.evs,s.Jt,s.YU,minus s.evs x.before,0,x.before,s.fl⟩
  | .ev i=>match fV all i with
    |none=>false
    |some x=>a5G s x && (match x.kind with| .ev=>true|_=>false) && cZ all n l ⟨Nat.lor s.done (bit i),s.acts,Nat.lor s.evs (bit i),s.Jt,s.YU,s.stale,0,s.last,x::s.fl⟩
  | .al i=>match fV all i with
    |none=>false
    |some x=>a5G s x && (match x.kind with| .al=>true|_=>false) && cZ all n l ⟨Nat.lor s.done (bit i),s.acts,s.evs,Nat.lor s.Jt (bit i),s.YU,minus s.evs s.last,0,s.last,x::s.fl⟩
  | .re i=>has s.evs i && Nat.beq s.run 0 && cZ all n l ⟨s.done,s.acts,s.evs,s.Jt,s.YU,minus s.stale (bit i),0,s.last,s.fl⟩
  | .on i=>has s.Jt i && !has s.YU i && Nat.beq s.stale 0 && cZ all n l ⟨s.done,s.acts,s.evs,s.Jt,Nat.lor s.YU (bit i),0,Nat.lor s.run (bit i),s.last,s.fl⟩
noncomputable def below:List PO→Bool
 | []=>true
 |x::l=>match Nat.blt x.before (bit x.i) with
  |true=>below l
  |false=>false
noncomputable def VY (all:List PO) (n:Nat) (plan:List PI):Bool:=cZ all n plan ⟨0,0,0,0,0,0,0,0,[]⟩
noncomputable def o9 (x y:Nat) (ra:List Nat):List PI:=.act x::(ra.map .re++[.act y])
noncomputable def a5F (all:List PO) (n x y:Nat) (ra rb:List Nat) (pre:List PI):Bool:=
 match fV all x,fV all y with
 |some px,some py=> !Nat.beq x y && VY (lH y (Nat.lor (bit x) px.before) all) n (pre++o9 x y ra) && VY (lH x (Nat.lor (bit y) py.before) all) n (pre++o9 y x rb)
 |_,_=>false
noncomputable def O1 (ops:List Oper) (p:U4):Bool:=
 below (jm ops) && (match p with
  | .one plan=>VY (jm ops) ops.length plan
  | .two pre x y ra rb=>a5F (jm ops) ops.length x y ra rb pre)
noncomputable def Wv:List Oper→Nat
 | []=>0
 |o::l=>match o.guard with
  |some p=>Nat.lor (bit p.1) (Wv l)
  |none=>Wv l
noncomputable def Ko (m:Nat):List PO→List PO
 | []=>[]
 |x::l=>(match has m x.i with
  |true=>⟨x.i,x.before,x.look,x.dst,.act⟩
  |false=>x)::Ko m l
noncomputable def NW (n:Nat) (all:List PO):U4:=
 match a2u (X8 all) with
 |none=>.one (G5 n all all)
 |some (x,y)=>match has y.before x.i with
  |true=>.one (G5 n all all)
  |false=>a8x n all x y
noncomputable def BZ (ops:List Oper):U4:=
 let all:=KL (jm ops) (jm ops)
 match Wv ops with
 | 0=>NW ops.length all
 |m+1=>match O1 ops (NW ops.length (Ko (m+1) all)) with
  |true=>NW ops.length (Ko (m+1) all)
  |false=>NW ops.length all
noncomputable def jZ (ops:List Oper):PI→Option PS
 | .act i=>(nth ops i).map (.act i)
 | .ev i=>(nth ops i).map (.ev i)
 | .re i=>(nth ops i).map (.re i)
 | .al i=>(nth ops i).map (.al i)
 | .on i=>some (.on i)
noncomputable def link (ops:List Oper):List PI→List PS
 | []=>[]
 |p::l=>match jZ ops p with
  |some x=>x::link ops l
  |none=>link ops l
noncomputable def a5X (a b:IntKind):Bool:=decide (a=b)
noncomputable def aaD (a b:Int):Bool:=decide (a=b)
noncomputable def a5f (a b:Value):Bool:=
 match a,b with
 | .pointer (some x),.pointer (some y)=>Nat.beq x.block y.block && Nat.beq x.off y.off && x.spot.isNone && y.spot.isNone
 |_,_=>false
mutual
noncomputable def jM:AV→AV→Bool
 | .int k n,.int k' n'=>a5X k k' && aaD n n'
 | .bool a,.bool b=>a==b
 | .str a,.str b=>iq a b
 | .ptr a i,.ptr b j=>Nat.beq a b && Nat.beq i j
 | .uN,.uN=>true
 | .sl b o l c,.sl b' o' l' c'=>Nat.beq b b' && Nat.beq o o' && Nat.beq l l' && Nat.beq c c'
 | .gQ b p e l z,.gQ b' p' e' l' z'=>Nat.beq b b' && Nat.beq p p' && Nat.beq e e' && Nat.beq l l' && Nat.beq z z'
 | .aW,.aW=>true
 | .iY r,.iY r'=>Nat.beq r r'
 | .iW,.iW=>true
 | .fn (.func f) a b,.fn (.func g) a' b'=>Nat.beq f g && Bz a a' && Bz b b'
 | .yield l,.yield l'=>Nat.beq l l'
 | .qV,.qV=>true
 | .iface t v,.iface t' v'=>Nat.beq t t' && jM v v'
 | .qU,.qU=>true
 | .opq k i,.opq k' j=>o7 k k' && fZ i j
 | .raw a,.raw b=>a5f a b
 | .agg a,.agg b=>Bz a b
 | .ou a,.ou b=>Bz a b
 | .rE b n c,.rE b' n' c'=>Nat.beq b b' && (fZ n n' && fZ c c')
 | .lu b i z k,.lu b' i' z' k'=>Nat.beq b b' && (fZ i i' && (Nat.beq z z' && Nat.beq k k'))
 |_,_=>false
noncomputable def Bz:List AV→List AV→Bool
 | [],[]=>true
 |a::x,b::y=>jM a b && Bz x y
 |_,_=>false
end
noncomputable def a5I (s:S):Nx→R AV
 | .val v s'=>match Nat.beq s'.next s.next with
   |true=>.ok v
   |false=>.bad "float: makes a block"
 |_=>.bad "float: no value"
noncomputable def evQ (o:Oper) (C:Ctx) (t:Tr AV) (s:S):R AV:=(yJ o.op o.type C t s).bind (a5I s)
inductive AK where
 |ptr|sl (n:Nat)|map
 deriving Inhabited
noncomputable def mkA:AK→Nat→AV
 | .ptr=>fun id=>.ptr id 0
 | .sl n=>fun id=>.sl id 0 n n
 | .map=>fun id=>.iY id
noncomputable def a2W (e:TypeId) (C:Ctx):R (AK×jc):=do
 let i ←ti C e
 let z ←R.xk "no zero" i.zero
 bP (Nat.beq z.length i.size) "alloc: size"
 .ok (.ptr,jL e z)
noncomputable def a0e (e:TypeId) (x:Operand) (C:Ctx) (t:Tr AV):R (AK×jc):=do
 let v ←lV C t x
 let c ←v.cells
 let i ←ti C e
 bP (Nat.beq c.length i.size) "box: size"
 .ok (.ptr,jL e c)
noncomputable def qP (ty:TypeId) (len:Nat) (parts:Array (Nat×Operand)) (C:Ctx) (t:Tr AV):R (AK×jc):=do
 match ←under C ty with
 | .slice e=>do
   let i ←ti C e
   bP (Nat.ble (Nat.mul len i.size) 16777216) "buildSlice: too long"
   let zero ←zC C e (Nat.mul len i.size) i.size
   let ps ←XA C t parts.toList
   let cs ←rO (fun k=>some (Nat.mul k i.size,i.size)) ps (Fp zero len)
   .ok (.sl len,jL e cs)
 |_=>.bad "buildSlice"
noncomputable def aF (o:Op) (C:Ctx) (t:Tr AV):R (AK×jc):=
 match o with
 | .alloc e=>a2W e C
 | .box e x=>a0e e x C t
 | .buildSlice ty n ps=>qP ty n ps C t
 | .makeMap _ r=>match r with
   |none=>.ok (.map,.map [] 0)
   |some _=>.bad "make: size"
 |_=>.bad "no block is made"
end Go.Proofs.YtjioppomopfifaaGreatDoor.Abs
namespace Go.Proofs.YtjioppomopfifaaGreatDoor.Abs
open Go
noncomputable def lEq {α:Type} (e:α→α→Bool):List α→List α→Bool
 | []=>fun y=>match y with| []=>true|_::_=>false
 |a::x=>fun y=>match y with
  | []=>false
  |b::y=>match e a b with
   |true=>lEq e x y
   |false=>false
noncomputable def X7 {α:Type} (e:α→α→Bool) (a b:Array α):Bool:=lEq e a.toList b.toList
noncomputable def oEq {α:Type} (e:α→α→Bool) (a b:Option α):Bool:=
 match a with
 |none=>match b with|none=>true|some _=>false
 |some x=>match b with|none=>false|some y=>e x y
noncomputable def pEq {α β:Type} (e:α→α→Bool) (f:β→β→Bool) (a b:α×β):Bool:=e a.1 b.1 && f a.2 b.2
noncomputable def QX {α:Type} [DecidableEq α] (a b:α):Bool:=decide (a=b)
noncomputable def oZ (a b:Nat):Bool:=Nat.beq a b
mutual
noncomputable def lK:Value→Value→Bool
 | .int k n=>fun b=>match b with| .int k' n'=>QX k k' && QX n n'|_=>false
 | .bool x=>fun b=>match b with| .bool y=>QX x y|_=>false
 | .string s=>fun b=>match b with| .string t=>iq s.data.toList t.data.toList|_=>false
 | .pointer none=>fun b=>match b with| .pointer none=>true|_=>false
 | .slice none n c=>fun b=>match b with| .slice none n' c'=>oZ n n' && oZ c c'|_=>false
 | .map none=>fun b=>match b with| .map none=>true|_=>false
 | .nilFunc=>fun b=>match b with| .nilFunc=>true|_=>false
 | .func f ⟨[]⟩ ⟨[]⟩=>fun b=>match b with| .func g ⟨[]⟩ ⟨[]⟩=>QX f g|_=>false
 | .nilIface=>fun b=>match b with| .nilIface=>true|_=>false
 | .iface t v=>fun b=>match b with| .iface t' v'=>oZ t t' && lK v v'|_=>false
 | .agg ⟨l⟩=>fun b=>match b with| .agg ⟨m⟩=>Jw l m|_=>false
 |_=>fun _=>false
noncomputable def Jw:List Value→List Value→Bool
 | []=>fun y=>match y with| []=>true|_::_=>false
 |v::l=>fun y=>match y with| []=>false|u::m=>lK v u && Jw l m
end
noncomputable def iE (a b:Operand):Bool:=
 match a with
 | .tmp x=>match b with| .tmp y=>oZ x y|_=>false
 | .const x=>match b with| .const y=>lK x y|_=>false
 | .global x=>match b with| .global y=>oZ x y|_=>false
 | .func x=>match b with| .func y=>oZ x y|_=>false
noncomputable def acE (a b:Callee):Bool:=
 match a with
 | .value x=>match b with| .value y=>iE x y|_=>false
 | .invoke x m=>match b with| .invoke y n=>iE x y && QX m n|_=>false
 | .builtin x=>match b with| .builtin y=>QX x y|_=>false
noncomputable def aah (a b:Call):Bool:=acE a.callee b.callee && X7 iE a.args b.args && X7 oZ a.argTypes b.argTypes
noncomputable def VK (a b:Array (Nat×Operand)):Bool:=X7 (pEq oZ iE) a b
noncomputable def a5o (a b:Op):Bool:=
 match a with
 | .move x=>match b with| .move y=>iE x y|_=>false
 | .assign x=>match b with| .assign y=>iE x y|_=>false
 | .pick c x y=>match b with| .pick c' x' y'=>iE c c' && (iE x x' && iE y y')|_=>false
 | .alloc x=>match b with| .alloc y=>oZ x y|_=>false
 | .box t x=>match b with| .box t' x'=>oZ t t' && iE x x'|_=>false
 | .build t x=>match b with| .build t' x'=>oZ t t' && VK x x'|_=>false
 | .buildSlice t n x=>match b with| .buildSlice t' n' x'=>oZ t t' && (oZ n n' && VK x x')|_=>false
 | .insert t x y z=>match b with| .insert t' x' y' z'=>oZ t t' && (iE x x' && (iE y y' && iE z z'))|_=>false
 | .load t x=>match b with| .load t' x'=>oZ t t' && iE x x'|_=>false
 | .store t x y=>match b with| .store t' x' y'=>oZ t t' && (iE x x' && iE y y')|_=>false
 | .nilCheck x=>match b with| .nilCheck y=>iE x y|_=>false
 | .binOp o t x y u=>match b with| .binOp o' t' x' y' u'=>QX o o' && (oZ t t' && (iE x x' && (iE y y' && oZ u u')))|_=>false
 | .unOp o t x=>match b with| .unOp o' t' x'=>QX o o' && (oZ t t' && iE x x')|_=>false
 | .convert s t x=>match b with| .convert s' t' x'=>oZ s s' && (oZ t t' && iE x x')|_=>false
 | .makeInterface t x=>match b with| .makeInterface t' x'=>oZ t t' && iE x x'|_=>false
 | .makeFunc f x y=>match b with| .makeFunc f' x' y'=>QX f f' && (X7 iE x x' && X7 iE y y')|_=>false
 | .makeMap t x=>match b with| .makeMap t' x'=>oZ t t' && oEq iE x x'|_=>false
 | .makeSlice t x y=>match b with| .makeSlice t' x' y'=>oZ t t' && (iE x x' && iE y y')|_=>false
 | .slice t x l h m=>match b with| .slice t' x' l' h' m'=>oZ t t' && (iE x x' && (oEq iE l l' && (oEq iE h h' && oEq iE m m')))|_=>false
 | .fieldAddr t x n=>match b with| .fieldAddr t' x' n'=>oZ t t' && (iE x x' && oZ n n')|_=>false
 | .field t x n=>match b with| .field t' x' n'=>oZ t t' && (iE x x' && oZ n n')|_=>false
 | .indexAddr t x y=>match b with| .indexAddr t' x' y'=>oZ t t' && (iE x x' && iE y y')|_=>false
 | .index t x y=>match b with| .index t' x' y'=>oZ t t' && (iE x x' && iE y y')|_=>false
 | .lookup t x y c=>match b with| .lookup t' x' y' c'=>oZ t t' && (iE x x' && (iE y y' && QX c c'))|_=>false
 | .mapUpdate t x y z=>match b with| .mapUpdate t' x' y' z'=>oZ t t' && (iE x x' && (iE y y' && iE z z'))|_=>false
 | .mapEntry t x y=>match b with| .mapEntry t' x' y'=>oZ t t' && (iE x x' && iE y y')|_=>false
 | .entryStore t x y z=>match b with| .entryStore t' x' y' z'=>oZ t t' && (iE x x' && (iE y y' && iE z z'))|_=>false
 | .range t x=>match b with| .range t' x'=>oZ t t' && iE x x'|_=>false
 | .next x c=>match b with| .next x' c'=>iE x x' && QX c c'|_=>false
 | .entry x=>match b with| .entry x'=>iE x x'|_=>false
 | .typeAssert x s t c=>match b with| .typeAssert x' s' t' c'=>iE x x' && (oZ s s' && (oZ t t' && QX c c'))|_=>false
 | .extract x n=>match b with| .extract x' n'=>iE x x' && oZ n n'|_=>false
 | .call c=>match b with| .call c'=>aah c c'|_=>false
 | .defer c=>match b with| .defer c'=>aah c c'|_=>false
 | .panic x=>match b with| .panic x'=>iE x x'|_=>false
 |_=>false
noncomputable def acu (a b:Edge):Bool:=oZ a.on b.on && QX a.ground b.ground
noncomputable def a0N (a b:Oper):Bool:=oEq oZ a.dst b.dst && (a5o a.op b.op && (oZ a.type b.type && (QX a.pos b.pos && (X7 acu a.after b.after && oEq (pEq oZ QX) a.guard b.guard))))
noncomputable def fJ:Code→Code→Bool
 | .skip=>fun b=>match b with| .skip=>true|_=>false
 | .region i ops d=>fun b=>match b with| .region i' ops' d'=>oZ i i' && (QX d d' && X7 a0N ops ops')|_=>false
 | .seq x y=>fun b=>match b with| .seq x' y'=>fJ x x' && fJ y y'|_=>false
 | .cond c x y=>fun b=>match b with| .cond c' x' y'=>iE c c' && (fJ x x' && fJ y y')|_=>false
 | .block i x=>fun b=>match b with| .block i' x'=>oZ i i' && fJ x x'|_=>false
 | .loop x=>fun b=>match b with| .loop x'=>fJ x x'|_=>false
 | .rangeFunc f p x y=>fun b=>match b with| .rangeFunc f' p' x' y'=>iE f f' && (X7 oZ p p' && (fJ x x' && fJ y y'))|_=>false
 | .exit i=>fun b=>match b with| .exit i'=>oZ i i'|_=>false
 | .scope x=>fun b=>match b with| .scope x'=>fJ x x'|_=>false
 | .label i=>fun b=>match b with| .label i'=>oZ i i'|_=>false
 | .goto i=>fun b=>match b with| .goto i'=>oZ i i'|_=>false
 | .ret=>fun b=>match b with| .ret=>true|_=>false
 | .refuse _=>fun _=>false
noncomputable def SE.sub (σ:Nat→SE):SE→SE
 | .var i=>σ i
 | .int k n=>.int k n
 | .bool b=>.bool b
 | .str s=>.str s
 | .a1 o x=>.a1 o (SE.sub σ x)
 | .a2 o x y=>.a2 o (SE.sub σ x) (SE.sub σ y)
 | .a3 o x y z=>.a3 o (SE.sub σ x) (SE.sub σ y) (SE.sub σ z)
noncomputable def SE.lN (σ:Nat→SE):List SE→List SE
 | []=>[]
 |e::l=>SE.sub σ e::SE.lN σ l
mutual
noncomputable def AV.sub (ρ:Nat→Nat) (σ:Nat→SE):AV→AV
 | .int k n=>.int k n
 | .bool b=>.bool b
 | .str s=>.str s
 | .ptr b off=>.ptr (ρ b) off
 | .uN=>.uN
 | .sl b o l c=>.sl (ρ b) o l c
 | .gQ b p e l z=>.gQ (ρ b) p e l z
 | .aW=>.aW
 | .iY r=>.iY (ρ r)
 | .iW=>.iW
 | .fn f a b=>.fn f (AV.lN ρ σ a) (AV.lN ρ σ b)
 | .yield l=>.yield (ρ l)
 | .qV=>.qV
 | .iface t v=>.iface t (AV.sub ρ σ v)
 | .qU=>.qU
 | .agg cs=>.agg (AV.lN ρ σ cs)
 | .ou vs=>.ou (AV.lN ρ σ vs)
 | .junk=>.junk
 | .raw v=>.raw v
 | .opq k e=>a2q k (SE.sub σ e)
 | .rE b n c=>.rE (ρ b) (SE.sub σ n) (SE.sub σ c)
 | .lu b i sz k=>.lu (ρ b) (SE.sub σ i) sz k
noncomputable def AV.lN (ρ:Nat→Nat) (σ:Nat→SE):List AV→List AV
 | []=>[]
 |v::l=>AV.sub ρ σ v::AV.lN ρ σ l
end
mutual
noncomputable def AV.ids (ok:Nat→Bool):AV→Bool
 | .ptr b _=>ok b
 | .sl b _ _ _=>ok b
 | .gQ b _ _ _ _=>ok b
 | .iY r=>ok r
 | .fn _ a b=>AV.mD ok a && AV.mD ok b
 | .yield l=>ok l
 | .iface _ v=>AV.ids ok v
 | .agg cs=>AV.mD ok cs
 | .ou vs=>AV.mD ok vs
 | .rE b _ _=>ok b
 | .lu b _ _ _=>ok b
 |_=>true
noncomputable def AV.mD (ok:Nat→Bool):List AV→Bool
 | []=>true
 |v::l=>AV.ids ok v && AV.mD ok l
end
noncomputable def AD.sub (ρ:Nat→Nat) (σ:Nat→SE) (d:AD):AD:=⟨d.target.sub ρ σ,AV.lN ρ σ d.args⟩
noncomputable def AD.subs (ρ:Nat→Nat) (σ:Nat→SE):List AD→List AD
 | []=>[]
 |d::l=>d.sub ρ σ::AD.subs ρ σ l
noncomputable def AD.mD (ok:Nat→Bool):List AD→Bool
 | []=>true
 |d::l=>AV.ids ok d.target && AV.mD ok d.args && AD.mD ok l
noncomputable def KG (ρ:Nat→Nat) (σ:Nat→SE):List (Nat×AV)→List (Nat×AV)
 | []=>[]
 |x::l=>(x.1,x.2.sub ρ σ)::KG ρ σ l
noncomputable def Om (ok:Nat→Bool):List (Nat×AV)→Bool
 | []=>true
 |x::l=>AV.ids ok x.2 && Om ok l
noncomputable def UA:Nat→List AV
 | 0=>[]
 |n+1=>.junk::UA n
noncomputable def Yq:List (Nat×AV)→Tr AV→Tr AV
 | []=>fun t=>t
 |x::l=>fun t=>Yq l (t.set x.1 x.2)
noncomputable def Va (nt:Nat) (l:List (Nat×AV)):Tr AV:=Yq l (Tr.ofList (UA nt))
noncomputable def ME.subs (ρ:Nat→Nat) (σ:Nat→SE):List ME→List ME
 | []=>[]
 |e::l=>⟨e.k,e.v.sub ρ σ,e.born⟩::ME.subs ρ σ l
noncomputable def ME.mD (ok:Nat→Bool):List ME→Bool
 | []=>true
 |e::l=>AV.ids ok e.v && ME.mD ok l
noncomputable def CB.sub (ρ:Nat→Nat) (σ:Nat→SE):CB→CB
 | .cells e cs fz st sg=>.cells e (AV.lN ρ σ cs) fz st sg
 | .jT ds=>.jT (AD.subs ρ σ ds)
 | .loop st pe fn nt tm ps a b d=>.loop st pe fn nt (KG ρ σ tm) ps a b (ρ d)
 | .vec e x=>.vec e (SE.sub σ x)
 | .tab e k zs=>.tab e k zs
 | .map es c=>.map (ME.subs ρ σ es) c
noncomputable def CB.ids (ok:Nat→Bool):CB→Bool
 | .cells _ cs _ _ _=>AV.mD ok cs
 | .jT ds=>AD.mD ok ds
 | .loop _ _ _ _ tm _ _ _ d=>Om ok tm && ok d
 | .vec _ _=>true
 | .tab _ _ _=>true
 | .map es _=>ME.mD ok es
noncomputable def CB.blk:CB→jc
 | .cells e cs fz st sg=>.cells e (Tr.ofList cs) cs.length fz [] st sg
 | .jT ds=>.jT (some ds)
 | .loop st pe fn nt tm ps a b d=>.loop st pe fn nt (Va nt tm) ps a b d
 | .vec e x=>.vec e x
 | .tab e k zs=>.tab e k zs
 | .map es c=>.map es c
noncomputable def CB.live:CB→Bool
 | .cells _ _ _ st _=> !st
 | .tab _ _ _=>false
 |_=>true
noncomputable def Fact.sub (σ:Nat→SE):Fact→Fact
 | .tr e=>.tr (e.sub σ)
 | .fl e=>.fl (e.sub σ)
 | .inr i n=>.inr (i.sub σ) (n.sub σ)
 | .rel nm b p l=>.rel nm b p (SE.lN σ l)
noncomputable def Fact.subs (σ:Nat→SE):List Fact→List Fact
 | []=>[]
 |f::l=>f.sub σ::Fact.subs σ l
def idN (i:Nat):Nat:=i
end Go.Proofs.YtjioppomopfifaaGreatDoor.Abs
namespace Go.Proofs.YtjioppomopfifaaGreatDoor.Abs
open Go
structure PE where
 v:AV
 recovered:Bool
 deriving Inhabited
inductive rC where
 |run|ret
 |jB (chain:List PE)
 deriving Inhabited
structure FI where
 fn:FuncId
 nt:Nat
 kind:CallKind
 roundOf:Option Nat
 tl:List Deferred
 deriving Inhabited
inductive Res where
 |ret (v:AV)
 |jB (chain:List PE)
 deriving Inhabited
structure Out where
 res:Res
 ctx:Option (List PE)
 s:S
 deriving Inhabited
abbrev Rec:=FI→Tr AV→List dL→List lZ→rC→Option (List PE)→S→R Out
noncomputable def Qk (id:Nat):List dL→Option (List dL)
 | []=>none
 |x::k=>match x with
  | .inBlock id'=>match Nat.beq id' id with|true=>some k|false=>Qk id k
  |_=>Qk id k
noncomputable def Qe (l:Nat):List dL→Option (List dL)
 | []=>none
 |x::k=>match x with
  | .inScope body=>match findLabel body l with
    |some rest=>some (.code rest::.inScope body::k)
    |none=>Qe l k
  |_=>Qe l k
noncomputable def wG (ops:Array Oper) (j:Nat):Option Tmp:=
 match ops[j]? with
 |some o=>o.dst
 |none=>none
noncomputable def a6l (want:Bool) (v:AV):R Bool:=
 match v with
 | .bool b=>.ok (match b,want with|true,true=>true|false,false=>true|_,_=>false)
 | .junk=>.bad "junk guard"
 | .raw _=>.bad "raw guard"
 | .opq _ _=>.bad "guard: unknown"
 |_=>.ok false
noncomputable def gU (ops:Array Oper) (g:Option (Nat×Bool)) (t:Tr AV):R Bool:=
 @Option.rec (Nat×Bool) (fun _=>R Bool) (.ok true)
  (fun p=>@Option.rec Tmp (fun _=>R Bool) (.ok false) (fun d=>@Option.rec AV (fun _=>R Bool) (.ok false) (a6l p.2) (t.get d)) (wG ops p.1)) g
noncomputable def CO (ops:Array Oper) (g:Option (Nat×Bool)) (t:Tr AV):Option (SE×Bool):=
 match g with
 |none=>none
 |some p=>match wG ops p.1 with
  |none=>none
  |some d=>match t.get d with
   |some v=>match v with
    | .opq k e=>match k with
      | .bool=>some (e,p.2)
      |_=>none
    |_=>none
   |none=>none
noncomputable def aat (a b:Bool):Bool:=
 match a with
 |true=>b
 |false=> !b
noncomputable def kP (ops:Array Oper) (g:Option (Nat×Bool)) (t:Tr AV) (s:S):R (Bool×S):=
 match CO ops g t with
 |some p=>(Qj s p.1).bind fun r=>.ok (aat r.1 p.2,r.2)
 |none=>(gU ops g t).bind fun b=>.ok (b,s)
noncomputable def put (nt:Nat) (t:Tr AV) (d:Option Tmp) (v:AV):Tr AV:=
 @Option.rec Tmp (fun _=>Tr AV) t (fun d=>@Bool.rec (fun _=>Tr AV) t (t.set d v) (Nat.blt d nt)) d
noncomputable def abj (ch:List PE):rC→List PE
 | .jB c=>ch++c
 |_=>ch
noncomputable def getLoop (s:S) (l:Nat):R (LoopState×Option Code×FuncId×Nat×Tr AV×List Tmp×Code×Code×Nat):=
 match s.h.get l with
 |some (.loop a b c n d e f g h)=>.ok (a,b,c,n,d,e,f,g,h)
 |_=>.bad "no loop"
noncomputable def setArgs (nt:Nat):List Tmp→List AV→Tr AV→R (Tr AV)
 | []=>fun a t=>match a with| []=>.ok t|_=>.bad "yield args"
 |p::ps=>fun a t=>match a with| []=>.bad "yield args" |x::xs=>setArgs nt ps xs (put nt t (some p) x)
noncomputable def a1c (C:Ctx) (s:S) (g:Nat) (args:List AV):R Out:=
 match args with
 | [x,y]=>do
   let a ←bytesOf x
   let b ←bytesOf y
   match s.h.get g with
   |some (.cells _ cs n _ _ _ _)=>match cs.get 0 with
    |some v=>match v with
     | .opq k _=>do
       bP (o7 k (.int .i64) && Nat.blt g C.nG && Nat.ble 1 n && Nat.blt a.length 4294967281) "index: too long"
       .ok ⟨.ret (.int .i64 (Wu b a 0)),none,s⟩
     |_=>.bad "index: no int"
    |none=>.bad "index: no cell"
   |_=>.bad "index: no variable"
 |_=>.bad "index: arguments"
noncomputable def XV (C:Ctx) (s:S) (g t:Nat) (args:List AV):R Out:=
 match args with
 | []=>
   match s.h.get g with
   |some (.cells e cs n _ _ _ _)=>match cs.get 0 with
    |some v=>match v with
     | .opq k _=>do
       bP (o7 k (.int .i64) && Nat.blt g C.nG && Nat.ble 1 n && Nat.beq e t) "closed: the variable"
       .ok ⟨.ret (.bool true),none,s⟩
     |_=>.bad "closed: no int"
    |none=>.bad "closed: no cell"
   |_=>.bad "closed: no variable"
 |_::_=>.bad "closed: arguments"
noncomputable def Zk (x:AsE) (v:Value):Bool:=
 match v with
 | .pointer (some a)=>Nat.beq a.block x.hb && Nat.beq a.off x.he && a.spot.isNone
 |_=>false
noncomputable def ZE (C:Ctx) (s:S) (x:AsE):Bool:=
 match s.h.get x.g with
 |some (.cells _ cs n _ _ _ _)=>match cs.get 0 with
  |some (.iface r (.agg [.raw v]))=>Nat.blt x.g C.nG && Nat.ble 1 n && Nat.beq r x.tR && Zk x v
  |_=>false
 |_=>false
noncomputable def placeFor (s:S) (k off n:Nat):Bool:=
 match s.h.get k with
 |some (.cells _ _ m fz _ st _)=> !st && Nat.ble (Nat.add off n) m && Nat.ble fz off
 |_=>false
noncomputable def asA (C:Ctx) (s:S) (x:AsE) (args:List AV):R Out:=
 match args with
 | [.iface ta (.agg cs),.iface tb (.ptr k off)]=>do
   bP (Nat.beq ta x.tF && Nat.beq tb x.tP && Nat.beq cs.length x.n && ZE C s x && placeFor s k off cs.length && oh cs) "as: what"
   let s' ←jy s k off cs
   .ok ⟨.ret (.bool true),none,s'⟩
 |_=>.bad "as: arguments"
noncomputable def uQ:AV→Bool
 | .junk=>true
 |_=>false
noncomputable def rW (cs:Tr AV):List AV→Nat→Bool
 | []=>fun _=>true
 |v::l=>fun i=>match uQ v with
  |true=>rW cs l (Nat.add i 1)
  |false=>match cs.get i with
   |some u=>match jM u v with
    |true=>rW cs l (Nat.add i 1)
    |false=>false
   |none=>false
noncomputable def Y6:List ME→List ME→Bool
 | []=>fun y=>match y with
   | []=>true
   |_::_=>false
 |a::x=>fun y=>match y with
  | []=>false
  |b::y=>jM a.k b.k && jM a.v b.v && Nat.beq a.born b.born && Y6 x y
noncomputable def vF (b:jc) (m:MB):Bool:=
 match b with
 | .cells e cs n fz _ st sg=>match m with
   | .cells e' l fz' st' sg'=>Nat.beq e e' && Nat.beq n l.length && Nat.beq fz fz' && (st==st') && (sg==sg') && rW cs l 0
   | .map _ _=>false
 | .map es c=>match m with
   | .map es' c'=>Nat.beq c c' && Y6 es es'
   | .cells _ _ _ _ _=>false
 |_=>false
noncomputable def JR (ids:List Nat):List Nat→Bool
 | []=>true
 |a::l=>match Ah a ids with
  |true=>false
  |false=>JR ids l
noncomputable def DF:jc→List Nat
 | .cells _ _ _ _ jX _ _=>jX
 |_=>[]
noncomputable def qj:MB→Bool
 | .cells _ _ _ st _=> !st
 | .map _ _=>true
noncomputable def OZ (h:Tr jc) (ids:List Nat):List (Nat×MB)→Bool
 | []=>true
 |x::l=>match h.get x.1 with
  |some b=>match vF b x.2 && JR ids (DF b) with
   |true=>OZ h ids l
   |false=>false
  |none=>false
noncomputable def Vx (h:Tr jc):List (Nat×MB)→Bool
 | []=>true
 |x::l=>match h.get x.1 with
  |some b=>match vF b x.2 && qj x.2 with
   |true=>Vx h l
   |false=>false
  |none=>false
noncomputable def x9 (h0:Tr jc) (i:Nat):List Nat:=
 match h0.get i with
 |some b=>DF b
 |none=>[]
noncomputable def Jd (h0:Tr jc):List (Nat×MB)→Tr jc→Tr jc
 | []=>fun h=>h
 |x::l=>fun h=>match qj x.2 with
  |true=>Jd h0 l ((qN (x9 h0 x.1) h).del x.1)
  |false=>Jd h0 l h
noncomputable def Y7 (s:S) (m:iL):S:=⟨GI m.post (Jd s.h m.pre s.h),m.last,s.pc⟩
noncomputable def P9:List (Nat×MB)→List Nat
 | []=>[]
 |x::l=>x.1::P9 l
noncomputable def a5N (s:S) (m:iL) (args:List AV):R Out:=
 match Bz args m.args && OZ s.h (P9 m.pre) m.pre with
 |true=>.ok ⟨.ret m.res,none,Y7 s m⟩
 |false=>.bad "memo"
noncomputable def JW (f next:Nat):List (FuncId×iL)→Option iL
 | []=>none
 |x::l=>match Nat.beq x.1 f && Nat.beq x.2.next next with
  |true=>some x.2
  |false=>JW f next l
noncomputable def gY (m:iL) (o:Out):Bool:=
 match o.res with
 | .ret v=>jM v m.res && Nat.ble o.s.next m.last && Vx o.s.h m.post
 | .jB _=>false
noncomputable def sS {α:Type} (i:Nat):List (Nat×α)→Option α
 | []=>none
 |x::l=>match Nat.beq x.1 i with
  |true=>some x.2
  |false=>sS i l
noncomputable def a7T {α:Type}:List (Nat×α)→Tr α
 | []=>.nil
 |x::l=>(a7T l).set x.1 x.2
noncomputable def gJ (nG n next:Nat) (l:List (Nat×Nat)) (i:Nat):Nat:=
 match Nat.blt i n with
 |false=>next
 |true=>match (a7T l).get i with
  |some j=>j
  |none=>match Nat.blt i nG with
   |true=>i
   |false=>next
noncomputable def UY:SE:=.a1 .isNil (.bool true)
noncomputable def ji (nG n:Nat) (l:List (Nat×SE)) (i:Nat):SE:=
 match Nat.blt i n with
 |false=>UY
 |true=>match sS i l with
  |some e=>e
  |none=>match Nat.blt i nG with
   |true=>.var i
   |false=>UY
noncomputable def GL (n next:Nat) (ρ:Nat→Nat) (i:Nat):Nat:=
 match Nat.blt i n with
 |true=>ρ i
 |false=>Nat.add next (Nat.sub i n)
noncomputable def OA (n next m:Nat) (σ:Nat→SE) (i:Nat):SE:=
 match Nat.blt i n with
 |true=>σ i
 |false=>match Nat.blt i (Nat.add n m) with
  |true=>.var (Nat.add next (Nat.sub i n))
  |false=>UY
noncomputable def Ie {α:Type}:Option α→Bool
 |some _=>true
 |none=>false
noncomputable def Pv (nG n m:Nat) (l:List (Nat×Nat)) (i:Nat):Bool:=
 match Nat.blt i n with
 |true=>Ie (sS i l) || Nat.blt i nG
 |false=>Nat.blt i (Nat.add n m)
abbrev RS:=Tr Nat×List (Nat×Nat)×List (Nat×SE)
noncomputable def a0g (i j:Nat) (m:RS):RS:=
 match m with
 | (a,b,c)=>match a.get i with
   |some _=>(a,b,c)
   |none=>(a.set i j,(i,j)::b,c)
noncomputable def adR (i:Nat) (e:SE) (m:RS):RS:=
 match m with
 | (a,b,c)=>match sS i c with
   |some _=>(a,b,c)
   |none=>(a,b,(i,e)::c)
noncomputable def frc (f:RS→RS) (m:RS):RS:=@Prod.rec _ _ (fun _=>RS) (fun a b=>f (a,b)) m
noncomputable def acX:AV→Option SE
 | .opq _ e=>some e
 | .int k n=>some (.int k n)
 | .bool b=>some (.bool b)
 | .str s=>some (.str s)
 |_=>none
noncomputable def bOf:AV→Option Nat
 | .ptr b _=>some b
 | .sl b _ _ _=>some b
 | .gQ b _ _ _ _=>some b
 | .iY r=>some r
 | .yield l=>some l
 | .rE b _ _=>some b
 | .lu b _ _ _=>some b
 |_=>none
noncomputable def aao (p a:SE) (m:RS):RS:=
 match p with
 | .var i=>adR i a m
 |_=>m
mutual
noncomputable def a03:AV→AV→RS→RS
 | .ptr b _=>fun a m=>match bOf a with|some j=>a0g b j m|none=>m
 | .sl b _ _ _=>fun a m=>match bOf a with|some j=>a0g b j m|none=>m
 | .gQ b _ _ _ _=>fun a m=>match bOf a with|some j=>a0g b j m|none=>m
 | .iY b=>fun a m=>match bOf a with|some j=>a0g b j m|none=>m
 | .yield b=>fun a m=>match bOf a with|some j=>a0g b j m|none=>m
 | .fn _ x y=>fun a m=>match a with| .fn _ x' y'=>a5O y y' (a5O x x' m)|_=>m
 | .iface _ v=>fun a m=>match a with| .iface _ u=>a03 v u m|_=>m
 | .agg l=>fun a m=>match a with| .agg l'=>a5O l l' m|_=>m
 | .ou l=>fun a m=>match a with| .ou l'=>a5O l l' m|_=>m
 | .opq _ e=>fun a m=>match e with
   | .var i=>match acX a with|some x=>adR i x m|none=>m
   |_=>m
 | .rE b n c=>fun a m=>match a with
   | .rE b' n' c'=>aao c c' (aao n n' (a0g b b' m))
   |_=>m
 | .lu b i _ _=>fun a m=>match a with
   | .lu b' i' _ _=>aao i i' (a0g b b' m)
   |_=>m
 |_=>fun _ m=>m
noncomputable def a5O:List AV→List AV→RS→RS
 | []=>fun _ m=>m
 |v::l=>fun a m=>match a with
  | []=>m
  |u::l'=>frc (a5O l l') (a03 v u m)
end
noncomputable def a3L:List (Nat×AV)→Tr AV→RS→RS
 | []=>fun _ m=>m
 |x::l=>fun t m=>match t.get x.1 with
  |some u=>frc (a3L l t) (a03 x.2 u m)
  |none=>a3L l t m
noncomputable def aby:List AV→Nat→Tr AV→RS→RS
 | []=>fun _ _ m=>m
 |v::l=>fun i t m=>match t.get i with
  |some u=>frc (aby l (Nat.add i 1) t) (a03 v u m)
  |none=>aby l (Nat.add i 1) t m
noncomputable def ac8:List ME→List ME→RS→RS
 | []=>fun _ m=>m
 |e::l=>fun es m=>match es with
  | []=>m
  |e'::es=>ac8 l es (a03 e.v e'.v m)
noncomputable def ac9 (cb:CB) (b:jc) (m:RS):RS:=
 match cb with
 | .cells _ cs _ _ _=>match b with
   | .cells _ t _ _ _ _ _=>aby cs 0 t m
   |_=>m
 | .jT _=>m
 | .loop _ _ _ _ tm _ _ _ d=>match b with
   | .loop _ _ _ _ t _ _ _ d'=>a0g d d' (a3L tm t m)
   |_=>m
 | .vec _ p=>match b with
   | .vec _ a=>aao p a m
   |_=>m
 | .tab _ _ _=>m
 | .map es _=>match b with
   | .map es' _=>ac8 es es' m
   |_=>m
noncomputable def Ut (h:Tr jc):List (Nat×CB)→RS→RS
 | []=>fun m=>m
 |x::l=>fun m=>match m.1.get x.1 with
  |some j=>(match h.get j with
   |some b=>frc (Ut h l) (ac9 x.2 b m)
   |none=>Ut h l m)
  |none=>Ut h l m
noncomputable def a0f:List AD→List AD→Bool
 | []=>fun y=>match y with| []=>true|_::_=>false
 |a::x=>fun y=>match y with
  | []=>false
  |b::y=>jM a.target b.target && (Bz a.args b.args && a0f x y)
noncomputable def zG (t:Tr AV):List (Nat×AV)→Bool
 | []=>true
 |x::l=>match uQ x.2 with
  |true=>Ie (t.get x.1) && zG t l
  |false=>match t.get x.1 with
   |some u=>jM u x.2 && zG t l
   |none=>false
noncomputable def yM (b:jc) (cb:CB):Bool:=
 match cb with
 | .cells e' l fz' st' sg'=>match b with
   | .cells e cs n fz _ st sg=>Nat.beq e e' && (Nat.ble l.length n && (Nat.beq fz fz' && (QX st st' && (QX sg sg' && rW cs l 0))))
   |_=>false
 | .jT l=>match b with
   | .jT (some l')=>a0f l' l
   |_=>false
 | .loop st pe fn nt tm ps a c d=>match b with
   | .loop st' pe' fn' nt' tm' ps' a' c' d'=>QX st' st && (oEq fJ pe' pe && (oZ fn' fn && (oZ nt' nt && (zG tm' tm && (lEq oZ ps' ps && (fJ a' a && (fJ c' c && oZ d' d)))))))
   |_=>false
 | .vec el e=>match b with
   | .vec Yc e'=>Nat.beq Yc el && fZ e' e
   |_=>false
 | .tab el k zs=>match b with
   | .tab Yc k' zs'=>Nat.beq Yc el && (Af k' k && lEq QX zs' zs)
   |_=>false
 | .map es c=>match b with
   | .map es' c'=>Nat.beq c' c && Y6 es' es
   |_=>false
noncomputable def Wi (x y:dL):Bool:=
 match x with
 | .code a=>match y with| .code b=>fJ a b|_=>false
 | .inBlock i=>match y with| .inBlock j=>oZ i j|_=>false
 | .inLoop a=>match y with| .inLoop b=>fJ a b|_=>false
 | .inScope a=>match y with| .inScope b=>fJ a b|_=>false
 | .inRange i=>match y with| .inRange j=>oZ i j|_=>false
 | .endRange i=>match y with| .endRange j=>oZ i j|_=>false
 | .beginRound=>match y with| .beginRound=>true|_=>false
noncomputable def dL.sub (ρ:Nat→Nat):dL→dL
 | .inRange l=>.inRange (ρ l)
 | .endRange l=>.endRange (ρ l)
 | .code c=>.code c
 | .inBlock i=>.inBlock i
 | .inLoop c=>.inLoop c
 | .inScope c=>.inScope c
 | .beginRound=>.beginRound
noncomputable def dL.subs (ρ:Nat→Nat):List dL→List dL
 | []=>[]
 |x::l=>x.sub ρ::dL.subs ρ l
noncomputable def a8m (ρ:Nat→Nat) (a b:Option Nat):Bool:=
 match a with
 |none=>match b with|none=>true|some _=>false
 |some i=>match b with|none=>false|some j=>oZ (ρ i) j
noncomputable def a8J:CallKind→Bool
 | .normal=>true
 |_=>false
noncomputable def vP (h:Tr jc) (ρ:Nat→Nat) (σ:Nat→SE) (ids:List Nat):List (Nat×CB)→Bool
 | []=>true
 |x::l=>match h.get (ρ x.1) with
  |some b=>yM b (x.2.sub ρ σ) && (JR ids (DF b) && vP h ρ σ ids l)
  |none=>false
noncomputable def qg (ρ:Nat→Nat):List (Nat×CB)→List Nat
 | []=>[]
 |x::l=>ρ x.1::qg ρ l
noncomputable def zW:List Nat→Tr Unit→Bool
 | []=>fun _=>true
 |a::l=>fun t=>match t.get a with
  |some _=>false
  |none=>zW l (t.set a ())
noncomputable def V4 (l:List Nat):Bool:=zW l .nil
noncomputable def TV (nG:Nat) (h:Tr jc) (n:Nat):List (Nat×Nat)→Bool
 | []=>true
 |x::l=>Ie (h.get x.2) && (Nat.blt x.1 n && ((Nat.ble nG x.1 || Nat.beq x.1 x.2) && TV nG h n l))
noncomputable def NV (ok:Nat→Bool):List (Nat×CB)→Bool
 | []=>true
 |x::l=>ok x.1 && (CB.ids ok x.2 && (CB.live x.2 && NV ok l))
noncomputable def YO (nG n:Nat) (rl:List (Nat×Nat)) (o:uF):Bool:=
 AV.ids (Pv nG n o.m rl) o.res && NV (Pv nG n o.m rl) o.post
noncomputable def VN (nG n:Nat) (rl:List (Nat×Nat)):List uF→Bool
 | []=>true
 |o::l=>YO nG n rl o && VN nG n rl l
noncomputable def a7x (C:Ctx) (c:nK) (fi:FI) (t:Tr AV) (todo:List dL) (s:S) (rl:List (Nat×Nat)) (ρ:Nat→Nat) (σ:Nat→SE):Bool:=
 (oZ fi.nt c.nt && (a8J fi.kind && a8m ρ c.round fi.roundOf)) && (zG t (KG ρ σ c.t) && (lEq Wi todo (dL.subs ρ c.todo) &&
   (vP s.h ρ σ (qg ρ c.pre) c.pre && (V4 (qg ρ c.pre) && (TV C.nG s.h c.n rl && (VN C.nG c.n rl c.outs && Nat.ble C.nG c.n))))))
def uw (l:List Dt):Prop:=l=[.val (.bool true)]
def pFl (l:List Dt):Prop:=l=[.val (.bool false)]
def pIn (l:List Dt):Prop:=∃k a m,l=[.val (.int k a),.val (.int .i64 m)]∧0≤a∧a < m
noncomputable def EH (e:SE):List Fact→Bool
 | []=>false
 |f::l=>match f with
  | .tr x=>(match fZ x e with|true=>true|false=>EH e l)
  |_=>EH e l
noncomputable def EI (e:SE):List Fact→Bool
 | []=>false
 |f::l=>match f with
  | .fl x=>(match fZ x e with|true=>true|false=>EI e l)
  |_=>EI e l
noncomputable def yH (i n:SE):List Fact→Bool
 | []=>false
 |f::l=>match f with
  | .inr j m=>(match fZ j i && fZ m n with|true=>true|false=>yH i n l)
  |_=>yH i n l
noncomputable def gI (pc:List Fact) (σ:Nat→SE):List Fact→R Unit
 | []=>.ok ()
 |f::l=>match f with
  | .rel nm b p args=>match b with
    |false=>.must (.rel nm true p (SE.lN σ args)::pc) (gI pc σ l)
    |true=>.bad "contract: a fact"
  | .tr e=>(match EH (SE.sub σ e) pc with
    |true=>gI pc σ l
    |false=>.must (.rel "tr" true uw [SE.sub σ e]::pc) (gI pc σ l))
  | .fl e=>(match EI (SE.sub σ e) pc with
    |true=>gI pc σ l
    |false=>.must (.rel "fl" true pFl [SE.sub σ e]::pc) (gI pc σ l))
  | .inr i n=>(match yH (SE.sub σ i) (SE.sub σ n) pc with
    |true=>gI pc σ l
    |false=>.must (.rel "in" true pIn [SE.sub σ i,SE.sub σ n]::pc) (gI pc σ l))
noncomputable def a2g (ρ:Nat→Nat) (σ:Nat→SE):List (Nat×CB)→Tr jc→Tr jc
 | []=>fun h=>h
 |x::l=>fun h=>a2g ρ σ l (h.set (ρ x.1) (x.2.sub ρ σ).blk)
noncomputable def Je (h0:Tr jc) (ρ:Nat→Nat):List (Nat×CB)→Tr jc→Tr jc
 | []=>fun h=>h
 |x::l=>fun h=>match CB.live x.2 with
  |true=>Je h0 ρ l ((qN (x9 h0 (ρ x.1)) h).del (ρ x.1))
  |false=>Je h0 ρ l h
noncomputable def acB (s:S) (c:nK) (o:uF) (ρ:Nat→Nat) (ρ':Nat→Nat) (σ':Nat→SE):S:=
 ⟨a2g ρ' σ' o.post (Je s.h ρ c.pre s.h),Nat.add s.next o.m,Fact.subs σ' o.facts++s.pc⟩
noncomputable def a8w (s:S):List lZ→R S
 | []=>.ok s
 |d::l=>match d with
  | .collected r=>match s.h.get r with
    |some (.jT (some []))=>a8w ⟨s.h.set r (.jT none),s.next,s.pc⟩ l
    |_=>.bad "contract: a deferred call"
  |_=>.bad "contract: a deferred call"
noncomputable def a2n (C:Ctx) (fi:FI) (ds:List lZ):Bool:=
 match ds with
 | []=>true
 |_::_=>match fi.roundOf with
  |some _=>false
  |none=>match C.F.get fi.fn with
   |some fn=>Nat.beq fn.results.size 0
   |none=>false
noncomputable def a7y (C:Ctx) (c:nK) (fi:FI) (ds:List lZ) (s:S) (ρ:Nat→Nat) (σ:Nat→SE) (i:Nat):R Out:=
 match nth c.outs i with
 |none=>.bad "contract: no end"
 |some o=>match o.jB with
  |true=>(match ds with
   | []=>.ok ⟨.jB [⟨o.res.sub (GL c.n s.next ρ) (OA c.n s.next o.m σ),false⟩],none,acB s c o ρ (GL c.n s.next ρ) (OA c.n s.next o.m σ)⟩
   |_::_=>.bad "contract: a panic below deferred calls")
  |false=>match a2n C fi ds with
   |true=>(a8w (acB s c o ρ (GL c.n s.next ρ) (OA c.n s.next o.m σ)) ds).bind fun s'=>.ok ⟨.ret (o.res.sub (GL c.n s.next ρ) (OA c.n s.next o.m σ)),none,s'⟩
   |false=>.bad "contract: results behind deferred calls"
noncomputable def a7z (C:Ctx) (c:nK) (no:R Out) (fi:FI) (t:Tr AV) (todo:List dL) (ds:List lZ) (s:S):R Out:=
 match Ut s.h c.pre (a3L c.t t (.nil,[],[])) with
 | (_,rl,sl)=>match a7x C c fi t todo s rl (gJ C.nG c.n s.next rl) (ji C.nG c.n sl) with
   |true=>(gI s.pc (ji C.nG c.n sl) c.facts).bind fun _=>.ask c.outs.length (a7y C c fi ds s (gJ C.nG c.n s.next rl) (ji C.nG c.n sl))
   |false=>no
noncomputable def Gn (C:Ctx) (s:S) (b:Nat):Option (TypeId×SE×Nat×Nat):=
 match s.h.get b with
 |some (.cells el cs m fz jX st sg)=>match jX with
  |_::_=>none
  | []=>match Nat.beq fz 0 && (!st && !sg) with
    |false=>none
    |true=>match C.T.get el with
     |none=>none
     |some i=>match Nat.beq i.size (aJ C el).length with
      |false=>none
      |true=>match getCells cs m 0 with
       | .ok l=>match yS C (aJ C el) l (aJ C el) (.a1 (.nl (aJ C el)) (.bool true)) with
         |some y=>some (el,y,m,i.size)
         |none=>none
       |_=>none
 |_=>none
noncomputable def zJ (n c m sz:Nat):Bool:= !Nat.beq sz 0 && (Nat.ble (Nat.mul c sz) m && Nat.ble n c)
def a3y (t:TypeId) (sz:Nat) (l:List Dt):Prop:=∃(a:Addr) (k c:Nat) (ks:List Kd) (es:List Dt),l=[.sl (.slice (some a) k c) t sz (es.take (k * sz)),.ls ks es,.val (.int .i64 (.ofNat k))]∧k * sz≤es.length
noncomputable def Q9 (C:Ctx) (t b n c:Nat) (v:AV) (s:S):AV×S:=
 match Gn C s b with
 |some q=>(match Nat.beq q.1 t && zJ n c q.2.2.1 q.2.2.2 with
  |true=>(.opq (.sl t) (.var s.next),⟨(s.h.set b (.vec q.1 q.2.1)).del b,Nat.add s.next 1,.rel "frz" false (a3y t (aJ C t).length) [.var s.next,q.2.1,.int .i64 (.ofNat n)]::s.pc⟩)
  |false=>(v,s))
 |none=>(v,s)
noncomputable def coV (C:Ctx) (p v:AV) (s:S):AV×S:=
 match p with
 | .rE _ _ _=>match v with
   | .sl b off n c=>match off with
     | 0=>match Gn C s b with
       |some q=>match zJ n c q.2.2.1 q.2.2.2 with
        |true=>(.rE b (.int .i64 (.ofNat n)) (.int .i64 (.ofNat c)),⟨s.h.set b (.vec q.1 q.2.1),s.next,s.pc⟩)
        |false=>(v,s)
       |none=>(v,s)
     |_+1=>(v,s)
   | .gQ b _ e0 n sz=>match e0 with
     | 0=>match Gn C s b with
       |some q=>match (Nat.beq sz q.2.2.2 && !Nat.beq n 0) && zJ n n q.2.2.1 q.2.2.2 with
        |true=>(.rE b (.int .i64 (.ofNat n)) (.var s.next),⟨s.h.set b (.vec q.1 q.2.1),Nat.add s.next 1,s.pc⟩)
        |false=>(v,s)
       |none=>(v,s)
     |_+1=>(v,s)
   |_=>(v,s)
 | .opq q _=>match q with
   | .sl t=>match v with
     | .aW=>(.opq (.sl t) (.a1 (.ns t (aJ C t).length) (.bool true)),s)
     | .sl b off n c=>(match off with
       | 0=>Q9 C t b n c v s
       |_+1=>(v,s))
     | .gQ b _ e0 n sz=>(match e0 with
       | 0=>(match Nat.beq sz (aJ C t).length && !Nat.beq n 0 with
         |true=>Q9 C t b n n v s
         |false=>(v,s))
       |_+1=>(v,s))
     |_=>(v,s)
   |_=>(v,s)
 |_=>(v,s)
noncomputable def aaV (j i:Nat) (v v':AV) (s:S):S:=
 match s.h.get j with
 |some (.cells e cs n fz jX st sg)=>match cs.get i with
  |some u=>match jM u v && Nat.blt i n with
   |true=>⟨s.h.set j (.cells e (cs.set i v') n fz jX st sg),s.next,s.pc⟩
   |false=>s
  |none=>s
 |_=>s
noncomputable def a1P (C:Ctx) (j i:Nat) (p:AV) (s:S):S:=
 match s.h.get j with
 |some (.cells _ cs n _ _ _ _)=>match cs.get i with
  |some v=>match !uQ v && Nat.blt i n with
   |true=>match coV C p v s with
    | (v',s')=>aaV j i v v' s'
   |false=>s
  |none=>s
 |_=>s
noncomputable def U5:AV→Bool
 | .rE _ _ _=>true
 | .opq k _=>(match k with
   | .sl _=>true
   |_=>false)
 |_=>false
noncomputable def Jk (C:Ctx) (j:Nat):List AV→Nat→S→S
 | []=>fun _ s=>s
 |p::l=>fun i s=>match U5 p with
  |true=>Jk C j l (Nat.add i 1) (a1P C j i p s)
  |false=>Jk C j l (Nat.add i 1) s
noncomputable def aa0:List AV→Bool
 | []=>false
 |p::l=>U5 p || aa0 l
noncomputable def acF:CB→Bool
 | .cells _ cs _ _ _=>aa0 cs
 |_=>false
noncomputable def coB (C:Ctx) (rl:List (Nat×Nat)) (x:Nat×CB) (s:S):S:=
 match acF x.2 with
 |false=>s
 |true=>match sS x.1 rl with
 |some j=>match x.2 with
  | .cells _ cs _ _ _=>Jk C j cs 0 s
  |_=>s
 |none=>s
noncomputable def aac (C:Ctx) (rl:List (Nat×Nat)):List (Nat×CB)→S→S
 | []=>fun s=>s
 |x::l=>fun s=>aac C rl l (coB C rl x s)
noncomputable def coT (C:Ctx):List (Nat×AV)→Tr AV→S→Tr AV×S
 | []=>fun t s=>(t,s)
 |x::l=>fun t s=>match t.get x.1 with
  |some v=>match uQ v with
   |true=>coT C l t s
   |false=>match coV C x.2 v s with
    | (v',s')=>coT C l (t.set x.1 v') s'
  |none=>coT C l t s
noncomputable def a7M:List (Nat×CB)→Bool
 | []=>false
 |x::l=>acF x.2 || a7M l
noncomputable def adG (h:Tr jc) (c:nK) (t:Tr AV):List (Nat×Nat):=
 match a7M c.pre with
 |false=>[]
 |true=>match Ut h c.pre (a3L c.t t (.nil,[],[])) with
  | (_,rl,_)=>rl
noncomputable def acC (C:Ctx) (c:nK) (no:R Out) (fi:FI) (t:Tr AV) (todo:List dL) (ds:List lZ) (s:S):R Out:=
 match coT C c.t t s with
 | (t1,s1)=>a7z C c no fi t1 todo ds (aac C (adG s1.h c t1) c.pre s1)
noncomputable def adf (c:nK) (f:FuncId) (todo:List dL):Bool:=
 match Nat.beq c.fn f with
 |false=>false
 |true=>match todo with
  | []=>false
  |x::_=>match c.todo with
   | []=>false
   |y::_=>Wi x y
mutual
noncomputable def AV.plain:AV→Bool
 | .opq _ _=>false
 | .rE _ _ _=>false
 | .lu _ _ _ _=>false
 | .agg l=>AV.JE l
 | .ou l=>AV.JE l
 | .iface _ v=>AV.plain v
 |_=>true
noncomputable def AV.JE:List AV→Bool
 | []=>true
 |v::l=>AV.plain v && AV.JE l
end
noncomputable def Yh:List (Nat×AV)→Bool
 | []=>true
 |x::l=>AV.plain x.2 && Yh l
noncomputable def Ri (cs:Tr AV):Nat→Bool
 | 0=>true
 |n+1=>(match cs.get n with
  |some v=>AV.plain v
  |none=>true) && Ri cs n
noncomputable def Ro (h:Tr jc) (b:Nat):Bool:=
 match h.get b with
 |some x=>(match x with
  | .cells _ cs n _ _ _ _=>Ri cs n
  | .vec _ _=>false
  |_=>true)
 |none=>true
noncomputable def a1R (h:Tr jc) (v:AV):Bool:=
 match v with
 | .ptr b _=>Ro h b
 | .sl b _ _ _=>Ro h b
 | .gQ b _ _ _ _=>Ro h b
 |v=>AV.plain v
noncomputable def MF (h:Tr jc) (cs:Tr AV):Nat→Bool
 | 0=>true
 |n+1=>(match cs.get n with
  |some v=>a1R h v
  |none=>true) && MF h cs n
noncomputable def a5h (h:Tr jc) (v:AV):Bool:=
 match v with
 | .ptr b _=>(match h.get b with
   |some x=>(match x with
    | .cells _ cs n _ _ _ _=>MF h cs n
    | .vec _ _=>false
    |_=>true)
   |none=>true)
 |v=>AV.plain v
noncomputable def E5 (h:Tr jc) (t:Tr AV):List (Nat×AV)→Bool
 | []=>true
 |x::l=>match t.get x.1 with
  |some v=>a5h h v && E5 h t l
  |none=>E5 h t l
noncomputable def Uf:List (Nat×CB)→Bool
 | []=>true
 |x::l=>(match x.2 with
  | .cells _ cs _ st _=>st || AV.JE cs
  | .vec _ _=>false
  |_=>true) && Uf l
noncomputable def aag (p v:AV):Bool:=
 match p with
 | .int _ n=>(match v with
   | .int _ m=>iEq n m
   |_=>true)
 | .gQ _ _ _ len _=>(match v with
   | .gQ _ _ _ len' _=>Nat.beq len len'
   |_=>true)
 |_=>true
noncomputable def ZU (cs:Tr AV):List AV→Nat→Bool
 | []=>fun _=>true
 |p::l=>fun i=>(match cs.get i with
  |some v=>aag p v
  |none=>true) && ZU cs l (Nat.add i 1)
noncomputable def a5g (id:Nat):List (Nat×AV)→Option Nat
 | []=>none
 |x::l=>match x.2 with
  | .ptr b _=>(match Nat.beq b id with
    |true=>some x.1
    |false=>a5g id l)
  |_=>a5g id l
noncomputable def a6p (h:Tr jc) (t:Tr AV) (c:nK):Bool:=
 match c.pre with
 | []=>true
 |x::_=>match x.2 with
  | .cells _ cs _ _ _=>(match a5g x.1 c.t with
    |some d=>(match t.get d with
     |some (.ptr b _)=>(match h.get b with
      |some (.cells _ ts _ _ _ _ _)=>ZU ts cs 0
      |_=>true)
     |_=>true)
    |none=>true)
  |_=>true
noncomputable def a1a (h:Tr jc) (c:nK) (f:FuncId) (t:Tr AV) (todo:List dL):Bool:=
 match Nat.beq c.fn f with
 |false=>false
 |true=>match a6p h t c with
  |false=>false
  |true=>match adf c f todo with
   |false=>false
   |true=>match Yh c.t && Uf c.pre with
    |true=>true
    |false=> !E5 h t c.t
noncomputable def Q7 (C:Ctx) (rec:Rec) (fi:FI) (t:Tr AV) (todo:List dL) (ds:List lZ) (s:S):List nK→R Out
 | []=>rec fi t todo ds .run none s
 |c::l=>match a1a s.h c fi.fn t todo with
  |false=>Q7 C rec fi t todo ds s l
  |true=>acC C c (Q7 C rec fi t todo ds s l) fi t todo ds s
noncomputable def a5d (C:Ctx) (rec:Rec) (fi:FI) (t:Tr AV) (todo:List dL) (ds:List lZ) (ctx:Option (List PE)) (s:S):R Out:=
 match C.K with
 | []=>rec fi t todo ds .run ctx s
 |_::_=>match ctx with
  |none=>Q7 C rec fi t todo ds s C.K
  |some _=>rec fi t todo ds .run ctx s
noncomputable def jv (C:Ctx) (rec:Rec) (f:FuncId) (args:List AV) (kind:CallKind) (ctx:Option (List PE)) (s:S):R Out:=
 match C.F.get f with
 |none=>.bad "enter"
 |some fn=>match fn.body with
  |none=>.bad "enter: no body"
  |some c=>match Nat.ble args.length fn.ntmps with
   |false=>.bad "enter: args"
   |true=>a5d C rec ⟨f,fn.ntmps,kind,none,[]⟩ (Tr.ofList args) [.code c] [] ctx s
noncomputable def Zc (f:FuncId):List nK→Option nK
 | []=>none
 |c::l=>match Nat.beq c.fn f with
  |true=>some c
  |false=>Zc f l
noncomputable def abz (C:Ctx) (c:nK) (args:List AV) (s:S):R Out:=
 match oZ args.length c.nt with
 |true=>a7z C c (.bad "library: another call") ⟨c.fn,c.nt,.normal,none,[]⟩ (Tr.ofList args) [] [] s
 |false=>.bad "library: arguments"
noncomputable def a2P (C:Ctx) (rec:Rec) (f:FuncId) (args:List AV) (s:S):R Out:=
 match jr f C.X with
 |none=>jv C rec f args .normal none s
 |some e=>match e with
  | .index g=>a1c C s g args
  | .closed g t=>XV C s g t args
  | .as x=>asA C s x args
  |_=>jv C rec f args .normal none s
noncomputable def a7B (C:Ctx) (rec:Rec) (f:FuncId) (args:List AV) (s:S):R Out:=
 match Zc f C.L with
 |some c=>(match AV.JE args with
  |true=>a2P C rec f args s
  |false=>abz C c args s)
 |none=>a2P C rec f args s
noncomputable def Rj (C:Ctx) (rec:Rec) (f:FuncId) (args:List AV) (s:S):R Out:=
 match JW f s.next C.M with
 |some m=>a5N s m args
 |none=>a7B C rec f args s
noncomputable def Vq (C:Ctx) (rec:Rec) (l:Nat) (args:List AV) (s:S):R Out:=do
 let r ←getLoop s l
 match r with
 | (_,_,fn,nt,tmps,params,assign,body,_)=>do
   let t ←setArgs nt params args tmps
   let _ ←R.xk "round: function" (C.F.get fn)
   rec ⟨fn,nt,.normal,some l,[]⟩ t [.code assign,.beginRound,.code body] [] .run none s
inductive RG where
 |fin (t:Tr AV) (ds:List lZ) (ctx:Option (List PE)) (s:S)
 |jB (ch:List PE) (t:Tr AV) (ds:List lZ) (ctx:Option (List PE)) (s:S)
 deriving Inhabited
noncomputable def lM:AV:=.ou []
noncomputable def QV (fi:FI) (d:AD) (ds:List lZ) (s:S):R (List lZ×S):=
 match fi.roundOf with
 |none=>.ok (.call d::ds,s)
 |some l=>do
  let r ←getLoop s l
  match r with
  | (_,_,_,_,_,_,_,_,b)=>
    match s.h.get b with
    |some (.jT (some l))=>.ok (ds,⟨s.h.set b (.jT (some (d::l))),s.next,s.pc⟩)
    |_=>.bad "defer in a round"
noncomputable def Yy (fi:FI) (ctx:Option (List PE)):R (AV×Option (List PE)):=
 match fi.roundOf with
 |some _=>.bad "recover in a round"
 |none=>
  match fi.kind with
  | .deferred=>match ctx with
    |some ({ v,recovered:=false }::older)=>.ok (v,some ({ v,recovered:=true }::older))
    |_=>.ok (.qU,ctx)
  | .normal=>.ok (.qU,ctx)
  |_=>.bad "recover"
abbrev RK:=Tr AV→List lZ→Option (List PE)→S→R RG
noncomputable def UZ (nt:Nat) (d:Option Tmp) (k:RK) (t:Tr AV) (ds:List lZ) (ctx:Option (List PE)) (o:Out):R RG:=
 @Out.rec (fun _=>R RG) (fun res _ s=>@Res.rec (fun _=>R RG) (fun v=>k (put nt t d v) ds ctx s) (fun ch=>.ok (.jB ch t ds ctx s)) res) o
noncomputable def a5c (C:Ctx) (rec:Rec) (nt:Nat) (d:Option Tmp) (k:RK) (t:Tr AV) (ds:List lZ) (ctx:Option (List PE)) (f:FuncId) (args:List AV) (s:S):R RG:=
 (Rj C rec f args s).bind (UZ nt d k t ds ctx)
noncomputable def a5b (C:Ctx) (rec:Rec) (nt:Nat) (d:Option Tmp) (k:RK) (t:Tr AV) (ds:List lZ) (ctx:Option (List PE)) (l:Nat) (args:List AV) (s:S):R RG:=
 (Vq C rec l args s).bind (UZ nt d k t ds ctx)
noncomputable def OX (fi:FI) (nt:Nat) (d:Option Tmp) (k:RK) (t:Tr AV) (ds:List lZ) (ctx:Option (List PE)) (x:AD) (s:S):R RG:=
 (QV fi x ds s).bind fun r=>k (put nt t d lM) r.1 ctx r.2
noncomputable def Fq (fi:FI) (nt:Nat) (d:Option Tmp) (k:RK) (t:Tr AV) (ds:List lZ) (ctx:Option (List PE)) (s:S):R RG:=
 (Yy fi ctx).bind fun r=>k (put nt t d r.1) ds r.2 s
noncomputable def aau (C:Ctx) (rec:Rec) (nt:Nat) (fi:FI) (d:Option Tmp) (k:RK) (t:Tr AV) (ds:List lZ) (ctx:Option (List PE)) (x:Nx):R RG:=
 @Nx.rec (fun _=>R RG) (fun v s=>k (put nt t d v) ds ctx s) (fun s=>k (put nt t d lM) ds ctx s) (a5c C rec nt d k t ds ctx) (a5b C rec nt d k t ds ctx)
  (fun _ _=>.bad "defer") (Fq fi nt d k t ds ctx) (fun v s=>.ok (.jB [⟨v,false⟩] t ds ctx s)) x
noncomputable def xR (o:Op):Option Call:=
 match o with
 | .defer c=>some c
 |_=>none
noncomputable def lC (c:Call) (C:Ctx) (t:Tr AV):R AD:=do
 let args ←evL C t c.args.toList
 match c.callee with
 | .value f=>do
   let f ←lV C t f
   match f with
   | .fn g a b=>.ok { target:=.fn g a b,args }
   |_=>.bad "defer of what"
 |_=>.bad "defer of a builtin or method"
noncomputable def KN (C:Ctx) (rec:Rec) (fi:FI) (nt:Nat) (k:RK) (d:Option Tmp) (op:Op) (ty:TypeId) (t:Tr AV) (ds:List lZ) (ctx:Option (List PE)) (s:S):R RG:=
 @Option.rec Call (fun _=>R RG) ((yJ op ty C t s).bind (aau C rec nt fi d k t ds ctx)) (fun c=>(lC c C t).bind fun x=>OX fi nt d k t ds ctx x s) (xR op)
noncomputable def GR (C:Ctx) (rec:Rec) (fi:FI) (nt:Nat) (k:RK) (d:Option Tmp) (op:Op) (ty:TypeId) (t:Tr AV) (ds:List lZ) (ctx:Option (List PE)) (s:S) (b:Bool):R RG:=
 @Bool.rec (fun _=>R RG) (k (put nt t d lM) ds ctx s) (KN C rec fi nt k d op ty t ds ctx s) b
noncomputable def BX (C:Ctx) (rec:Rec) (fi:FI) (ops:Array Oper) (k:RK) (o:Oper):RK:=
 @Oper.rec (fun _=>RK) (fun d op ty _ _ g t ds ctx s=>(kP ops g t s).bind fun r=>GR C rec fi fi.nt k d op ty t ds ctx r.2 r.1) o
noncomputable def Za (nt:Nat) (d:Option Tmp) (t:Tr AV):Option SE:=
 match d with
 |none=>none
 |some d=>match Nat.blt d nt with
  |false=>none
  |true=>match t.get d with
   |some v=>(match v with
    | .opq k e=>(match k with
      | .bool=>some e
      |_=>none)
    |_=>none)
   |none=>none
noncomputable def a3O (nt:Nat) (d:Option Tmp) (K:RK):RK:=fun t ds ctx s=>
 match Za nt d t with
 |some e=>(Qj s e).bind fun r=>K (put nt t d (.bool r.1)) ds ctx r.2
 |none=>K t ds ctx s
noncomputable def nO (C:Ctx) (rec:Rec) (fi:FI) (ops:Array Oper) (k:RK) (o:Oper):RK:=BX C rec fi ops (a3O fi.nt o.dst k) o
noncomputable def a0B (C:Ctx) (rec:Rec) (fi:FI) (ops:Array Oper) (l:List Oper):RK:=
 @List.rec Oper (fun _=>RK) (fun t ds ctx s=>.ok (.fin t ds ctx s)) (fun o _ ih=>nO C rec fi ops ih o) l
noncomputable def yF (rec:Rec) (fi:FI) (t:Tr AV) (ds:List lZ) (ctx:Option (List PE)) (s:S) (jump:Option Code):R Out:=
 match fi.roundOf with
 |none=>match jump with
  |none=>rec fi t [] ds .ret ctx s
  |some .ret=>rec fi t [] ds .ret ctx s
  |_=>.bad "leave"
 |some l=>do
  let r ←getLoop s l
  match r with
  | (_,_,a,n,b,c,d,e,f)=>
    .ok ⟨.ret (.bool jump.isNone),ctx,⟨s.h.set l (.loop (match jump with|none=>.ready|some _=>.done) jump a n b c d e f),s.next,s.pc⟩⟩
noncomputable def a2T (rec:Rec) (fi:FI) (t:Tr AV) (k:List dL) (ds:List lZ) (ctx:Option (List PE)) (l:Nat) (o:Out):R Out:=
 match o.res with
 | .ret _=>rec fi t (.endRange l::k) ds .run ctx o.s
 | .jB ch=>rec fi t [] ds (.jB ch) ctx o.s
noncomputable def Vw (C:Ctx) (rec:Rec) (fi:FI) (t:Tr AV) (k:List dL) (ds:List lZ) (ctx:Option (List PE)) (f:Operand) (params:Array Tmp) (assign body:Code) (s:S):R Out:=do
 let fv ←lV C t f
 match fi.roundOf with
 |some l=>do
  let r ←getLoop s l
  match r with
  | (_,_,_,_,_,_,_,_,d)=>do
    match ←Ae C (s.new (.loop .ready none fi.fn fi.nt t params.toList assign body d)) fv [.yield s.next] with
    | .enter f args s'=>do let o ←Rj C rec f args s';a2T rec fi t k ds ctx s.next o
    |_=>.bad "rangeFunc"
 |none=>do
  let s1:=s.new (.jT (some []))
  match ←Ae C (s1.new (.loop .ready none fi.fn fi.nt t params.toList assign body s.next)) fv [.yield s1.next] with
  | .enter f args s'=>do let o ←Rj C rec f args s';a2T rec fi t k (.collected s.next::ds) ctx s1.next o
  |_=>.bad "rangeFunc"
noncomputable def regionF (_C:Ctx) (rec:Rec) (fi:FI) (k:List dL) (r:RG):R Out:=
 match r with
 | .fin t ds ctx s=>rec fi t k ds .run ctx s
 | .jB ch t ds ctx s=>rec fi t [] ds (.jB ch) ctx s
noncomputable def abR (o:Oper) (C:Ctx) (t:Tr AV) (s:S) (b:Bool):R AV:=
 @Bool.rec (fun _=>R AV) (.ok lM) (evQ o C t s) b
noncomputable def evF (ops:Array Oper) (o:Oper) (C:Ctx) (t:Tr AV) (s:S):R AV:=(gU ops o.guard t).bind (abR o C t s)
noncomputable def nN (nt:Nat) (t:Tr AV) (d:Option Tmp) (v:AV):Bool:=
 match d with
 |none=>true
 |some d=>match Nat.blt d nt with
  |true=>match t.get d with
   |some u=>jM u v
   |none=>false
  |false=>true
abbrev Bl:=List (Nat×(Nat×jc))
noncomputable def gq (i:Nat):Bl→Option (Nat×jc)
 | []=>none
 |p::l=>match Nat.beq p.1 i with
  |true=>some p.2
  |false=>gq i l
abbrev DK:=Bl→RK
noncomputable def R.Js {α:Type} (r:R α):R α:=@R.rec α (fun _=>R α) (fun a=>.ok a) (fun w=>.bad w) (fun _ _ _=>.bad "ask") (fun _ _ _=>.bad "must") r
noncomputable def N9 (o:Oper) (i nt:Nat) (k:DK) (C:Ctx) (pe:Bl) (t:Tr AV) (ds:List lZ) (ctx:Option (List PE)) (s:S) (b:Bool):R RG:=
 @Bool.rec (fun _=>R RG) (k pe (put nt t o.dst lM) ds ctx s)
  ((R.Js (aF o.op C t)).bind fun r=>k ((i,(s.next,r.2))::pe) (put nt t o.dst (mkA r.1 s.next)) ds ctx ⟨s.h,Nat.add s.next 1,s.pc⟩) b
noncomputable def dOn (i:Nat) (k:DK):DK:=fun pe t ds ctx s=>
 match gq i pe with
 |none=>k pe t ds ctx s
 |some p=>k pe t ds ctx ⟨s.h.set p.1 p.2,s.next,s.pc⟩
noncomputable def a7q (C:Ctx) (rec:Rec) (fi:FI) (ops:Array Oper) (x:PS) (k:DK):DK:=
 @PS.rec (fun _=>DK)
  (fun _ o pe=>nO C rec fi ops (k pe) o)
  (fun _ o pe t ds ctx s=>(R.Js (evF ops o C t s)).bind fun v=>k pe (put fi.nt t o.dst v) ds ctx s)
  (fun _ o pe t ds ctx s=>(R.Js (evF ops o C t s)).bind fun v=>@Bool.rec (fun _=>R RG) (.bad "float: another value") (k pe t ds ctx s) (nN fi.nt t o.dst v))
  (fun i o pe t ds ctx s=>(R.Js (gU ops o.guard t)).bind (N9 o i fi.nt k C pe t ds ctx s))
  (fun i=>dOn i k) x
noncomputable def nI (C:Ctx) (rec:Rec) (fi:FI) (ops:Array Oper) (kf:DK) (l:List PS):DK:=
 @List.rec PS (fun _=>DK) kf (fun x _ ih=>a7q C rec fi ops x ih) l
noncomputable def acA:DK:=fun _ t ds ctx s=>.ok (.fin t ds ctx s)
noncomputable def uf (C:Ctx) (rec:Rec) (fi:FI) (ops:Array Oper) (l:List PS):DK:=nI C rec fi ops acA l
noncomputable def Gw (o:Oper) (C:Ctx) (t:Tr AV):R Nat:=
 match o.op with
 | .store _ a _=>do
   let p ←lV C t a
   match p with
   | .ptr b _=>.ok b
   | .lu b _ _ _=>.ok b
   |_=>.bad "two stores: no address"
 |_=>.bad "two stores: no store"
noncomputable def kQ (ops:Array Oper) (o:Oper) (C:Ctx) (t:Tr AV) (s:S):R S:=
 match o.dst with
 |some _=>.bad "two stores: a store's value"
 |none=>do
  let b ←R.Js (gU ops o.guard t)
  match b with
  |false=>.bad "two stores: guarded"
  |true=>match o.op with
   | .store ty a x=>do
     let p ←lV C t a
     let v ←lV C t x
     storeAt C s ty p v
   |_=>.bad "two stores: no store"
noncomputable def OY (ops:Array Oper) (nt:Nat) (C:Ctx) (t:Tr AV) (s:S):List Nat→R Unit
 | []=>.ok ()
 |i::l=>match nth ops.toList i with
  |none=>.bad "two stores: no operation"
  |some o=>do
   let v ←R.Js (evF ops o C t s)
   match nN nt t o.dst v with
   |true=>OY ops nt C t s l
   |false=>.bad "two stores: another value"
noncomputable def U3 (s:S) (b:Nat):R (List Nat):=
 match s.h.get b with
 |some (.cells _ _ _ _ jX _ _)=>.ok jX
 |some (.vec _ _)=>.ok []
 |_=>.bad "two stores: no cells"
noncomputable def TF (C:Ctx) (fi:FI) (ops:Array Oper) (ox oy:Oper) (ra rb:List Nat):DK:=fun _ t ds ctx s=>do
 let bx ←R.Js (Gw ox C t)
 let by' ←R.Js (Gw oy C t)
 let ax ←R.Js (U3 s bx)
 let ay ←R.Js (U3 s by')
 bP (!Nat.beq bx by' && !Ah by' ax && !Ah bx ay) "two stores: the same place"
 let sx ←R.Js (kQ ops ox C t s)
 let _ ←R.Js (OY ops fi.nt C t sx ra)
 let sxy ←R.Js (kQ ops oy C t sx)
 let sy ←R.Js (kQ ops oy C t s)
 let _ ←R.Js (OY ops fi.nt C t sy rb)
 let _ ←R.Js (kQ ops ox C t sy)
 .ok (.fin t ds ctx sxy)
noncomputable def jS (nt:Nat) (t:Tr AV):List PS→Tr AV
 | []=>t
 |x::l=>match x with
  | .ev _ o=>put nt (jS nt t l) o.dst .junk
  | .al _ o=>put nt (jS nt t l) o.dst .junk
  |_=>jS nt t l
noncomputable def a7s (nt:Nat) (l:List PS) (r:RG):R RG:=
 @RG.rec (fun _=>R RG) (fun t ds ctx s=>.ok (.fin t ds ctx s)) (fun ch t ds ctx s=>.ok (.jB ch (jS nt t l) ds ctx s)) r
noncomputable def dGo (C:Ctx) (rec:Rec) (fi:FI) (ops:Array Oper) (p:U4):RK:=fun t ds ctx s=>
 match p with
 | .one plan=>(uf C rec fi ops (link ops.toList plan) [] t ds ctx s).bind (a7s fi.nt (link ops.toList plan))
 | .two pre x y ra rb=>match nth ops.toList x,nth ops.toList y with
   |some ox,some oy=>(nI C rec fi ops (TF C fi ops ox oy ra rb) (link ops.toList pre) [] t ds ctx s).bind (a7s fi.nt (link ops.toList pre))
   |_,_=>.bad "no plan: two"
noncomputable def a7r (C:Ctx) (rec:Rec) (fi:FI) (ops:Array Oper) (plan:U4):RK:=fun t ds ctx s=>
 @Bool.rec (fun _=>R RG) (.bad "no plan") (dGo C rec fi ops plan t ds ctx s) (O1 ops.toList plan)
noncomputable def a4e (C:Ctx) (ops:Array Oper) (nt:Nat):List Oper→Tr AV→S→Option SE
 | []=>fun _ _=>none
 |o::l=>fun t s=>match CO ops o.guard t with
  |some p=>some p.1
  |none=>match gU ops o.guard t with
   | .ok b=>(match b with
     |false=>a4e C ops nt l (put nt t o.dst lM) s
     |true=>match yJ o.op o.type C t s with
      | .ok x=>(match x with
        | .val v s'=>(match Nat.beq s'.next s.next with
          |true=>a4e C ops nt l (put nt t o.dst v) s'
          |false=>none)
        |_=>none)
      |_=>none)
   |_=>none
noncomputable def ZI (C:Ctx) (rec:Rec) (fi:FI) (ops:Array Oper):Nat→RK
 | 0=>fun t ds ctx s=>a7r C rec fi ops (BZ ops.toList) t ds ctx s
 |n+1=>fun t ds ctx s=>match a4e C ops fi.nt ops.toList t s with
  |some e=>(Qj s e).bind fun r=>ZI C rec fi ops n t ds ctx r.2
  |none=>a7r C rec fi ops (BZ ops.toList) t ds ctx s
noncomputable def a2J (C:Ctx) (rec:Rec) (fi:FI) (ops:Array Oper) (t:Tr AV) (ds:List lZ) (ctx:Option (List PE)) (s:S):R RG:=
 ZI C rec fi ops 6 t ds ctx s
abbrev CK:=List dL→Ctx→Rec→FI→Tr AV→List lZ→Option (List PE)→S→R Out
noncomputable def aem:CK:=fun _ _ rec fi t ds ctx s=>yF rec fi t ds ctx s (some .ret)
noncomputable def a2S:CK:=fun k _ rec fi t ds ctx s=>rec fi t k ds .run ctx s
noncomputable def ael (a b:Code):CK:=fun k _ rec fi t ds ctx s=>rec fi t (.code a::.code b::k) ds .run ctx s
noncomputable def adK (c:Operand) (a b:Code):CK:=fun k C rec fi t ds ctx s=>
 (lV C t c).bind fun v=>match v with
   | .bool x=>rec fi t (.code (match x with|true=>a|false=>b)::k) ds .run ctx s
   | .opq q e=>match q with
     | .bool=>(Qj s e).bind fun r=>rec fi t (.code (match r.1 with|true=>a|false=>b)::k) ds .run ctx r.2
     |_=>.bad "cond: unknown"
   |_=>.bad "cond"
noncomputable def acJ (id:Nat) (body:Code):CK:=fun k _ rec fi t ds ctx s=>rec fi t (.code body::.inBlock id::k) ds .run ctx s
noncomputable def aaX (body:Code):CK:=fun k C rec fi t ds ctx s=>a5d C rec fi t (.code body::.inLoop body::k) ds ctx s
noncomputable def acH (body:Code):CK:=fun k _ rec fi t ds ctx s=>rec fi t (.code body::.inScope body::k) ds .run ctx s
noncomputable def adJ (id:Nat):CK:=fun k _ rec fi t ds ctx s=>
 match Qk id k with
 |some k=>rec fi t k ds .run ctx s
 |none=>yF rec fi t ds ctx s (some (.exit id))
noncomputable def adI (l:Nat):CK:=fun k _ rec fi t ds ctx s=>
 match Qe l k with
 |some k=>rec fi t k ds .run ctx s
 |none=>yF rec fi t ds ctx s (some (.goto l))
noncomputable def aaj (ops:Array Oper) (draw:Bool):CK:=fun k C rec fi t ds ctx s=>
 match draw with
 |false=>(a0B C rec fi ops ops.toList t ds ctx s).bind (regionF C rec fi k)
 |true=>(a2J C rec fi ops t ds ctx s).bind (regionF C rec fi k)
noncomputable def acI (f:Operand) (params:Array Tmp) (assign body:Code):CK:=fun k C rec fi t ds ctx s=>Vw C rec fi t k ds ctx f params assign body s
noncomputable def codeF (c:Code):CK:=
 @Code.rec (fun _=>CK) a2S (fun _ ops draw=>aaj ops draw) (fun a b _ _=>ael a b) (fun c a b _ _=>adK c a b) (fun id b _=>acJ id b) (fun b _=>aaX b)
  (fun f p a b _ _=>acI f p a b) adJ (fun b _=>acH b) (fun _=>a2S) adI aem (fun why _ _ _ _ _ _ _ _=>.bad why) c
noncomputable def abB (l:Nat):CK:=fun k _ rec fi t ds ctx s=>do
 let r ←getLoop s l
 match r with
 | (st,pend,a,n,b,c,d,e,f)=>
   match st with
   | .busy=>.bad "endRange: busy"
   |_=>rec fi t ((match pend with|some c=>[.code c]|none=>[])++k) ds .run ctx ⟨s.h.set l (.loop .exhausted pend a n b c d e f),s.next,s.pc⟩
noncomputable def a1d:CK:=fun k _ rec fi t ds ctx s=>
 match fi.roundOf with
 |none=>.bad "beginRound"
 |some l=>do
  let r ←getLoop s l
  match r with
  | (st,pend,a,n,b,c,d,e,f)=>
    match st with
    | .ready=>rec fi t k ds .run ctx ⟨s.h.set l (.loop .busy pend a n b c d e f),s.next,s.pc⟩
    |_=>.bad "beginRound: not ready"
noncomputable def aaC (x:dL):CK:=
 @dL.rec (fun _=>CK) codeF (fun _=>a2S) aaX (fun _=>a2S) (fun _ _ _ _ _ _ _ _ _=>.bad "inRange") abB a1d x
noncomputable def a8n (C:Ctx) (s:S) (t:Tr AV) (r:ResultVar):R AV:=
 match r with
 | .tmp d=>lV C t (.tmp d)
 | .cell a ty=>do let p ←lV C t (.tmp a);loadAt C s ty p
noncomputable def NU (C:Ctx) (s:S) (t:Tr AV):List ResultVar→R (List AV)
 | []=>.ok []
 |r::l=>do
  let v ←a8n C s t r
  let vs ←NU C s t l
  .ok (v::vs)
noncomputable def Hw:List AV→AV
 | [v]=>v
 |vs=>.ou vs
noncomputable def OU (C:Ctx) (s:S) (fi:FI) (t:Tr AV):R AV:=
 match C.F.get fi.fn with
 |none=>.bad "results: fn"
 |some fn=>do let vs ←NU C s t fn.results.toList;.ok (Hw vs)
noncomputable def a2p:rC→Option (List PE)
 | .jB c=>some c
 |_=>none
noncomputable def oq (o:Out):rC:=
 match o.ctx with
 |some c=>.jB c
 |none=>.ret
noncomputable def DU:rC→rC
 | .jB (p::older)=>match p.recovered with
   |true=>.ret
   |false=>.jB (p::older)
 |m=>m
noncomputable def a1H (C:Ctx) (rec:Rec) (fi:FI) (t:Tr AV) (mode:rC) (ctx:Option (List PE)) (s:S):lZ→List lZ→R Out
 | .collected r=>fun ds=>
   match s.h.get r with
   |some (.jT (some l))=>rec fi t [] (l.map .call++ds) mode ctx ⟨s.h.set r (.jT none),s.next,s.pc⟩
   |_=>.bad "collected"
 | .call d=>fun ds=>do
   match ←Ae C s d.target d.args with
   | .enter f args s=>do
     let o ←jv C rec f args .deferred (a2p mode) s
     match o.res with
     | .ret _=>rec fi t [] ds (DU (oq o)) ctx o.s
     | .jB ch=>rec fi t [] ds (.jB (abj ch (oq o))) ctx o.s
   |_=>.bad "deferred: other"
noncomputable def aen (C:Ctx) (rec:Rec) (fi:FI) (t:Tr AV) (todo:List dL) (ds:List lZ) (ctx:Option (List PE)) (s:S):R Out:=
 @List.rec dL (fun _=>R Out) (yF rec fi t ds ctx s none) (fun x k _=>aaC x k C rec fi t ds ctx s) todo
noncomputable def acL (C:Ctx) (rec:Rec) (fi:FI) (t:Tr AV) (ds:List lZ) (ctx:Option (List PE)) (s:S):R Out:=
 match fi.roundOf with
 |some _=>.bad "a round that returns"
 |none=>match ds with
  | []=>(OU C s fi t).bind fun v=>.ok ⟨.ret v,ctx,s⟩
  |d::ds=>a1H C rec fi t .ret ctx s d ds
noncomputable def acM (C:Ctx) (rec:Rec) (fi:FI) (t:Tr AV) (ds:List lZ) (ctx:Option (List PE)) (s:S) (chain:List PE):R Out:=
 match ds with
 | []=>.ok ⟨.jB chain,ctx,s⟩
 |d::ds=>a1H C rec fi t (.jB chain) ctx s d ds
noncomputable def aaY (C:Ctx) (rec:Rec) (fi:FI) (t:Tr AV) (todo:List dL) (ds:List lZ) (mode:rC) (ctx:Option (List PE)) (s:S):R Out:=
 @rC.rec (fun _=>R Out) (aen C rec fi t todo ds ctx s) (acL C rec fi t ds ctx s) (acM C rec fi t ds ctx s) mode
noncomputable def dS (C:Ctx) (n:Nat):Rec:=
 @Nat.rec (fun _=>Rec) (fun _ _ _ _ _ _ _=>.bad "fuel") (fun _ ih=>aaY C ih) n
noncomputable def a0n (n next:Nat) (l:List (Nat×Nat)) (i:Nat):Nat:=
 match Nat.blt i n with
 |true=>i
 |false=>match sS i l with
  |some j=>match Nat.ble n j with
   |true=>j
   |false=>next
  |none=>next
noncomputable def a01 (n m:Nat) (l:List (Nat×SE)) (i:Nat):SE:=
 match Nat.blt i n with
 |true=>.var i
 |false=>match Nat.blt i (Nat.add n m) with
  |false=>UY
  |true=>match sS i l with
   |some e=>e
   |none=>UY
noncomputable def V7 (n:Nat) (h:Tr jc):List (Nat×CB)→RS→RS
 | []=>fun m=>m
 |x::l=>fun m=>V7 n h l (match h.get (a0n n n m.2.1 x.1) with
  |some b=>ac9 x.2 b m
  |none=>m)
noncomputable def GZ (h:Tr jc) (θ:Nat→Nat) (ν:Nat→SE):List (Nat×CB)→Bool
 | []=>true
 |x::l=>match h.get (θ x.1) with
  |some b=>yM b (x.2.sub θ ν) && (x.2.live && GZ h θ ν l)
  |none=>false
noncomputable def NY (s:S) (v:AV) (o:uF) (θ:Nat→Nat) (ν:Nat→SE):Bool:=
 jM v (o.res.sub θ ν) && (GZ s.h θ ν o.post && V4 (qg θ o.post))
noncomputable def a6n (C:Ctx) (s:S) (t b:Nat) (n:SE) (v:AV):R (AV×S):=
 match s.h.get b with
 |some (.vec el e)=>match Nat.beq el t with
  |true=>.must (.rel "short" false (VL (aJ C t).length) [e,n]::s.pc)
   (.ok (.opq (.sl t) (.var s.next),⟨s.h.del b,Nat.add s.next 1,.rel "frz" false (a3y t (aJ C t).length) [.var s.next,e,n]::s.pc⟩))
  |false=>.ok (v,s)
 |_=>.ok (v,s)
noncomputable def abQ (C:Ctx) (s:S) (p v:AV):R (AV×S):=
 match p with
 | .opq q _=>match q with
   | .sl t=>match v with
     | .rE b n _=>a6n C s t b n v
     | .aW=>.ok (.opq (.sl t) (.a1 (.ns t (aJ C t).length) (.bool true)),s)
     |_=>.ok (v,s)
   |_=>.ok (v,s)
 |_=>.ok (v,s)
mutual
noncomputable def a8S (C:Ctx):AV→AV→S→R (AV×S)
 | .agg l=>fun v s=>match v with
   | .agg l'=>(a3T C l l' s).bind fun r=>.ok (.agg r.1,r.2)
   |_=>.ok (v,s)
 | .ou l=>fun v s=>match v with
   | .ou l'=>(a3T C l l' s).bind fun r=>.ok (.ou r.1,r.2)
   |_=>.ok (v,s)
 |p=>fun v s=>abQ C s p v
noncomputable def a3T (C:Ctx):List AV→List AV→S→R (List AV×S)
 | []=>fun l' s=>.ok (l',s)
 |p::l=>fun l' s=>match l' with
  | []=>.ok ([],s)
  |v::l'=>(a8S C p v s).bind fun r=>(a3T C l l' r.2).bind fun q=>.ok (r.1::q.1,q.2)
end
noncomputable def acT (a b:Bool):Bool:=
 match a with
 |true=> !b
 |false=>b
noncomputable def qh (C:Ctx) (c:nK) (jB:Bool) (s:S) (v:AV):List uF→R Unit
 | []=>.must s.pc (.ok ())
 |o::l=>match acT o.jB jB with
  |true=>qh C c jB s v l
  |false=>(a8S C o.res v s).bind fun r=>
   match V7 c.n r.2.h o.post (a03 o.res r.1 (.nil,[],[])) with
   | (_,tl,vl)=>match NY r.2 r.1 o (a0n c.n r.2.next tl) (a01 c.n o.m vl) with
     |true=>gI r.2.pc (a01 c.n o.m vl) o.facts
     |false=>qh C c jB s v l
noncomputable def bC (C:Ctx) (c:nK) (o:Out):R Unit:=
 match o.res with
 | .ret v=>qh C c false o.s v c.outs
 | .jB ch=>match ch with
   | []=>.must o.s.pc (.ok ())
   |p::l=>match l with
    |_::_=>.must o.s.pc (.ok ())
    | []=>match p.recovered with
      |true=>.must o.s.pc (.ok ())
      |false=>qh C c true o.s p.v c.outs
noncomputable def CS:Code→List dL→Nat→Nat×Option (List dL)
 | .seq a b=>fun k n=>match CS a (.code b::k) n with
   | (m,some r)=>(m,some r)
   | (m,none)=>CS b k m
 | .cond _ a b=>fun k n=>match CS a k n with
   | (m,some r)=>(m,some r)
   | (m,none)=>CS b k m
 | .block id x=>fun k n=>CS x (.inBlock id::k) n
 | .loop x=>fun k n=>match n with
   | 0=>(0,some (.code x::.inLoop x::k))
   |m+1=>CS x (.inLoop x::k) m
 | .scope x=>fun k n=>CS x (.inScope x::k) n
 |_=>fun _ n=>(n,none)
noncomputable def y5 (P:Program) (f:FuncId) (n:Nat):List dL:=
 match (P.funcs[f]?).bind (·.body) with
 |some c=>match (CS c [] n).2 with
  |some l=>l
  |none=>[]
 |none=>[]
noncomputable def uJ:Code→Nat→Nat×Option (Code×Code)
 | .seq a b=>fun n=>match uJ a n with
   | (m,some r)=>(m,some r)
   | (m,none)=>uJ b m
 | .cond _ a b=>fun n=>match uJ a n with
   | (m,some r)=>(m,some r)
   | (m,none)=>uJ b m
 | .block _ x=>fun n=>uJ x n
 | .loop x=>fun n=>uJ x n
 | .scope x=>fun n=>uJ x n
 | .rangeFunc _ _ a b=>fun n=>match n with
   | 0=>(0,some (a,b))
   |m+1=>uJ b m
 |_=>fun n=>(n,none)
noncomputable def rangeAt (P:Program) (f:FuncId) (n:Nat):Code×Code:=
 match (P.funcs[f]?).bind (·.body) with
 |some c=>match (uJ c n).2 with
  |some r=>r
  |none=>(.skip,.skip)
 |none=>(.skip,.skip)
noncomputable def Ee (P:Program) (f:FuncId):List dL:=
 match (P.funcs[f]?).bind (·.body) with
 |some c=>[.code c]
 |none=>[]
end Go.Proofs.YtjioppomopfifaaGreatDoor.Abs
namespace Go.Proofs.YtjioppomopfifaaGreatDoor.Abs
open Go
abbrev PD:=List Dt→Prop
structure DL where
 fC:Nat
 fP:Nat
 fB:Nat
 tL:Nat
 tT:Nat
 tI:Nat
 tE:Nat
 nG:Nat
 ntC:Nat
 ntP:Nat
 ntB:Nat
noncomputable def X4 (P:Program) (u:DL) (pL:PD) (b:Nat) (n:Nat) (m:Nat):uF:=
 { res:=.ou [],post:=[(u.nG,.loop .ready none u.fP u.ntP [(3,.ptr (u.nG+3) 0)] [30,31] (rangeAt P u.fP 0).1 (rangeAt P u.fP 0).2 (u.nG+1)),(u.nG+1,.jT []),
     (u.nG+3,.cells u.tL [.rE b (.var n) (.var (n+1))] 0 false false),(b,.vec u.tT (.var (n+2)))],
   facts:=[.rel "left" false pL [.var n,.var (n+2)]],m }
noncomputable def a99 (P:Program) (u:DL) (x:String) (pB pL:PD):nK:=
 let g:=u.nG
 { fn:=u.fB,nt:=u.ntB,round:=none,t:=[(0,.yield g),(1,.ptr (g+2) 0),(3,.opq (.int .i64) (.var (g+9)))],todo:=y5 P u.fB 0,n:=g+10,
   pre:=[(g+2,.cells u.tL [.opq (.sl u.tT) (.var (g+8))] 0 false false),
    (g,.loop .ready none u.fP u.ntP [(3,.ptr (g+3) 0)] [30,31] (rangeAt P u.fP 0).1 (rangeAt P u.fP 0).2 (g+1)),(g+1,.jT []),
    (g+3,.cells u.tL [.rE (g+4) (.var (g+5)) (.var (g+6))] 0 false false),(g+4,.vec u.tT (.var (g+7)))],
   facts:=[.rel x false pB [.var (g+5),.var (g+7),.var (g+8),.var (g+9)]],
   outs:=[X4 P u pL (g+10) (g+11) 4,X4 P u pL (g+4) (g+10) 3] }
noncomputable def CG (P:Program) (u:DL) (st:LoopState) (pe:Option Code) (e:Int):uF:=
 let g:=u.nG
 { res:=.ou [],post:=[(g,.loop st pe u.fC u.ntC [(2,.ptr (g+5) 0),(3,.ptr (g+4) 0)] [7] (rangeAt P u.fC 0).1 (rangeAt P u.fC 0).2 (g+1)),(g+1,.jT []),
    (g+4,.cells u.tI [.opq (.int .i64) (.var (g+10))] 0 false false),(g+5,.cells u.tE [.int .i64 e] 0 false false)],facts:=[],m:=1 }
noncomputable def ZN (P:Program) (u:DL) (x:String) (pP:PD):nK:=
 let g:=u.nG
 { fn:=u.fP,nt:=u.ntP,round:=none,t:=[(0,.yield g),(3,.ptr (g+2) 0)],todo:=y5 P u.fP 0,n:=g+10,
   pre:=[(g+2,.cells u.tL [.rE (g+3) (.var (g+6)) (.var (g+7))] 0 false false),(g+3,.vec u.tT (.var (g+8))),
    (g,.loop .ready none u.fC u.ntC [(2,.ptr (g+5) 0),(3,.ptr (g+4) 0)] [7] (rangeAt P u.fC 0).1 (rangeAt P u.fC 0).2 (g+1)),(g+1,.jT []),
    (g+4,.cells u.tI [.opq (.int .i64) (.var (g+9))] 0 false false),(g+5,.cells u.tE [.int .i64 0] 0 false false)],
   facts:=[.rel x false pP [.var (g+6),.var (g+8)]],
   outs:=[CG P u .ready none 0,CG P u .done (some .ret) 2] }
noncomputable def ZO (P:Program) (u:DL) (pT:PD):nK:=
 let g:=u.nG
 { fn:=u.fC,nt:=u.ntC,round:=none,t:=[(0,.agg [.opq (.int .i64) (.var g),.opq (.int .i64) (.var (g+1)),.opq .str (.var (g+2)),.opq (.sl u.tT) (.var (g+3))])],todo:=Ee P u.fC,n:=g+4,pre:=[],
   facts:=[.rel "term" false pT [.var g,.var (g+1),.var (g+2),.var (g+3)]],
   outs:=[{ res:=.int .i64 0,post:=[],facts:=[],m:=0 },{ res:=.int .i64 2,post:=[],facts:=[],m:=0 },{ res:=.int .i64 3,post:=[],facts:=[],m:=0 }] }
end Go.Proofs.YtjioppomopfifaaGreatDoor.Abs
namespace Go.Proofs.YtjioppomopfifaaGreatDoor.Abs
open Go
structure a4z where
 fS:Nat
 ntS:Nat
 fD:Nat
 ntD:Nat
 tF:Nat
noncomputable def adQ (u:DL) (g:Nat):AV:=.agg [.opq (.int .i64) (.var g),.opq (.int .i64) (.var (g+1)),.opq .str (.var (g+2)),.opq (.sl u.tT) (.var (g+3))]
noncomputable def nR (P:Program) (u:DL) (a:a4z) (x:String) (pT pM pZ:PD):nK:=
 let g:=u.nG
 { fn:=a.fS,nt:=a.ntS,round:=none,t:=[(0,adQ u g),(1,.opq (.int .i64) (.var (g+4)))],todo:=Ee P a.fS,n:=g+5,pre:=[],
   facts:=[.rel x false pT [.var g,.var (g+1),.var (g+2),.var (g+3)],.rel "most" false pM [.var (g+4)]],
   outs:=[{ res:=.opq (.int .i64) (.var (g+5)),post:=[],facts:=[.rel "sz" false pZ [.var (g+4),.var (g+5),.var (g+3)]],m:=1 }] }
noncomputable def kE (P:Program) (u:DL) (a:a4z) (x:String) (pL pZ:PD):nK:=
 let g:=u.nG
 { fn:=a.fS,nt:=a.ntS,round:=none,t:=[(1,.opq (.int .i64) (.var (g+4))),(2,.ptr (g+7) 0),(5,.opq (.int .i64) (.var (g+5))),(6,.opq (.int .i64) (.var (g+6)))],todo:=y5 P a.fS 0,n:=g+8,
   pre:=[(g+7,.cells u.tT [.opq (.int .i64) (.var g),.opq (.int .i64) (.var (g+1)),.opq .str (.var (g+2)),.opq (.sl u.tT) (.var (g+3))] 0 false false)],
   facts:=[.rel x false pL [.var (g+3),.var (g+6),.var (g+5),.var (g+4)]],
   outs:=[{ res:=.opq (.int .i64) (.var (g+8)),post:=[],facts:=[.rel "sz" false pZ [.var (g+4),.var (g+8),.var (g+3)]],m:=1 }] }
noncomputable def a2O (a:a4z) (c:Nat):CB:=.cells a.tF [.fn (.func a.fD) [] [.ptr c 0]] 0 false false
noncomputable def aV (P:Program) (u:DL) (a:a4z) (x:String) (pT pC:PD):nK:=
 let g:=u.nG
 { fn:=a.fD,nt:=a.ntD,round:=none,t:=[(0,adQ u g),(1,.ptr (g+4) 0)],todo:=Ee P a.fD,n:=g+5,
   pre:=[(g+4,a2O a (g+4))],
   facts:=[.rel x false pT [.var g,.var (g+1),.var (g+2),.var (g+3)]],
   outs:=[{ res:=.agg [.opq (.int .i64) (.var g),.opq (.int .i64) (.var (g+1)),.opq .str (.var (g+2)),.opq (.sl u.tT) (.var (g+5))],post:=[(g+4,a2O a (g+4))],facts:=[.rel "cop" false pC [.var (g+3),.var (g+5)]],m:=1 }] }
noncomputable def kF (P:Program) (u:DL) (a:a4z) (x:String) (pL pC:PD):nK:=
 let g:=u.nG
 { fn:=a.fD,nt:=a.ntD,round:=none,
   t:=[(1,.ptr (g+4) 0),(2,.ptr (g+5) 0),(3,.ptr (g+6) 0),(4,.rE (g+7) (.var (g+8)) (.var (g+8))),(18,.opq (.sl u.tT) (.var (g+3))),(19,.opq (.int .i64) (.a1 .len (.var (g+3)))),(20,.opq (.int .i64) (.var (g+9)))],
   todo:=y5 P a.fD 0,n:=g+15,
   pre:=[(g+4,a2O a (g+4)),(g+5,.cells u.tT [.opq (.int .i64) (.var g),.opq (.int .i64) (.var (g+1)),.opq .str (.var (g+2)),.opq (.sl u.tT) (.var (g+3))] 0 false false),
    (g+6,.cells u.tT [.opq (.int .i64) (.var (g+11)),.opq (.int .i64) (.var (g+12)),.opq .str (.var (g+13)),.opq (.sl u.tT) (.var (g+14))] 0 false false),(g+7,.vec u.tT (.var (g+10)))],
   facts:=[.rel x false pL [.var (g+3),.var (g+10),.var (g+8),.var (g+9)]],
   outs:=[{ res:=.agg [.opq (.int .i64) (.var g),.opq (.int .i64) (.var (g+1)),.opq .str (.var (g+2)),.opq (.sl u.tT) (.var (g+15))],post:=[(g+4,a2O a (g+4))],facts:=[.rel "cop" false pC [.var (g+3),.var (g+15)]],m:=1 }] }
noncomputable def Z8 (P:Program) (u:DL) (pL pA:PD) (b n m:Nat):uF:=
 { X4 P u pL b n m with facts:=[.rel "left" false pL [.var n,.var (n+2)],.rel "app" false pA [.var n,.var (n+2),.var (u.nG+5),.var (u.nG+7),.var (u.nG+8),.var (u.nG+9)]] }
noncomputable def jw (P:Program) (u:DL) (x:String) (pB pL pA:PD):nK:=
 { a99 P u x pB pL with outs:=[Z8 P u pL pA (u.nG+10) (u.nG+11) 4,Z8 P u pL pA (u.nG+4) (u.nG+10) 3] }
noncomputable def jh (P:Program) (u:DL) (x:String) (pP pS:PD):nK:=
 { ZN P u x pP with outs:=[{ CG P u .ready none 0 with facts:=[.rel "snd" false pS [.var (u.nG+6),.var (u.nG+8)]] },CG P u .done (some .ret) 2] }
noncomputable def jg (P:Program) (u:DL) (x:String) (pP pS pW pV:PD):nK:=
 { ZN P u x pP with
   facts:=[.rel x false pP [.var (u.nG+6),.var (u.nG+8)],.rel "snd" false pS [.var (u.nG+6),.var (u.nG+8)],.rel "wrd" false pW [.var (u.nG+9),.var (u.nG+6),.var (u.nG+8)]],
   outs:=[{ CG P u .ready none 0 with facts:=[.rel "wrds" false pV [.var (u.nG+10),.var (u.nG+9),.var (u.nG+6),.var (u.nG+8)]] }] }
noncomputable def rV (P:Program) (u:DL) (pT pS:PD):nK:=
 { ZO P u pT with outs:=[{ res:=.int .i64 0,post:=[],facts:=[.rel "sound" false pS [.var u.nG,.var (u.nG+1),.var (u.nG+2),.var (u.nG+3)]],m:=0 },{ res:=.int .i64 2,post:=[],facts:=[],m:=0 },{ res:=.int .i64 3,post:=[],facts:=[],m:=0 }] }
end Go.Proofs.YtjioppomopfifaaGreatDoor.Abs
