/- An abstract machine that evaluates programs of the model in the kernel, over values that are known in part: its values, its heap, its operations, its frames, its contracts. No condition: definitions alone. -/
import GoSem.Step
import GoSem.Claims
namespace Go.Proofs.YteibjeicgeophaaGreatDoor.Abs
open Go
inductive Tr (α : Type) where
  | nil
  | node (v : Option α) (l r : Tr α)
  deriving Inhabited
noncomputable def Tr.get {α : Type} (t : Tr α) : Nat → Option α :=
  @Tr.rec α (fun _ => Nat → Option α) (fun _ => none)
    (fun v _ _ gl gr i => @Nat.rec (fun _ => Option α) v (fun n _ => @Bool.rec (fun _ => Option α) (gr (Nat.div n 2)) (gl (Nat.div n 2)) (Nat.beq (Nat.mod n 2) 0)) i) t
noncomputable def Tr.upd {α : Type} (x : Option α) (f : Nat) : Nat → Tr α → Tr α :=
  @Nat.rec (fun _ => Nat → Tr α → Tr α) (fun _ t => t)
    (fun _ up i t => @Nat.rec (fun _ => Tr α)
      (@Tr.rec α (fun _ => Tr α) (.node x .nil .nil) (fun _ l r _ _ => .node x l r) t)
      (fun n _ => @Bool.rec (fun _ => Tr α)
        (@Tr.rec α (fun _ => Tr α) (.node none .nil (up (Nat.div n 2) .nil)) (fun v l r _ _ => .node v l (up (Nat.div n 2) r)) t)
        (@Tr.rec α (fun _ => Tr α) (.node none (up (Nat.div n 2) .nil) .nil) (fun v l r _ _ => .node v (up (Nat.div n 2) l) r) t)
        (Nat.beq (Nat.mod n 2) 0)) i) f
noncomputable def Tr.set {α : Type} (t : Tr α) (i : Nat) (x : α) : Tr α := Tr.upd (some x) (Nat.add i 1) i t
noncomputable def Tr.del {α : Type} (t : Tr α) (i : Nat) : Tr α := Tr.upd none (Nat.add i 1) i t
noncomputable def Tr.setList {α : Type} : List α → Nat → Tr α → Tr α
  | [] => fun _ t => t
  | x :: xs => fun i t => Tr.setList xs (Nat.add i 1) (t.set i x)
noncomputable def Tr.ofList {α : Type} (l : List α) : Tr α := Tr.setList l 0 .nil
inductive Kd where
  | any
  | int (k : IntKind)
  | bool
  | str
  | sl (t : TypeId)
  | ptr (t : TypeId) (i : Nat)
  | ifc
  deriving Inhabited
inductive SOp where
  | bin (op : BinOp)
  | un (op : UnOp)
  | conv (k : IntKind)
  | len
  | idx
  | sub
  | ite
  | el
  | off (n : Nat)
  | ld (n : Nat)
  | isNil
  | tk (sz : Nat)
  | sn
  | at (sz k : Nat)
  | nl (ks : List Kd)
  | ns (t : TypeId) (sz : Nat)
  | zs (ks : List Kd) (szs : List Nat)
  | up (sz k : Nat)
  | sb
  | bs
  | cat
  deriving Inhabited
inductive SE where
  | var (i : Nat)
  | int (k : IntKind) (n : Int)
  | bool (b : Bool)
  | str (s : List UInt8)
  | a1 (o : SOp) (x : SE)
  | a2 (o : SOp) (x y : SE)
  | a3 (o : SOp) (x y z : SE)
  deriving Inhabited
inductive Dt where
  | val (v : Value)
  | sl (v : Value) (t : TypeId) (sz : Nat) (es : List Dt)
  | pt (v : Value) (t : TypeId) (sz : Nat) (es : List Dt) (i k : Nat)
  | ls (ks : List Kd) (es : List Dt)
  deriving Inhabited
def Dt.v : Dt → Value
  | .val v => v
  | .sl v _ _ _ => v
  | .pt v _ _ _ _ _ => v
  | .ls _ _ => .tuple ⟨[]⟩
inductive Fact where
  | tr (e : SE)
  | fl (e : SE)
  | inr (i n : SE)
  | rel (nm : String) (neg : Bool) (p : List Dt → Prop) (args : List SE)
  deriving Inhabited
def pZero (l : List Dt) : Prop := ∃ k, l = [.val (.int k 0)]
def pNeg (l : List Dt) : Prop := ∃ k n, l = [.val (.int k n)] ∧ n < 0
def pLong (l : List Dt) : Prop := ∃ s t : ByteArray, l = [.val (.string s), .val (.string t)] ∧ 1099511627776 < s.size + t.size
def pOut (l : List Dt) : Prop := ∃ k n m, l = [.val (.int k n), .val (.int .i64 m)] ∧ ¬ (0 ≤ n ∧ n < m)
def pCut (l : List Dt) : Prop := ∃ k n k' m q, l = [.val (.int k n), .val (.int k' m), .val (.int .i64 q)] ∧ ¬ (0 ≤ n ∧ n ≤ m ∧ m ≤ q)
def pHole (sz : Nat) (l : List Dt) : Prop := ∃ ks es k n, l = [.ls ks es, .val (.int k n)] ∧ ¬ (0 ≤ n ∧ n.toNat * sz + sz ≤ es.length)
def pGrow (sz bytes cnt : Nat) (l : List Dt) : Prop := ∃ ks es n, l = [.ls ks es, .val (.int .i64 n)] ∧ ¬ (0 ≤ n ∧ n.toNat * sz ≤ es.length ∧ (n.toNat + cnt) * bytes ≤ 68719476736 ∧ n.toNat + cnt ≤ 68719476736)
inductive AV where
  | int (k : IntKind) (n : Int)
  | bool (b : Bool)
  | str (s : List UInt8)
  | ptr (b off : Nat)
  | nilp
  | sl (b off len cap : Nat)
  | osl (b pre e0 len sz : Nat)
  | nilsl
  | mapv (r : Nat)
  | nilmap
  | fn (f : Fn) (first captured : List AV)
  | yield (l : Nat)
  | nilfn
  | iface (t : TypeId) (v : AV)
  | nili
  | agg (cs : List AV)
  | tup (vs : List AV)
  | junk
  | raw (v : Value)
  | opq (k : Kd) (e : SE)
  | vsl (b : Nat) (n c : SE)
  | vptr (b : Nat) (i : SE) (sz k : Nat)
  deriving Inhabited
def noYield : Fn → Bool
  | .yield _ => false
  | _ => true
mutual
def AV.ofConst : Value → AV
  | .int k n => .int k n
  | .bool b => .bool b
  | .string s => .str s.data.toList
  | .pointer none => .nilp
  | .slice none 0 0 => .nilsl
  | .map none => .nilmap
  | .nilFunc => .nilfn
  | .func f ⟨[]⟩ ⟨[]⟩ => match noYield f with | true => .fn f [] [] | false => .raw (.func f #[] #[])
  | .nilIface => .nili
  | .iface t v => .iface t (AV.ofConst v)
  | .agg ⟨l⟩ => .agg (AV.ofConsts l)
  | .tuple ⟨l⟩ => .tup (AV.ofConsts l)
  | v => .raw v
def AV.ofConsts : List Value → List AV
  | [] => []
  | v :: l => AV.ofConst v :: AV.ofConsts l
end
structure AD where
  target : AV
  args : List AV
  deriving Inhabited
inductive ADf where
  | call (d : AD)
  | collected (r : Nat)
  deriving Inhabited
structure ME where
  k : AV
  v : AV
  born : Nat
  deriving Inhabited
inductive Blk where
  | cells (elem : TypeId) (cs : Tr AV) (n fz : Nat) (anc : List Nat) (stale sg : Bool)
  | map (es : List ME) (clock : Nat)
  | miter (m : Option Nat) (since : Nat) (seen : List Nat) (last : Nat)
  | siter (s : List UInt8) (pos : Nat)
  | defd (ds : Option (List AD))
  | loop (st : LoopState) (pending : Option Code) (fn : FuncId) (nt : Nat) (tmps : Tr AV) (params : List Tmp) (assign body : Code) (defers : Nat)
  | vec (elem : TypeId) (e : SE)
  | tab (elem : TypeId) (k : IntKind) (zs : List Int)
  deriving Inhabited
structure S where
  h : Tr Blk
  next : Nat
  pc : List Fact
  deriving Inhabited
inductive R (α : Type) where
  | ok (a : α)
  | bad (why : String)
  | ask (n : Nat) (k : Nat → R α)
  | must (pc : List Fact) (k : R α)
  deriving Inhabited
noncomputable def R.bind {α β : Type} (r : R α) (f : α → R β) : R β :=
  @R.rec α (fun _ => R β) f (fun w => .bad w) (fun n _ ih => .ask n ih) (fun pc _ ih => .must pc ih) r
noncomputable instance : Monad R where
  pure := .ok
  bind := R.bind
noncomputable def R.ofOpt {α : Type} (why : String) : Option α → R α
  | some a => .ok a
  | none => .bad why
noncomputable def guardB (b : Bool) (why : String) : R Unit :=
  match b with
  | true => .ok ()
  | false => .bad why
structure TI where
  desc : TypeDesc
  size : Nat
  bytes : Nat
  zero : Option (List AV)
  agg : Bool
  zv : Option AV
  deriving Inhabited
noncomputable def isAggD : TypeDesc → Bool
  | .struct _ => true
  | .array _ _ => true
  | _ => false
noncomputable def mkTI (types : Array TypeInfo) (i : TypeInfo) : TI :=
  let u : TypeDesc := match i.desc with
    | .named _ u => ((types[u]?).map (·.desc)).getD .invalid
    | d => d
  { desc := u, size := i.size, bytes := i.bytes, zero := i.zero.map fun z => AV.ofConsts z.cells.toList, agg := isAggD u, zv := i.zero.map AV.ofConst }
structure AsE where
  g : Nat
  tR : Nat
  hb : Nat
  he : Nat
  tP : Nat
  tF : Nat
  n : Nat
inductive Ext where
  | noEscape | indexByte | count | cmp | clone | noZero
  | index (g : Nat)
  | closed (g t : Nat)
  | as (x : AsE)
noncomputable def sb : List Nat → List UInt8
  | [] => []
  | n :: l => UInt8.ofNat n :: sb l
noncomputable def rp (v : AV) : Nat → List AV
  | 0 => []
  | n + 1 => v :: rp v n
noncomputable def ap : List AV → List AV → List AV
  | [] => fun m => m
  | v :: l => fun m => v :: ap l m
inductive MB where
  | cells (elem : TypeId) (cs : List AV) (fz : Nat) (stale sg : Bool)
  | map (es : List ME) (clock : Nat)
  deriving Inhabited
structure Memo where
  args : List AV
  next : Nat
  pre : List (Nat × MB)
  res : AV
  last : Nat
  post : List (Nat × MB)
  deriving Inhabited
noncomputable def MB.blk : MB → Blk
  | .cells e cs fz st sg => .cells e (Tr.ofList cs) cs.length fz [] st sg
  | .map es c => .map es c
noncomputable def setPairs : List (Nat × MB) → Tr Blk → Tr Blk
  | [] => fun h => h
  | x :: l => fun h => setPairs l (h.set x.1 x.2.blk)
noncomputable def Memo.S (m : Memo) : S := ⟨setPairs m.pre .nil, m.next, []⟩
inductive AItem where
  | code (c : Code)
  | inBlock (id : Nat)
  | inLoop (body : Code)
  | inScope (body : Code)
  | inRange (l : Nat)
  | endRange (l : Nat)
  | beginRound
  deriving Inhabited
inductive CB where
  | cells (elem : TypeId) (cs : List AV) (fz : Nat) (stale sg : Bool)
  | defd (ds : List AD)
  | loop (st : LoopState) (pe : Option Code) (fn : FuncId) (nt : Nat) (tmps : List (Nat × AV)) (params : List Tmp) (assign body : Code) (defers : Nat)
  | vec (elem : TypeId) (e : SE)
  | tab (elem : TypeId) (k : IntKind) (zs : List Int)
  | map (es : List ME) (clock : Nat)
  deriving Inhabited
structure ConOut where
  res : AV
  post : List (Nat × CB)
  facts : List Fact
  m : Nat
  pan : Bool := false
  deriving Inhabited
structure Con where
  fn : FuncId
  nt : Nat
  round : Option Nat
  t : List (Nat × AV)
  todo : List AItem
  n : Nat
  pre : List (Nat × CB)
  facts : List Fact
  outs : List ConOut
  deriving Inhabited
structure Ctx where
  P : Program
  T : Tr TI
  F : Tr Func
  nG : Nat
  eqT : Nat → Bool
  X : List (FuncId × Ext)
  M : List (FuncId × Memo)
  K : List Con
  L : List Con
  deriving Inhabited
noncomputable def mkCtx (P : Program) (eqT : Nat → Bool) (X : List (FuncId × Ext)) (M : List (FuncId × Memo) := []) (K : List Con := []) (L : List Con := []) : Ctx := { P, T := Tr.ofList (P.types.toList.map (mkTI P.types)), F := Tr.ofList P.funcs.toList, nG := P.globals.size, eqT, X, M, K, L }
noncomputable def ti (C : Ctx) (t : TypeId) : R TI := R.ofOpt "no type" (C.T.get t)
noncomputable def under (C : Ctx) (t : TypeId) : R TypeDesc := do let i ← ti C t; .ok i.desc
noncomputable def zeroOf (C : Ctx) (t : TypeId) : R (List AV) := do let i ← ti C t; R.ofOpt "no zero" i.zero
noncomputable def zeroVal (C : Ctx) (t : TypeId) : R AV := do let i ← ti C t; R.ofOpt "no zero value" i.zv
noncomputable def S.new (s : S) (b : Blk) : S := ⟨s.h.set s.next b, Nat.add s.next 1, s.pc⟩
noncomputable def AV.cells : AV → R (List AV)
  | .agg cs => .ok cs
  | .junk => .bad "cells"
  | .raw v => match v with
    | .agg _ => .bad "cells"
    | v => .ok [.raw v]
  | v => .ok [v]
noncomputable def noJunk (v : AV) : R AV :=
  @AV.rec (fun _ => R AV) (fun _ => Unit) (fun _ _ => .ok v) (fun _ => .ok v) (fun _ => .ok v) (fun _ _ => .ok v) (.ok v) (fun _ _ _ _ => .ok v) (fun _ _ _ _ _ => .ok v) (.ok v) (fun _ => .ok v) (.ok v)
    (fun _ _ _ _ _ => .ok v) (fun _ => .ok v) (.ok v) (fun _ _ _ => .ok v) (.ok v) (fun _ _ => .ok v) (fun _ _ => .ok v) (.bad "junk read") (fun _ => .ok v) (fun _ _ => .ok v) (fun _ _ _ => .ok v) (fun _ _ _ _ => .ok v) () (fun _ _ _ _ => ()) v
noncomputable def getCells (cs : Tr AV) : Nat → Nat → R (List AV)
  | 0 => fun _ => .ok []
  | k + 1 => fun off =>
    match cs.get off with
    | some v => do let v ← noJunk v; let l ← getCells cs k (Nat.add off 1); .ok (v :: l)
    | none => .bad "getCells: hole"
noncomputable def rdCells (s : S) (b off k : Nat) : R (List AV) :=
  match s.h.get b with
  | some (.cells _ cs n _ _ _ _) =>
    match Nat.ble (Nat.add off k) n with
    | true => getCells cs k off
    | false => .bad "rdCells: beyond"
  | _ => .bad "rdCells: no cells"
noncomputable def ofCells : Bool → List AV → R AV
  | true => fun l => .ok (.agg l)
  | false => fun l => match l with
    | [v] => .ok v
    | _ => .bad "ofCells"
noncomputable def cellsBlk (elem : TypeId) (cs : List AV) : Blk := .cells elem (Tr.ofList cs) cs.length 0 [] false false
noncomputable def delAll : List Nat → Tr Blk → Tr Blk
  | [] => fun h => h
  | a :: l => fun h => delAll l (h.del a)
noncomputable def oneA : AV → Bool
  | .agg _ => false
  | .tup _ => false
  | .junk => false
  | .raw v => match v with
    | .agg _ => false
    | .tuple _ => false
    | _ => true
  | _ => true
noncomputable def allOne : List AV → Bool
  | [] => true
  | v :: l => match oneA v with
    | true => allOne l
    | false => false
noncomputable def wrCells (s : S) (b off : Nat) (vs : List AV) : R S :=
  match vs with
  | [] => .ok s
  | v :: vs' =>
    match s.h.get b with
    | some (.cells elem cs n fz anc stale sg) =>
      match !stale && Nat.ble (Nat.add off (v :: vs').length) n && Nat.ble fz off && allOne (v :: vs') with
      | true => .ok ⟨(delAll anc s.h).set b (.cells elem (Tr.setList (v :: vs') off cs) n fz [] false sg), s.next, s.pc⟩
      | false => .bad "write"
    | _ => .bad "write: no cells"
noncomputable def ikEq (a b : IntKind) : Bool := decide (a = b)
noncomputable def kdEq (a b : Kd) : Bool :=
  match a with
  | .any => match b with | .any => true | _ => false
  | .int x => match b with | .int y => ikEq x y | _ => false
  | .bool => match b with | .bool => true | _ => false
  | .str => match b with | .str => true | _ => false
  | .sl x => match b with | .sl y => Nat.beq x y | _ => false
  | .ptr x i => match b with | .ptr y j => Nat.beq x y && Nat.beq i j | _ => false
  | .ifc => match b with | .ifc => true | _ => false
noncomputable def sKd : AV → Kd
  | .int k _ => .int k
  | .bool _ => .bool
  | .str _ => .str
  | .opq k _ => k
  | _ => .any
noncomputable def seOf : AV → SE
  | .int k n => .int k n
  | .bool b => .bool b
  | .str s => .str s
  | .opq _ e => e
  | _ => .bool true
noncomputable def kdOf (C : Ctx) (t : TypeId) : Kd :=
  match C.T.get t with
  | some i => match i.desc with
    | .int k => .int k
    | .bool => .bool
    | .string => .str
    | .slice e => .sl e
    | _ => .any
  | none => .any
noncomputable def kdsOf (C : Ctx) : List TypeId → List Kd
  | [] => []
  | t :: l => kdOf C t :: kdsOf C l
noncomputable def cellKds (C : Ctx) (t : TypeId) : List Kd :=
  match C.P.cellTypes C.P.depth t with
  | some l => kdsOf C l
  | none => []
noncomputable def ldCells (e : SE) : Nat → List Kd → Nat → R (List AV)
  | 0 => fun _ _ => .ok []
  | n + 1 => fun ks m => match ks with
    | [] => .bad "load: beyond the element"
    | k :: ks => do
      let l ← ldCells e n ks (Nat.add m 1)
      .ok (.opq k (.a1 (.ld m) e) :: l)
noncomputable def atCells (e i : SE) (sz : Nat) : Nat → List Kd → Nat → R (List AV)
  | 0 => fun _ _ => .ok []
  | n + 1 => fun ks m => match ks with
    | [] => .bad "load: beyond the element"
    | k :: ks => do
      let l ← atCells e i sz n ks (Nat.add m 1)
      .ok (.opq k (.a2 (.at sz m) e i) :: l)
noncomputable def loadVec (C : Ctx) (s : S) (t : TypeId) (b : Nat) (i : SE) (sz k : Nat) : R AV :=
  match s.h.get b with
  | some (.vec el e) => do
    let j ← ti C t
    guardB (Nat.beq sz (cellKds C el).length) "load: size"
    .must (.rel "hole" false (pHole sz) [e, i] :: s.pc) ((atCells e i sz (match j.agg with | true => j.size | false => 1) ((cellKds C el).drop k) k).bind fun l => ofCells j.agg l)
  | _ => .bad "load: no cells"
noncomputable def loadAt (C : Ctx) (s : S) (t : TypeId) : AV → R AV
  | .opq k e => match k with
    | .ptr u j => do
      let i ← ti C t
      let l ← ldCells e (match i.agg with | true => i.size | false => 1) ((cellKds C u).drop j) 0
      ofCells i.agg l
    | _ => .bad "load: unknown"
  | .ptr b off => do
    let i ← ti C t
    let l ← rdCells s b off (match i.agg with | true => i.size | false => 1)
    ofCells i.agg l
  | .vptr b i sz k => loadVec C s t b i sz k
  | _ => .bad "load: not an address"
noncomputable def bytesEq : List UInt8 → List UInt8 → Bool
  | [] => fun y => match y with | [] => true | _ => false
  | a :: x => fun y => match y with
    | [] => false
    | b :: y => match Nat.beq a.toNat b.toNat with | true => bytesEq x y | false => false
noncomputable def iEq (a b : Int) : Bool := decide (a = b)
noncomputable def opEq (a b : BinOp) : Bool := decide (a = b)
noncomputable def unEq (a b : UnOp) : Bool := decide (a = b)
noncomputable def kdsEq : List Kd → List Kd → Bool
  | [] => fun y => match y with | [] => true | _ :: _ => false
  | a :: x => fun y => match y with
    | [] => false
    | b :: y => kdEq a b && kdsEq x y
def zeroKd : Kd → Bool
  | .int _ => true
  | .bool => true
  | .str => true
  | .sl _ => true
  | _ => false
noncomputable def natsEq : List Nat → List Nat → Bool
  | [] => fun y => match y with | [] => true | _ :: _ => false
  | a :: x => fun y => match y with
    | [] => false
    | b :: y => Nat.beq a b && natsEq x y
noncomputable def soEq (a b : SOp) : Bool :=
  match a with
  | .bin x => match b with | .bin y => opEq x y | _ => false
  | .un x => match b with | .un y => unEq x y | _ => false
  | .conv x => match b with | .conv y => ikEq x y | _ => false
  | .len => match b with | .len => true | _ => false
  | .idx => match b with | .idx => true | _ => false
  | .sub => match b with | .sub => true | _ => false
  | .ite => match b with | .ite => true | _ => false
  | .el => match b with | .el => true | _ => false
  | .off x => match b with | .off y => Nat.beq x y | _ => false
  | .ld x => match b with | .ld y => Nat.beq x y | _ => false
  | .isNil => match b with | .isNil => true | _ => false
  | .tk x => match b with | .tk y => Nat.beq x y | _ => false
  | .sn => match b with | .sn => true | _ => false
  | .at x y => match b with | .at x' y' => Nat.beq x x' && Nat.beq y y' | _ => false
  | .nl x => match b with | .nl y => kdsEq x y | _ => false
  | .ns x y => match b with | .ns x' y' => Nat.beq x x' && Nat.beq y y' | _ => false
  | .zs x y => match b with | .zs x' y' => kdsEq x x' && natsEq y y' | _ => false
  | .up x y => match b with | .up x' y' => Nat.beq x x' && Nat.beq y y' | _ => false
  | .sb => match b with | .sb => true | _ => false
  | .bs => match b with | .bs => true | _ => false
  | .cat => match b with | .cat => true | _ => false
noncomputable def seEq : SE → SE → Bool
  | .var i => fun b => match b with | .var j => Nat.beq i j | _ => false
  | .int k n => fun b => match b with | .int k' m => ikEq k k' && iEq n m | _ => false
  | .bool x => fun b => match b with | .bool y => x == y | _ => false
  | .str x => fun b => match b with | .str y => bytesEq x y | _ => false
  | .a1 o x => fun b => match b with | .a1 o' x' => soEq o o' && seEq x x' | _ => false
  | .a2 o x y => fun b => match b with | .a2 o' x' y' => soEq o o' && seEq x x' && seEq y y' | _ => false
  | .a3 o x y z => fun b => match b with | .a3 o' x' y' z' => soEq o o' && seEq x x' && seEq y y' && seEq z z' | _ => false
noncomputable def seK (C : Ctx) (k : Kd) (v : AV) : Option SE :=
  match v with
  | .nilsl => match k with
    | .sl t => some (.a1 (.ns t (cellKds C t).length) (.bool true))
    | _ => none
  | v => match kdEq (sKd v) k && !kdEq k .any with
    | true => some (seOf v)
    | false => none
noncomputable def snAll (C : Ctx) (ks0 : List Kd) : List AV → List Kd → SE → Option SE
  | [] => fun _ e => some e
  | v :: l => fun ks e => match ks with
    | [] => match ks0 with
      | [] => none
      | q :: ks => match seK C q v with
        | some x => snAll C ks0 l ks (.a2 .sn e x)
        | none => none
    | q :: ks => match seK C q v with
      | some x => snAll C ks0 l ks (.a2 .sn e x)
      | none => none
noncomputable def unsn : SE → List SE → SE × List SE
  | .a2 o x y => fun acc => match o with
    | .sn => unsn x (y :: acc)
    | o => (.a2 o x y, acc)
  | .var i => fun acc => (.var i, acc)
  | .int k n => fun acc => (.int k n, acc)
  | .bool b => fun acc => (.bool b, acc)
  | .str s => fun acc => (.str s, acc)
  | .a1 o x => fun acc => (.a1 o x, acc)
  | .a3 o x y z => fun acc => (.a3 o x y z, acc)
noncomputable def oldAVs (ks0 : List Kd) : List SE → List Kd → List AV
  | [] => fun _ => []
  | x :: l => fun ks => match ks with
    | [] => match ks0 with
      | [] => []
      | q :: ks => .opq q x :: oldAVs ks0 l ks
    | q :: ks => .opq q x :: oldAVs ks0 l ks
noncomputable def tkOf (e : SE) : Option (Nat × SE) :=
  match e with
  | .a2 o _ n => match o with
    | .tk sz => some (sz, n)
    | _ => none
  | _ => none
noncomputable def nth {α : Type} : List α → Nat → Option α
  | [] => fun _ => none
  | x :: l => fun i => match i with
    | 0 => some x
    | n + 1 => nth l n
noncomputable def upCells (C : Ctx) (ks : List Kd) (sz : Nat) (i : SE) : List AV → Nat → SE → Option SE
  | [] => fun _ e => some e
  | v :: l => fun k e => match nth ks k with
    | some q => match seK C q v with
      | some x => upCells C ks sz i l (Nat.add k 1) (.a3 (.up sz k) e i x)
      | none => none
    | none => none
noncomputable def storeUp (C : Ctx) (s : S) (b : Nat) (i : SE) (sz k : Nat) (c : List AV) : R S :=
  match s.h.get b with
  | some (.vec el y) => match Nat.beq sz (cellKds C el).length && (!Nat.beq sz 0 && (Nat.ble (Nat.add k c.length) sz && allOne c)) with
    | false => .bad "store: place"
    | true => match upCells C (cellKds C el) sz i c k y with
      | some y' => .must (.rel "hole" false (pHole sz) [y, i] :: s.pc) (.ok ⟨s.h.set b (.vec el y'), s.next, s.pc⟩)
      | none => .bad "store: a cell"
  | _ => .bad "store: no cells"
noncomputable def storeVec (C : Ctx) (s : S) (b : Nat) (i : SE) (sz k : Nat) (c : List AV) : R S :=
  match s.h.get b with
  | some (.vec el y) => match tkOf (unsn y []).1 with
    | none => storeUp C s b i sz k c
    | some p => match (Nat.beq p.1 sz && seEq p.2 i) && (Nat.beq sz (cellKds C el).length && (!Nat.beq sz 0 && (Nat.ble (Nat.add k c.length) (unsn y []).2.length && allOne c))) with
      | false => storeUp C s b i sz k c
      | true => match snAll C (cellKds C el) ((oldAVs (cellKds C el) (unsn y []).2 (cellKds C el)).take k ++ c ++ (oldAVs (cellKds C el) (unsn y []).2 (cellKds C el)).drop (Nat.add k c.length)) (cellKds C el) (unsn y []).1 with
        | some y' => .ok ⟨s.h.set b (.vec el y'), s.next, s.pc⟩
        | none => .bad "store: a cell"
  | _ => .bad "store: no cells"
noncomputable def storeAt (C : Ctx) (s : S) (t : TypeId) (a v : AV) : R S :=
  match a with
  | .ptr b off => do
    let i ← ti C t
    let c ← v.cells
    match Nat.beq c.length i.size with
    | true => wrCells s b off c
    | false => .bad "store: size"
  | .vptr b k sz q => do
    let i ← ti C t
    let c ← v.cells
    match Nat.beq c.length i.size with
    | true => storeVec C s b k sz q c
    | false => .bad "store: size"
  | _ => .bad "store: not an address"
noncomputable def fillParts (place : Nat → Option (Nat × Nat)) : List (Nat × AV) → List AV → R (List AV)
  | [] => fun cells => .ok cells
  | (i, v) :: rest => fun cells =>
    match place i with
    | none => .bad "fill: place"
    | some (off, size) => do
      let c ← v.cells
      match Nat.beq c.length size && Nat.ble (Nat.add off size) cells.length with
      | true => fillParts place rest (cells.take off ++ c ++ cells.drop (Nat.add off size))
      | false => .bad "fill: size"
noncomputable def asInt : AV → R Int
  | .int _ n => .ok n
  | _ => .bad "int expected"
noncomputable def asIdx : AV → R Nat
  | .int _ (.ofNat n) => .ok n
  | _ => .bad "index: no natural"
noncomputable def asBoolA : AV → R Bool
  | .bool b => .ok b
  | _ => .bad "bool expected"
noncomputable def repl (zero : List AV) : Nat → List AV
  | 0 => []
  | n + 1 => zero ++ repl zero n
noncomputable def partOf (C : Ctx) (t : TypeId) (cs : List AV) (off : Nat) : R AV := do
  let i ← ti C t
  match i.agg with
  | true => .ok (.agg ((cs.drop off).take i.size))
  | false => R.ofOpt "part" (nth cs off)
inductive Nx where
  | val (v : AV) (s : S)
  | skip (s : S)
  | enter (f : FuncId) (args : List AV) (s : S)
  | round (l : Nat) (args : List AV) (s : S)
  | defer (d : AD) (s : S)
  | recover (s : S)
  | pan (v : AV) (s : S)
  deriving Inhabited
noncomputable def bytesLt : List UInt8 → List UInt8 → Bool
  | [] => fun y => match y with | [] => false | _ => true
  | a :: x => fun y => match y with
    | [] => false
    | b :: y => match Nat.blt a.toNat b.toNat with
      | true => true
      | false => match Nat.beq a.toNat b.toNat with | true => bytesLt x y | false => false
noncomputable def intOp : BinOp → IntKind → Int → Int → R AV
  | .add => fun k x y => .ok (.int k (k.wrap (x + y)))
  | .sub => fun k x y => .ok (.int k (k.wrap (x - y)))
  | .mul => fun k x y => .ok (.int k (k.wrap (x * y)))
  | .quo => fun k x y => match decide (y = 0) with | true => .bad "div by zero" | false => .ok (.int k (k.wrap (x.tdiv y)))
  | .rem => fun k x y => match decide (y = 0) with | true => .bad "mod by zero" | false => .ok (.int k (x.tmod y))
  | .and => fun k x y => .ok (.int k (k.wrap (BitVec.ofInt k.bits x &&& BitVec.ofInt k.bits y).toNat))
  | .or => fun k x y => .ok (.int k (k.wrap (BitVec.ofInt k.bits x ||| BitVec.ofInt k.bits y).toNat))
  | .xor => fun k x y => .ok (.int k (k.wrap (BitVec.ofInt k.bits x ^^^ BitVec.ofInt k.bits y).toNat))
  | .andNot => fun k x y => .ok (.int k (k.wrap (BitVec.ofInt k.bits x &&& ~~~ BitVec.ofInt k.bits y).toNat))
  | .eql => fun _ x y => .ok (.bool (decide (x = y)))
  | .neq => fun _ x y => .ok (.bool (!decide (x = y)))
  | .lss => fun _ x y => .ok (.bool (decide (x < y)))
  | .leq => fun _ x y => .ok (.bool (decide (x ≤ y)))
  | .gtr => fun _ x y => .ok (.bool (decide (y < x)))
  | .geq => fun _ x y => .ok (.bool (decide (y ≤ x)))
  | _ => fun _ _ _ => .bad "intOp"
noncomputable def shiftOp (op : BinOp) (k : IntKind) (x y : Int) : R AV :=
  match decide (y < 0) with
  | true => .bad "negative shift"
  | false =>
    match op with
    | .shl => .ok (.int k (k.wrap (x * 2 ^ (min y.toNat k.bits))))
    | .shr => .ok (.int k (x.fdiv (2 ^ (min y.toNat k.bits))))
    | _ => .bad "shiftOp"
noncomputable def strOp : BinOp → List UInt8 → List UInt8 → R AV
  | .add => fun x y => match Nat.ble (Nat.add x.length y.length) 1099511627776 with | true => .ok (.str (x ++ y)) | false => .bad "too long"
  | .eql => fun x y => .ok (.bool (bytesEq x y))
  | .neq => fun x y => .ok (.bool (!bytesEq x y))
  | .lss => fun x y => .ok (.bool (bytesLt x y))
  | .leq => fun x y => .ok (.bool (bytesLt x y || bytesEq x y))
  | .gtr => fun x y => .ok (.bool (!(bytesLt x y || bytesEq x y)))
  | .geq => fun x y => .ok (.bool (!bytesLt x y))
  | _ => fun _ _ => .bad "strOp"
noncomputable def eqFields (C : Ctx) (eq : TypeId → AV → AV → R Bool) (a b : List AV) : List Field → R Bool
  | [] => .ok true
  | f :: fs => match f.name == "_" with
    | true => eqFields C eq a b fs
    | false => do
      let u ← partOf C f.type a f.offset
      let v ← partOf C f.type b f.offset
      let r ← eq f.type u v
      match r with
      | true => eqFields C eq a b fs
      | false => .ok false
noncomputable def plainAt (s : S) (b i : Nat) : Bool :=
  match s.h.get b with
  | some (.cells _ _ n fz _ st sg) => !st && Nat.ble fz i && Nat.ble i n && !sg
  | _ => false
noncomputable def eqIn (C : Ctx) (s : S) : Nat → TypeId → AV → AV → R Bool
  | 0 => fun _ _ _ => .bad "eq: depth"
  | d + 1 => fun t x y => do
    match ← under C t with
    | .bool => match x, y with
      | .bool a, .bool b => .ok (a == b)
      | _, _ => .bad "eq bool"
    | .int _ => match x, y with
      | .int k a, .int k' b => match decide (k = k') with | true => .ok (decide (a = b)) | false => .bad "eq kinds"
      | _, _ => .bad "eq int"
    | .string => match x, y with
      | .str a, .str b => .ok (bytesEq a b)
      | _, _ => .bad "eq string"
    | .pointer e => match x, y with
      | .nilp, .nilp => .ok true
      | .nilp, .ptr _ _ => .ok false
      | .ptr _ _, .nilp => .ok false
      | .ptr a i, .ptr b j => do
        let i' ← ti C e
        guardB (!Nat.beq i'.size 0) "eq: pointers to nothing"
        match Nat.beq a b with
        | true => .ok (Nat.beq i j)
        | false => do
          guardB (plainAt s a i && plainAt s b j) "eq: pointers"
          .ok false
      | _, _ => .bad "eq pointer"
    | .interface _ => match x, y with
      | .nili, .nili => .ok true
      | .nili, .iface _ _ => .ok false
      | .iface _ _, .nili => .ok false
      | .iface tx vx, .iface ty vy =>
        match Nat.beq tx ty with
        | false => .ok false
        | true =>
          match C.P.types[tx]? with
          | some i => match i.comparable with
            | true => eqIn C s d tx vx vy
            | false => .bad "eq: not comparable"
          | none => .bad "eq: no type"
      | _, _ => .bad "eq interface"
    | .slice _ => match x, y with
      | .nilsl, .nilsl => .ok true
      | .nilsl, .sl .. => .ok false
      | .nilsl, .osl .. => .ok false
      | .sl .., .nilsl => .ok false
      | .osl .., .nilsl => .ok false
      | _, _ => .bad "eq slice"
    | .map _ _ => match x, y with
      | .nilmap, .nilmap => .ok true
      | .nilmap, .mapv _ => .ok false
      | .mapv _, .nilmap => .ok false
      | _, _ => .bad "eq map"
    | .struct fs => match x, y with
      | .agg a, .agg b => do
        guardB (!C.P.stoodInHeld t) "eq: struct"
        eqFields C (eqIn C s d) a b fs.toList
      | _, _ => .bad "eq struct"
    | .func _ _ _ => match x, y with
      | .nilfn, .nilfn => .ok true
      | .nilfn, .fn .. => .ok false
      | .fn .., .nilfn => .ok false
      | _, _ => .bad "eq func"
    | _ => .bad "eq: unsupported"
noncomputable def isShift : BinOp → Bool
  | .shl => true
  | .shr => true
  | _ => false
noncomputable def isConstO : Operand → Bool
  | .const _ => true
  | _ => false
noncomputable def eqGuardA (C : Ctx) (t : TypeId) (c : Bool) (x y : AV) : R Unit :=
  match x with
  | .nili => match y with
    | .nili => guardB c "eq: two nils"
    | .raw _ => .bad "eq: raw"
    | .opq _ _ => .bad "eq: unknown"
    | _ => .ok ()
  | .agg _ => guardB (!C.P.eqGuardType C.P.depth t) "eq: guard"
  | .raw _ => .bad "eq: raw"
  | .opq _ _ => .bad "eq: unknown"
  | _ => match y with
    | .raw _ => .bad "eq: raw"
    | .opq _ _ => .bad "eq: unknown"
    | _ => .ok ()
noncomputable def evEq (C : Ctx) (s : S) (op : BinOp) (t : TypeId) (c : Bool) (x y : AV) : R AV :=
  match op with
  | .eql => do eqGuardA C t c x y; let r ← eqIn C s 100 t x y; .ok (.bool r)
  | .neq => do eqGuardA C t c x y; let r ← eqIn C s 100 t x y; .ok (.bool (!r))
  | _ => .bad "bin"
noncomputable def evBin0 (C : Ctx) (s : S) (op : BinOp) (t : TypeId) (c : Bool) (x y : AV) : R AV :=
  match x, y with
  | .int k a, .int k' b =>
    match isShift op with
    | true => shiftOp op k a b
    | false => match decide (k = k') with | true => intOp op k a b | false => .bad "bin kinds"
  | .str a, .str b => strOp op a b
  | .raw _, _ => .bad "bin: raw"
  | _, .raw _ => .bad "bin: raw"
  | .opq _ _, _ => .bad "bin: unknown"
  | _, .opq _ _ => .bad "bin: unknown"
  | x, y => evEq C s op t c x y
noncomputable def isCmp : BinOp → Bool
  | .eql => true
  | .neq => true
  | .lss => true
  | .leq => true
  | .gtr => true
  | .geq => true
  | _ => false
noncomputable def knownB (e : SE) : List Fact → Option Bool
  | [] => none
  | f :: l => match f with
    | .tr x => match seEq x e with
      | true => some true
      | false => knownB e l
    | .fl x => match seEq x e with
      | true => some false
      | false => knownB e l
    | .inr _ _ => knownB e l
    | .rel _ _ _ _ => knownB e l
abbrev Bds := Option Int × Option Int
noncomputable def loMax (a : Option Int) (n : Int) : Option Int :=
  match a with
  | none => some n
  | some m => match decide (m < n) with | true => some n | false => some m
noncomputable def hiMin (a : Option Int) (n : Int) : Option Int :=
  match a with
  | none => some n
  | some m => match decide (n < m) with | true => some n | false => some m
noncomputable def isO (a : Option Int) (c : Int) : Bool :=
  match a with
  | none => false
  | some m => decide (m = c)
noncomputable def shrinkB (c : Int) (x : Bds) : Bds :=
  (match isO x.1 c with | true => some (c + 1) | false => x.1, match isO x.2 c with | true => some (c - 1) | false => x.2)
noncomputable def bdOp (op : BinOp) (b : Bool) (c : Int) (x : Bds) : Bds :=
  match op with
  | .eql => match b with | true => (loMax x.1 c, hiMin x.2 c) | false => shrinkB c x
  | .neq => match b with | false => (loMax x.1 c, hiMin x.2 c) | true => shrinkB c x
  | .lss => match b with | true => (x.1, hiMin x.2 (c - 1)) | false => (loMax x.1 c, x.2)
  | .leq => match b with | true => (x.1, hiMin x.2 c) | false => (loMax x.1 (c + 1), x.2)
  | .gtr => match b with | true => (loMax x.1 (c + 1), x.2) | false => (x.1, hiMin x.2 c)
  | .geq => match b with | true => (loMax x.1 c, x.2) | false => (x.1, hiMin x.2 (c - 1))
  | _ => x
noncomputable def flipOp : BinOp → BinOp
  | .lss => .gtr
  | .leq => .geq
  | .gtr => .lss
  | .geq => .leq
  | op => op
noncomputable def isCmp0 : BinOp → Bool
  | .eql => true | .neq => true | .lss => true | .leq => true | .gtr => true | .geq => true | _ => false
noncomputable def cmpC (e : SE) : Option (BinOp × SE × IntKind × Int) :=
  match e with
  | .a2 o x y => match o with
    | .bin op => match isCmp0 op with
      | false => none
      | true => match y with
        | .int k c => some (op, x, k, c)
        | _ => match x with
          | .int k c => some (flipOp op, y, k, c)
          | _ => none
    | _ => none
  | _ => none
noncomputable def bdFact (x : SE) (k : IntKind) (e : SE) (b : Bool) (m : Bds) : Bds :=
  match cmpC e with
  | some (op, y, k', c) => match ikEq k k' && seEq x y with
    | true => bdOp op b c m
    | false => m
  | none => m
noncomputable def bdsOf (x : SE) (k : IntKind) : List Fact → Bds → Bds
  | [] => fun m => m
  | f :: l => fun m => match f with
    | .tr e => bdsOf x k l (bdFact x k e true m)
    | .fl e => bdsOf x k l (bdFact x k e false m)
    | _ => bdsOf x k l m
noncomputable def isLenE : SE → Bool
  | .a1 o _ => match o with | .len => true | _ => false
  | _ => false
noncomputable def leO (a : Option Int) (n : Int) : Bool := match a with | some m => decide (m ≤ n) | none => false
noncomputable def geO (a : Option Int) (n : Int) : Bool := match a with | some m => decide (n ≤ m) | none => false
noncomputable def bdSay (op : BinOp) (c : Int) (m : Bds) : Option Bool :=
  match op with
  | .eql => match geO m.1 (c + 1) || leO m.2 (c - 1) with | true => some false | false => match geO m.1 c && leO m.2 c with | true => some true | false => none
  | .neq => match geO m.1 (c + 1) || leO m.2 (c - 1) with | true => some true | false => match geO m.1 c && leO m.2 c with | true => some false | false => none
  | .lss => match leO m.2 (c - 1) with | true => some true | false => match geO m.1 c with | true => some false | false => none
  | .leq => match leO m.2 c with | true => some true | false => match geO m.1 (c + 1) with | true => some false | false => none
  | .gtr => match geO m.1 (c + 1) with | true => some true | false => match leO m.2 c with | true => some false | false => none
  | .geq => match geO m.1 c with | true => some true | false => match leO m.2 (c - 1) with | true => some false | false => none
  | _ => none
noncomputable def rngF (e : SE) (pc : List Fact) : Option (Int × Int) :=
  match bdsOf e .i64 pc (none, none) with
  | (a, b) => match a with
    | some l => match b with
      | some h => some (l, h)
      | none => none
    | none => none
noncomputable def addR (a b : Option (Int × Int)) : Option (Int × Int) :=
  match a with
  | some (l, h) => match b with
    | some (l', h') => match decide (-4611686018427387904 ≤ l + l') && decide (h + h' ≤ 4611686018427387904) with
      | true => some (l + l', h + h')
      | false => none
    | none => none
  | none => none
noncomputable def rngE (pc : List Fact) : SE → Option (Int × Int)
  | .int k n => match k with
    | .i64 => match decide (-4611686018427387904 ≤ n) && decide (n ≤ 4611686018427387904) with
      | true => some (n, n)
      | false => none
    | _ => none
  | .a2 o x y => match rngF (.a2 o x y) pc with
    | some r => some r
    | none => match o with
      | .bin op => match op with
        | .add => addR (rngE pc x) (rngE pc y)
        | _ => none
      | _ => none
  | .var i => rngF (.var i) pc
  | .a1 o x => rngF (.a1 o x) pc
  | .a3 o x y z => rngF (.a3 o x y z) pc
  | _ => none
noncomputable def inR (e : SE) (lo hi : Int) (pc : List Fact) : Bool :=
  match rngE pc e with
  | some (l, h) => decide (lo ≤ l) && decide (h ≤ hi)
  | none => false
noncomputable def sumB (op : BinOp) (x : SE) (k : IntKind) (c : Int) (pc : List Fact) : Option Bool :=
  match ikEq k .i64 with
  | true => match rngE pc x with
    | some (l, h) => bdSay op c (some l, some h)
    | none => none
  | false => none
noncomputable def boundB (e : SE) (pc : List Fact) : Option Bool :=
  match cmpC e with
  | some (op, x, k, c) => match bdSay op c (bdsOf x k pc (match isLenE x with | true => (some 0, none) | false => (none, none))) with
    | some b => some b
    | none => sumB op x k c pc
  | none => none
noncomputable def eqOf (e : SE) : Option (Bool × SE × SE) :=
  match e with
  | .a2 o x y => match o with
    | .bin op => match op with
      | .eql => some (true, x, y)
      | .neq => some (false, x, y)
      | _ => none
    | _ => none
  | _ => none
noncomputable def xnorB (a b : Bool) : Bool :=
  match a with
  | true => b
  | false => !b
noncomputable def eqFact (x y e : SE) (b : Bool) : Option Bool :=
  match eqOf e with
  | some (p, u, v) => match (seEq u x && seEq v y) || (seEq u y && seEq v x) with
    | true => some (xnorB p b)
    | false => none
  | none => none
noncomputable def knownEq (x y : SE) : List Fact → Option Bool
  | [] => none
  | f :: l => match f with
    | .tr e => match eqFact x y e true with
      | some b => some b
      | none => knownEq x y l
    | .fl e => match eqFact x y e false with
      | some b => some b
      | none => knownEq x y l
    | .inr _ _ => knownEq x y l
    | .rel _ _ _ _ => knownEq x y l
noncomputable def eqSay (e : SE) (pc : List Fact) : Option Bool :=
  match eqOf e with
  | some (p, x, y) => match seEq x y with
    | true => some p
    | false => match knownEq x y pc with
      | some b => some (xnorB p b)
      | none => none
  | none => none
noncomputable def knownB1 (e : SE) (pc : List Fact) : Option Bool :=
  match knownB e pc with
  | some b => some b
  | none => match boundB e pc with
    | some b => some b
    | none => eqSay e pc
noncomputable def notOf (e : SE) : Option SE :=
  match e with
  | .a1 o x => match o with
    | .un u => match u with
      | .not => some x
      | _ => none
    | _ => none
  | _ => none
noncomputable def knownB2 (e : SE) (pc : List Fact) : Option Bool :=
  match notOf e with
  | some x => match knownB1 x pc with
    | some b => some (!b)
    | none => none
  | none => knownB1 e pc
noncomputable def cmpKn (s : S) (e : SE) : AV :=
  match knownB2 e s.pc with
  | some b => .bool b
  | none => .opq .bool e
noncomputable def isNatE (e : SE) : Bool :=
  match e with
  | .int _ n => (match n with | .ofNat _ => true | .negSucc _ => false)
  | _ => false
noncomputable def lenBd (pc : List Fact) (e : SE) : Option Nat :=
  match (bdsOf (.a1 .len e) .i64 pc (some 0, none)).2 with
  | some m => some m.toNat
  | none => none
noncomputable def lenUp (pc : List Fact) : SE → Option Nat
  | .str s => some s.length
  | .a2 o x y => (match o with
    | .bin op => (match op with
      | .add => (match lenUp pc x with
        | some a => (match lenUp pc y with
          | some b => some (Nat.add a b)
          | none => none)
        | none => none)
      | _ => lenBd pc (.a2 o x y))
    | _ => lenBd pc (.a2 o x y))
  | .a3 o x y z => (match o with
    | .sub => lenUp pc x
    | _ => lenBd pc (.a3 o x y z))
  | e => lenBd pc e
noncomputable def fewCat (pc : List Fact) (x y : SE) : Bool :=
  match lenUp pc x with
  | some a => (match lenUp pc y with
    | some b => Nat.ble (Nat.add a b) 1099511627776
    | none => false)
  | none => false
noncomputable def isIntN (e : SE) (n : Nat) : Bool :=
  match e with
  | .int _ m => (match m with
    | .ofNat q => Nat.beq q n
    | .negSucc _ => false)
  | _ => false
noncomputable def shl4 (e : SE) : Option SE :=
  match e with
  | .a2 o x y => match o with
    | .bin op => match op with
      | .shl => match isIntN y 4 with
        | true => some x
        | false => none
      | _ => none
    | _ => none
  | _ => none
noncomputable def packOf (e : SE) : Option (SE × Nat) :=
  match e with
  | .a2 o x y => match o with
    | .bin op => match op with
      | .or => match y with
        | .int k c => match k with
          | .u64 => match c with
            | .ofNat n => match Nat.blt n 16 with
              | true => match shl4 x with
                | some z => some (z, n)
                | none => none
              | false => none
            | .negSucc _ => none
          | _ => none
        | _ => none
      | _ => none
    | _ => none
  | _ => none
noncomputable def convOf (k : IntKind) (e : SE) : Option SE :=
  match e with
  | .a1 o x => match o with
    | .conv q => match ikEq q k with
      | true => some x
      | false => none
    | _ => none
  | _ => none
noncomputable def simpB (op : BinOp) (x y : SE) (pc : List Fact) : Option AV :=
  match op with
  | .and => match packOf x with
    | some (_, c) => match y with
      | .int k n => match k with
        | .u64 => (match n with
          | .ofNat m => (match Nat.beq m 15 with
            | true => some (.int .u64 (.ofNat c))
            | false => none)
          | .negSucc _ => none)
        | _ => none
      | _ => none
    | none => none
  | .shr => match convOf .i64 x with
    | some z => match packOf z with
      | some (u, _) => match convOf .u64 u with
        | some n => match isIntN y 4 && inR n (-576460752303423488) 576460752303423487 pc with
          | true => some (.opq (.int .i64) n)
          | false => none
        | none => none
      | none => none
    | none => none
  | _ => none
noncomputable def symInt0 (s : S) (op : BinOp) (k k' : IntKind) (x y : SE) : R AV :=
  match isShift op with
  | true => (match isNatE y with
    | true => .ok (.opq (.int k) (.a2 (.bin op) x y))
    | false => .must (.rel "neg" false pNeg [y] :: s.pc) (.ok (.opq (.int k) (.a2 (.bin op) x y))))
  | false => match decide (k = k') with
    | false => .bad "bin kinds"
    | true => match isCmp op with
      | true => .ok (cmpKn s (.a2 (.bin op) x y))
      | false => match op with
        | .quo => .must (.rel "zero" false pZero [y] :: s.pc) (.ok (.opq (.int k) (.a2 (.bin op) x y)))
        | .rem => .must (.rel "zero" false pZero [y] :: s.pc) (.ok (.opq (.int k) (.a2 (.bin op) x y)))
        | op => .ok (.opq (.int k) (.a2 (.bin op) x y))
noncomputable def symInt (s : S) (op : BinOp) (k k' : IntKind) (x y : SE) : R AV :=
  match simpB op x y s.pc with
  | some v => .ok v
  | none => symInt0 s op k k' x y
noncomputable def symStr (s : S) (op : BinOp) (x y : SE) : R AV :=
  match isCmp op with
  | true => .ok (cmpKn s (.a2 (.bin op) x y))
  | false => match op with
    | .add => (match fewCat s.pc x y with
      | true => .ok (.opq .str (.a2 (.bin op) x y))
      | false => .must (.rel "long" false pLong [x, y] :: s.pc) (.ok (.opq .str (.a2 (.bin op) x y))))
    | _ => .bad "strOp"
noncomputable def evSym (s : S) (op : BinOp) (x y : AV) : R AV :=
  match sKd x with
  | .int k => match sKd y with
    | .int k' => symInt s op k k' (seOf x) (seOf y)
    | _ => .bad "bin: unknown"
  | .str => match sKd y with
    | .str => symStr s op (seOf x) (seOf y)
    | _ => .bad "bin: unknown"
  | _ => .bad "bin: unknown"
noncomputable def evBin (C : Ctx) (s : S) (op : BinOp) (t : TypeId) (c : Bool) (x y : AV) : R AV :=
  match x with
  | .opq _ _ => evSym s op x y
  | x => match y with
    | .opq _ _ => evSym s op x y
    | y => evBin0 C s op t c x y
noncomputable def knownIn (i n : SE) : List Fact → Bool
  | [] => false
  | f :: l => match f with
    | .inr a b => match seEq a i && seEq b n with
      | true => true
      | false => knownIn i n l
    | _ => knownIn i n l
noncomputable def hasIn (i : SE) : List Fact → Bool
  | [] => false
  | f :: l => match f with
    | .inr a _ => match seEq a i with
      | true => true
      | false => hasIn i l
    | _ => hasIn i l
noncomputable def lssOf (e : SE) : Option (SE × SE) :=
  match e with
  | .a2 o x y => match o with
    | .bin op => match op with
      | .lss => some (x, y)
      | _ => none
    | _ => none
  | _ => none
noncomputable def sameKn (m n : SE) (pc : List Fact) : Bool :=
  match seEq m n with
  | true => true
  | false => match knownEq m n pc with
    | some b => b
    | none => false
noncomputable def hasUp (i n : SE) (pc : List Fact) : List Fact → Bool
  | [] => false
  | f :: l => match f with
    | .tr e => match lssOf e with
      | some (a, m) => match seEq a i && sameKn m n pc with
        | true => true
        | false => hasUp i n pc l
      | none => hasUp i n pc l
    | _ => hasUp i n pc l
noncomputable def lowOk (i : SE) (pc : List Fact) : Bool :=
  match hasIn i pc with
  | true => true
  | false => match isNatE i with
    | true => true
    | false => geO (bdsOf i .i64 pc (none, none)).1 0
noncomputable def knownIn2 (i n : SE) (pc : List Fact) : Bool :=
  match knownIn i n pc with
  | true => true
  | false => hasUp i n pc pc && lowOk i pc
noncomputable def geOne (e : SE) (n : Nat) (pc : List Fact) : Bool :=
  match knownB2 (.a2 (.bin .geq) e (.int .i64 (.ofNat n))) pc with
  | some b => b
  | none => false
noncomputable def lenFew (x : SE) (pc : List Fact) : Bool := leO (bdsOf (.a1 .len x) .i64 pc (some 0, none)).2 4611686018427387904
noncomputable def addOf (e : SE) : Option (SE × Nat) :=
  match e with
  | .a2 o x y => match o with
    | .bin op => match op with
      | .add => match y with
        | .int k n => match k with
          | .i64 => match n with
            | .ofNat m => some (x, m)
            | .negSucc _ => none
          | _ => none
        | _ => none
      | _ => none
    | _ => none
  | _ => none
noncomputable def notGeq (i n : SE) : List Fact → Bool
  | [] => false
  | f :: l => match f with
    | .fl e => match seEq e (.a2 (.bin .geq) i n) with
      | true => true
      | false => notGeq i n l
    | _ => notGeq i n l
noncomputable def farUp (i : SE) (d : Nat) (n : SE) : List Fact → Bool
  | [] => false
  | f :: l => match f with
    | .fl e => (match e with
      | .a2 o a m => match o with
        | .bin op => match op with
          | .gtr => match addOf a with
            | some (j, c) => (match seEq j i && (seEq m n && (Nat.blt d c && Nat.blt c 1000000)) with
              | true => true
              | false => farUp i d n l)
            | none => farUp i d n l
          | _ => farUp i d n l
        | _ => farUp i d n l
      | _ => farUp i d n l)
    | _ => farUp i d n l
noncomputable def belowLen (x : SE) (pc : List Fact) (i : SE) : Bool :=
  hasUp i (.a1 .len x) pc pc || (notGeq i (.a1 .len x) pc || (lenFew x pc && farUp i 0 (.a1 .len x) pc))
noncomputable def inLen (x : SE) (pc : List Fact) : Nat → SE → Bool
  | 0 => fun l => knownIn2 l (.a2 (.bin .add) (.a1 .len x) (.int .i64 (.ofNat 1))) pc
  | f + 1 => fun l => match knownIn2 l (.a2 (.bin .add) (.a1 .len x) (.int .i64 (.ofNat 1))) pc with
    | true => true
    | false => match addOf l with
      | some (y, n) => inLen x pc f y && (((Nat.beq n 1 && belowLen x pc y) || geOne (.a1 .len (.a3 .sub x y (.a1 .len x))) n pc) && lenFew x pc)
      | none => false
noncomputable def idxIn (x : SE) (pc : List Fact) (i : SE) : Bool :=
  match knownIn2 i (.a1 .len x) pc with
  | true => true
  | false => match inLen x pc 4 i && belowLen x pc i with
    | true => true
    | false => match addOf i with
      | some (j, d) => lenFew x pc && (inLen x pc 4 j && farUp j d (.a1 .len x) pc)
      | none => false
noncomputable def isZeroE (e : SE) : Bool :=
  match e with
  | .int _ n => (match n with
    | .ofNat m => Nat.beq m 0
    | .negSucc _ => false)
  | _ => false
noncomputable def hasLe (l h : SE) : List Fact → Bool
  | [] => false
  | f :: r => match f with
    | .tr e => match seEq e (.a2 (.bin .leq) l h) with
      | true => true
      | false => hasLe l h r
    | _ => hasLe l h r
noncomputable def leK (x l h : SE) (pc : List Fact) : Bool :=
  match hasLe l h pc with
  | true => true
  | false => match addOf h with
    | some (y, n) => hasLe l y pc && (Nat.blt n 1000000 && (lenFew x pc && inLen x pc 4 y))
    | none => false
noncomputable def cutIn1 (x : SE) (pc : List Fact) (l h : SE) : Bool :=
  match addOf h with
  | some (y, n) => Nat.beq n 1 && (seEq y l && (lenFew x pc && idxIn x pc l))
  | none => false
noncomputable def cutIn2 (x : SE) (pc : List Fact) (l h : SE) : Bool :=
  match h with
  | .int k n => (match k with
    | .i64 => match n with
      | .ofNat m => isZeroE l && geOne (.a1 .len x) m pc
      | .negSucc _ => false
    | _ => false)
  | _ => inLen x pc 4 h && (isZeroE l || (leK x l h pc && inLen x pc 4 l))
noncomputable def isByteE (e : SE) : Bool :=
  match e with
  | .a2 o x _ => (match o with
    | .at sz k => Nat.beq sz 1 && (Nat.beq k 0 && (match x with
      | .a1 p _ => (match p with | .sb => true | _ => false)
      | _ => false))
    | .idx => true
    | _ => false)
  | _ => false
noncomputable def nib (e : SE) : Bool :=
  match e with
  | .a2 o x y => (match o with
    | .bin op => (match op with
      | .shr => isByteE x && (match y with
        | .int _ n => (match n with | .ofNat m => Nat.beq m 4 | .negSucc _ => false)
        | _ => false)
      | .and => (match y with
        | .int k n => ikEq k .u8 && (match n with | .ofNat m => Nat.beq m 15 | .negSucc _ => false)
        | _ => false)
      | _ => false)
    | _ => false)
  | _ => false
noncomputable def cutNib (x l h : SE) : Bool :=
  match x with
  | .str s => Nat.beq s.length 16 && (nib l && seEq h (.a2 (.bin .add) l (.int .u8 (.ofNat 1))))
  | _ => false
noncomputable def cutIn (x : SE) (pc : List Fact) (l h : SE) : Bool :=
  match seEq h (.a1 .len x) with
  | true => inLen x pc 4 l
  | false => match cutIn1 x pc l h with
    | true => true
    | false => match cutIn2 x pc l h with
      | true => true
      | false => cutNib x l h
noncomputable def S.add (s : S) (f : Fact) : S := ⟨s.h, s.next, f :: s.pc⟩
noncomputable def forkB0 (s : S) (e : SE) : R (Bool × S) :=
  match knownB1 e s.pc with
  | some b => .ok (b, s)
  | none => .ask 2 fun i => match i with
    | 0 => .ok (true, s.add (.tr e))
    | _ + 1 => .ok (false, s.add (.fl e))
noncomputable def forkB (s : S) (e : SE) : R (Bool × S) :=
  match notOf e with
  | some x => (forkB0 s x).bind fun r => .ok (!r.1, r.2)
  | none => forkB0 s e
noncomputable def evUn (op : UnOp) (x : AV) : R AV :=
  match op, x with
  | .neg, .opq (.int k) e => .ok (.opq (.int k) (.a1 (.un .neg) e))
  | .not, .opq .bool e => .ok (.opq .bool (.a1 (.un .not) e))
  | .neg, .int k n => intOp .sub k 0 n
  | .xor, .int k n => intOp .xor k (if k.signed then -1 else k.max) n
  | .not, .bool b => .ok (.bool (!b))
  | _, _ => .bad "unary"
noncomputable def bytesAV : List UInt8 → List AV
  | [] => []
  | b :: l => .int .u8 (.ofNat b.toNat) :: bytesAV l
noncomputable def avBytes : List AV → R (List UInt8)
  | [] => .ok []
  | v :: l =>
    match v with
    | .int .u8 (.ofNat n) => do let r ← avBytes l; .ok (UInt8.ofNat n :: r)
    | _ => .bad "byte expected"
noncomputable def oCells (s : S) (b : Nat) (e : TypeId) : Nat :=
  match s.h.get b with
  | some (.cells el _ k _ _ _ _) => match Nat.beq el e with
    | true => k
    | false => 0
  | _ => 0
noncomputable def oOk (s : S) (b : Nat) (e : TypeId) (n sz sz' : Nat) : Bool := Nat.beq sz sz' && !Nat.beq sz 0 && Nat.ble (Nat.mul n sz) (oCells s b e)
noncomputable def srcCells (s : S) (e : TypeId) (sz : Nat) : AV → R (Nat × List AV)
  | .nilsl => .ok (0, [])
  | .str l => match Nat.beq sz 1 with
    | true => .ok (l.length, bytesAV l)
    | false => .bad "src of a string"
  | .sl b off len _ => do let c ← rdCells s b off (Nat.mul len sz); .ok (len, c)
  | .osl b _ e0 len sz' => do
    guardB (oOk s b e (Nat.add e0 len) sz sz') "src size"
    let c ← rdCells s b (Nat.mul e0 sz) (Nat.mul len sz)
    .ok (len, c)
  | _ => .bad "srcCells"
noncomputable def appNew (s : S) (e : TypeId) (sz bytes n : Nat) (all : List AV) : R Nx := do
  guardB (Nat.ble (Nat.mul n bytes) 68719476736 && Nat.ble n 68719476736 && Nat.beq all.length (Nat.mul n sz)) "append: too long"
  .ok (.val (.osl s.next 0 0 n sz) (s.new (cellsBlk e all)))
noncomputable def appSl (s : S) (e : TypeId) (sz bytes b off len cap n : Nat) (new : List AV) : R Nx :=
  match Nat.ble (Nat.add len n) cap with
  | true => do
    let s' ← wrCells s b (Nat.add off (Nat.mul len sz)) new
    .ok (.val (.sl b off (Nat.add len n) cap) s')
  | false => do
    let old ← rdCells s b off (Nat.mul len sz)
    appNew s e sz bytes (Nat.add len n) (old ++ new)
noncomputable def appIn (s : S) (sz b pre e0 len n : Nat) (new : List AV) : R Nx := do
  let s' ← wrCells s b (Nat.mul (Nat.add e0 len) sz) new
  .ok (.val (.osl b pre e0 (Nat.add len n) sz) s')
noncomputable def appOut (s : S) (e : TypeId) (sz bytes b e0 len n : Nat) (cs : Tr AV) (k fz : Nat) (anc : List Nat) (sg : Bool) (new : List AV) : R Nx := do
  guardB (Nat.beq (Nat.mul (Nat.add e0 len) sz) k && Nat.ble (Nat.mul (Nat.add len n) bytes) 68719476736 && Nat.ble (Nat.add len n) 68719476736 && Nat.beq new.length (Nat.mul n sz) && Nat.ble fz k && allOne new) "append: between"
  let old ← getCells cs (Nat.mul len sz) (Nat.mul e0 sz)
  .ok (.val (.osl s.next 0 0 (Nat.add len n) sz)
    ⟨(s.h.set b (.cells e cs k fz anc true sg)).set s.next
      (.cells e (Tr.ofList (old ++ new)) (Nat.mul (Nat.add len n) sz) (Nat.sub fz (Nat.mul e0 sz)) (b :: anc) false sg),
      Nat.add s.next 1, s.pc⟩)
noncomputable def appOsl (s : S) (e : TypeId) (sz bytes b pre e0 len n : Nat) (new : List AV) : R Nx :=
  match s.h.get b with
  | some (.cells el cs k fz anc false sg) => do
    guardB (Nat.beq el e) "append type"
    match Nat.ble (Nat.mul (Nat.add (Nat.add e0 len) n) sz) k with
    | true => appIn s sz b pre e0 len n new
    | false => appOut s e sz bytes b e0 len n cs k fz anc sg new
  | _ => .bad "append: base"
noncomputable def appVec (C : Ctx) (s : S) (e : TypeId) (sz bytes b : Nat) (n : SE) (cnt : Nat) (new : List AV) : R Nx :=
  match s.h.get b with
  | some (.vec el x) => do
    guardB (Nat.beq el e && (Nat.beq sz (cellKds C e).length && (Nat.beq new.length (Nat.mul cnt sz) && (!Nat.beq cnt 0 && (!Nat.beq sz 0 && allOne new))))) "append: cells"
    match snAll C (cellKds C e) new (cellKds C e) (.a2 (.tk sz) x n) with
    | some y => .must (.rel "grow" false (pGrow sz bytes cnt) [x, n] :: s.pc) (.ok (.val (.vsl s.next (.a2 (.bin .add) n (.int .i64 (.ofNat cnt))) (.var (Nat.add s.next 1))) ⟨(s.h.del b).set s.next (.vec e y), Nat.add (Nat.add s.next 1) 1, .inr n (.a2 (.bin .add) n (.int .i64 (.ofNat cnt))) :: s.pc⟩))
    | none => .bad "append: a cell"
  | _ => .bad "append: no cells"
noncomputable def appendTo (C : Ctx) (s : S) (e : TypeId) (sz bytes : Nat) (base : AV) (n : Nat) (new : List AV) : R Nx :=
  match base with
  | .nilsl =>
    match n with
    | 0 => .ok (.val .nilsl s)
    | m + 1 => appNew s e sz bytes (m + 1) new
  | .sl b off len cap => appSl s e sz bytes b off len cap n new
  | .osl b pre e0 len sz' =>
    match n with
    | 0 => do
      guardB (oOk s b e (Nat.add e0 len) sz sz') "append: nothing"
      .ok (.val (.osl b pre e0 len sz') s)
    | m + 1 =>
      match Nat.beq sz sz' with
      | true => appOsl s e sz bytes b pre e0 len (m + 1) new
      | false => .bad "append: size"
  | .vsl b k _ => appVec C s e sz bytes b k n new
  | _ => .bad "append: base"
noncomputable def optIdx : Option AV → R (Option Nat)
  | none => .ok none
  | some v => do let n ← asIdx v; .ok (some n)
noncomputable def inB (a h m c : Nat) (hi mx : Option Nat) : Bool := Nat.ble m c && Nat.ble h m && Nat.ble a h && (hi.isSome || mx.isNone)
noncomputable def movedTo (m a off sz : Nat) : Nat :=
  match Nat.beq m a with
  | true => off
  | false => Nat.add off (Nat.mul a sz)
noncomputable def sliceSl (C : Ctx) (e : TypeId) (b off len cap : Nat) (lo hi mx : Option Nat) : R AV := do
  let i ← ti C e
  guardB (inB (lo.getD 0) (hi.getD len) (mx.getD cap) cap hi mx) "slice bounds"
  .ok (.sl b (movedTo (mx.getD cap) (lo.getD 0) off i.size) (Nat.sub (hi.getD len) (lo.getD 0)) (Nat.sub (mx.getD cap) (lo.getD 0)))
noncomputable def sliceOsl (C : Ctx) (s : S) (e : TypeId) (b pre e0 len sz : Nat) (lo hi mx : Option Nat) : R AV := do
  let i ← ti C e
  match mx with
  | none => do
    guardB (oOk s b e (Nat.add e0 (hi.getD len)) i.size sz && Nat.ble (lo.getD 0) (hi.getD len)) "oslice bounds"
    match lo.getD 0 with
    | 0 => .ok (.osl b pre e0 (hi.getD len) sz)
    | n + 1 => .ok (.osl b e0 (Nat.add e0 (n + 1)) (Nat.sub (hi.getD len) (n + 1)) sz)
  | some m => do
    guardB (oOk s b e (Nat.add e0 len) i.size sz && Nat.ble m len && !Nat.beq len 0 && inB (lo.getD 0) (hi.getD len) m m hi (some m)) "oslice bounds"
    .ok (.sl b (movedTo m (lo.getD 0) (Nat.mul e0 sz) sz) (Nat.sub (hi.getD len) (lo.getD 0)) (Nat.sub m (lo.getD 0)))
noncomputable def isIntK : Kd → Bool
  | .int _ => true
  | _ => false
noncomputable def isOpq : AV → Bool
  | .opq _ _ => true
  | _ => false
noncomputable def symBound (b : Option AV) (d : SE) : R SE :=
  match b with
  | none => .ok d
  | some v => match isIntK (sKd v) with
    | true => .ok (seOf v)
    | false => .bad "slice: unknown bound"
noncomputable def isOpqO : Option AV → Bool
  | some v => isOpq v
  | none => false
noncomputable def symCut (s : S) (d : TypeDesc) (x : AV) (lo hi mx : Option AV) : R AV :=
  match d with
  | .string => match sKd x with
    | .str => match mx with
      | some _ => .bad "slice: of a string"
      | none => do
        let l ← symBound lo (.int .i64 0)
        let h ← symBound hi (.a1 .len (seOf x))
        match cutIn (seOf x) s.pc l h with
        | true => .ok (.opq .str (.a3 .sub (seOf x) l h))
        | false => .must (.rel "cut" false pCut [l, h, .a1 .len (seOf x)] :: s.pc) (.ok (.opq .str (.a3 .sub (seOf x) l h)))
    | _ => .bad "slice: unknown"
  | _ => .bad "slice: unknown"
noncomputable def sliceOp (C : Ctx) (s : S) (t : TypeId) (x : AV) (lo hi mx : Option AV) : R AV :=
 match isOpq x || isOpqO lo || isOpqO hi with
 | true => do
  let d ← under C t
  symCut s d x lo hi mx
 | false => do
  let lo ← optIdx lo
  let hi ← optIdx hi
  let mx ← optIdx mx
  let d ← under C t
  match x with
  | .str l =>
    match d with
    | .string => do
      guardB (inB (lo.getD 0) (hi.getD l.length) l.length l.length hi mx && mx.isNone) "slice string bounds"
      .ok (.str ((l.take (hi.getD l.length)).drop (lo.getD 0)))
    | _ => .bad "slice string type"
  | .nilsl =>
    match d with
    | .slice e => do
      let _ ← ti C e
      guardB (inB (lo.getD 0) (hi.getD 0) (mx.getD 0) 0 hi mx) "slice nil bounds"
      .ok .nilsl
    | _ => .bad "slice nil type"
  | .sl b off len cap =>
    match d with
    | .slice e => sliceSl C e b off len cap lo hi mx
    | _ => .bad "slice type"
  | .osl b pre e0 len sz =>
    match d with
    | .slice e => sliceOsl C s e b pre e0 len sz lo hi mx
    | _ => .bad "oslice"
  | .ptr b off =>
    match d with
    | .array n e => sliceSl C e b off n n lo hi mx
    | _ => .bad "slice of a pointer"
  | _ => .bad "slice of?"
noncomputable def zeroLow : Option AV → Bool
  | none => true
  | some v => match v with
    | .int _ n => decide (n = 0)
    | _ => false
noncomputable def cutVec (C : Ctx) (s : S) (d : TypeDesc) (b : Nat) (n c : SE) (lo hi mx : Option AV) : R AV :=
  match d with
  | .slice e => do
    let _ ← ti C e
    match mx with
    | some _ => .bad "slice: a capacity"
    | none => match zeroLow lo with
      | false => .bad "slice: low"
      | true => match hi with
        | none => .ok (.vsl b n c)
        | some h => match kdEq (sKd h) (.int .i64) with
          | false => .bad "slice: high"
          | true => .must (.rel "cut" false pCut [.int .i64 0, seOf h, n] :: s.pc) (.ok (.vsl b (seOf h) c))
  | _ => .bad "slice: of what"
noncomputable def sliceAny (C : Ctx) (s : S) (t : TypeId) (x : AV) (lo hi mx : Option AV) : R AV :=
  match x with
  | .vsl b n c => do
    let d ← under C t
    cutVec C s d b n c lo hi mx
  | x => sliceOp C s t x lo hi mx
noncomputable def keyEq (a b : AV) : Bool :=
  match a, b with
  | .int _ x, .int _ y => decide (x = y)
  | .str x, .str y => bytesEq x y
  | .bool x, .bool y => x == y
  | _, _ => false
noncomputable def keyOf (d : TypeDesc) (v : AV) : Bool :=
  match d, v with
  | .int k, .int k' _ => decide (k = k')
  | .string, .str _ => true
  | .bool, .bool _ => true
  | _, _ => false
noncomputable def headOf (d : TypeDesc) : List ME → Bool
  | [] => true
  | e :: _ => keyOf d e.k
noncomputable def findK (k : AV) : List ME → Option ME
  | [] => none
  | e :: es => match keyEq k e.k with
    | true => some e
    | false => findK k es
noncomputable def setK (k v : AV) : List ME → List ME
  | [] => []
  | e :: es => match keyEq k e.k with
    | true => ⟨k, v, e.born⟩ :: es
    | false => e :: setK k v es
noncomputable def delK (k : AV) : List ME → List ME
  | [] => []
  | e :: es => match keyEq k e.k with
    | true => es
    | false => e :: delK k es
noncomputable def setB (b : Nat) (v : AV) : List ME → List ME
  | [] => []
  | e :: es => match Nat.beq e.born b with
    | true => ⟨e.k, v, e.born⟩ :: es
    | false => e :: setB b v es
noncomputable def findB (b : Nat) : List ME → Option ME
  | [] => none
  | e :: es => match Nat.beq e.born b with
    | true => some e
    | false => findB b es
noncomputable def hasN (k : Nat) : List Nat → Bool
  | [] => false
  | e :: es => match Nat.beq k e with
    | true => true
    | false => hasN k es
noncomputable def leftOf (seen : List Nat) : List ME → List ME
  | [] => []
  | e :: es => match hasN e.born seen with
    | true => leftOf seen es
    | false => e :: leftOf seen es
noncomputable def getMap (s : S) : AV → R (List ME × Nat)
  | .nilmap => .ok ([], 0)
  | .mapv r => match s.h.get r with
    | some (.map es c) => .ok (es, c)
    | _ => .bad "no map"
  | _ => .bad "map expected"
noncomputable def keyFits (d : TypeDesc) (k : AV) (es : List ME) : Bool := keyOf d k && headOf d es
noncomputable def convStr (C : Ctx) (s : S) (e : TypeId) (l : List UInt8) : R Nx := do
  let i ← ti C e
  match i.desc with
  | .int .u8 => do
    guardB (Nat.beq i.size 1) "conv: byte size"
    .ok (.val (.osl s.next 0 0 l.length 1) (s.new (.cells e (Tr.ofList (bytesAV l)) l.length 0 [] false true)))
  | _ => .bad "conv string to slice"
noncomputable def convBytes (C : Ctx) (s : S) (e : TypeId) (x : AV) : R Nx := do
  let i ← ti C e
  match i.desc with
  | .int .u8 => do
    guardB (Nat.beq i.size 1) "conv: byte size"
    let r ← srcCells s e i.size x
    let bs ← avBytes r.2
    .ok (.val (.str bs) s)
  | _ => .bad "conv slice to string"
def pShort (sz : Nat) (l : List Dt) : Prop := ∃ ks es n, l = [.ls ks es, .val (.int .i64 n)] ∧ ¬ (0 ≤ n ∧ n.toNat * sz ≤ es.length)
noncomputable def convSym (C : Ctx) (s : S) (e : TypeId) (x : SE) : R Nx := do
  let i ← ti C e
  match i.desc with
  | .int .u8 => do
    guardB (Nat.beq i.size 1 && kdsEq (cellKds C e) [.int .u8]) "conv: byte size"
    .ok (.val (.vsl s.next (.a1 .len x) (.var (Nat.add s.next 1))) ⟨s.h.set s.next (.vec e (.a1 .sb x)), Nat.add (Nat.add s.next 1) 1, s.pc⟩)
  | _ => .bad "conv string to slice"
noncomputable def convVec (C : Ctx) (s : S) (e : TypeId) (b : Nat) (n : SE) : R Nx := do
  let i ← ti C e
  match i.desc with
  | .int .u8 =>
    match s.h.get b with
    | some (.vec el v) => do
      guardB (Nat.beq i.size 1 && (Nat.beq el e && kdsEq (cellKds C e) [.int .u8])) "conv: bytes"
      .must (.rel "short" false (pShort 1) [v, n] :: s.pc) (.ok (.val (.opq .str (.a1 .bs (.a2 (.tk 1) v n))) s))
    | _ => .bad "conv: no bytes"
  | _ => .bad "conv slice to string"
noncomputable def placeOk (C : Ctx) (s : S) (b off : Nat) (u : TypeId) : Bool :=
  match s.h.get b with
  | some (.cells el _ n _ _ _ _) => Nat.blt off n && rowAt C.P (fun t => sameLayout C.P C.P.depth t u) C.P.depth el (n / C.P.cellsOf el) off 1
  | _ => false
noncomputable def convPtr (C : Ctx) (s : S) (u : TypeId) (x : AV) : R Nx :=
  match x with
  | .nilp => .ok (.val .nilp s)
  | .ptr b off => do
    let i ← ti C u
    guardB (!Nat.beq i.size 0 && placeOk C s b off u) "conv: place"
    .ok (.val (.ptr b off) s)
  | _ => .bad "conv: pointer"
noncomputable def evConv (C : Ctx) (s : S) (src dst : TypeId) (x : AV) : R Nx := do
  let a ← under C src
  let b ← under C dst
  match b with
  | .int k => match x with
    | .int _ n => .ok (.val (.int k (k.wrap n)) s)
    | .opq q e => match q with
      | .int q => .ok (.val (match ikEq k .i64 && (ikEq q .i64 && inR e (-4611686018427387904) 4611686018427387904 s.pc) with
        | true => .opq (.int .i64) e
        | false => .opq (.int k) (.a1 (.conv k) e)) s)
      | _ => .bad "conv: unknown"
    | _ => .bad "conv to int"
  | .string => match x with
    | .opq q e => match q with
      | .str => .ok (.val (.opq .str e) s)
      | _ => .bad "conv: unknown"
    | .str l => .ok (.val (.str l) s)
    | .int _ n => .ok (.val (.str (Utf8.encode n).data.toList) s)
    | .vsl b n _ => match a with
      | .slice e => convVec C s e b n
      | _ => .bad "conv to string"
    | x => match a with
      | .slice e => convBytes C s e x
      | _ => .bad "conv to string"
  | .slice e => match x with
    | .str l => convStr C s e l
    | .opq q ex => match q with
      | .str => convSym C s e ex
      | _ => .bad "conv to slice"
    | _ => .bad "conv to slice"
  | .unsafePointer => match a with
    | .pointer u => convPtr C s u x
    | _ => .bad "conv to a plain pointer"
  | .pointer u => match a with
    | .unsafePointer => convPtr C s u x
    | _ => .bad "conv to pointer"
  | _ => .bad "conv"
noncomputable def taHolds (ok : Bool) (v : AV) : R AV :=
  match ok with
  | true => .ok (.tup [v, .bool true])
  | false => .ok v
noncomputable def taFails (C : Ctx) (asserted : TypeId) (ok : Bool) : R AV :=
  match ok with
  | true => do
    let v ← zeroVal C asserted
    .ok (.tup [v, .bool false])
  | false => .bad "type assertion fails"
noncomputable def taIface (C : Ctx) (want : Array (String × TypeId)) (t : TypeId) (x : AV) (asserted : TypeId) (ok : Bool) : R AV :=
  match C.P.types[t]? with
  | some info => match Instr.missingMethod want info.methods with
    | none => taHolds ok x
    | some _ => taFails C asserted ok
  | none => .bad "TA: no type"
noncomputable def evTA (C : Ctx) (x : AV) (asserted : TypeId) (ok : Bool) : R AV := do
  let d ← under C asserted
  match x with
  | .nili => taFails C asserted ok
  | .iface t v => match d with
    | .interface want => taIface C want t (.iface t v) asserted ok
    | _ => match Nat.beq t asserted with
      | true => taHolds ok v
      | false => taFails C asserted ok
  | _ => .bad "TA"
noncomputable def findByte (c : Nat) : List UInt8 → Nat → Int
  | [] => fun _ => -1
  | b :: l => fun i => match Nat.beq b.toNat c with | true => .ofNat i | false => findByte c l (Nat.add i 1)
noncomputable def countByte (c : Nat) : List UInt8 → Nat
  | [] => 0
  | b :: l => match Nat.beq b.toNat c with | true => Nat.add (countByte c l) 1 | false => countByte c l
noncomputable def bytesOf (x : AV) : R (List UInt8) :=
  match x with
  | .str l => .ok l
  | _ => .bad "bytesOf"
noncomputable def junks : Nat → List AV
  | 0 => []
  | n + 1 => .junk :: junks n
noncomputable def extOf (f : FuncId) : List (FuncId × Ext) → Option Ext
  | [] => none
  | x :: l => match Nat.beq x.1 f with
    | true => some x.2
    | false => extOf f l
noncomputable def cmpOf (a b : List UInt8) : Int :=
  match bytesLt a b with
  | true => -1
  | false => match bytesEq a b with
    | true => 0
    | false => 1
noncomputable def extNoZero (C : Ctx) (s : S) (fn : Func) (n : Nat) : R Nx := do
  let t ← R.ofOpt "MakeNoZero type" (fn.resultTypes[0]?)
  match ← under C t with
  | .slice e => do
    let i ← ti C e
    guardB (Nat.ble n 1099511627776 && Nat.beq i.size 1) "MakeNoZero: too long"
    .ok (.val (.osl s.next 0 0 n 1) (s.new (.cells e (Tr.ofList (junks n)) n 0 [] false false)))
  | _ => .bad "MakeNoZero slice"
noncomputable def asByteA : AV → R Nat
  | .int k (.ofNat c) => match k with
    | .u8 => match Nat.blt c 256 with
      | true => .ok c
      | false => .bad "byte"
    | _ => .bad "byte"
  | _ => .bad "byte"
noncomputable def preB : List UInt8 → List UInt8 → Bool
  | [] => fun _ => true
  | b :: l => fun m => match m with
    | [] => false
    | c :: m => match Nat.beq b.toNat c.toNat with
      | true => preB l m
      | false => false
noncomputable def indexL (sub : List UInt8) : List UInt8 → Nat → Int
  | [] => fun k => match sub with
    | [] => .ofNat k
    | _ :: _ => -1
  | b :: l => fun k => match preB sub (b :: l) with
    | true => .ofNat k
    | false => indexL sub l (Nat.add k 1)
noncomputable def externCall (C : Ctx) (s : S) (fn : Func) (e : Ext) (args : List AV) : R Nx :=
  match e with
  | .noEscape => match args with
    | [x] => .ok (.val x s)
    | _ => .bad "NoEscape"
  | .indexByte => match args with
    | [x, c] => do let l ← bytesOf x; let c ← asByteA c; .ok (.val (.int .i64 (findByte c l 0)) s)
    | _ => .bad "IndexByte"
  | .count => match args with
    | [x, c] => do let l ← bytesOf x; let c ← asByteA c; .ok (.val (.int .i64 (.ofNat (countByte c l))) s)
    | _ => .bad "Count"
  | .cmp => match args with
    | [x, y] => do let a ← bytesOf x; let b ← bytesOf y; .ok (.val (.int .i64 (cmpOf a b)) s)
    | _ => .bad "cmpstring"
  | .clone => match args with
    | [x] => match x with
      | .iface t m => match m with
        | .mapv r => do
          let m ← getMap s (.mapv r)
          .ok (.val (.iface t (.mapv s.next)) (s.new (.map m.1 m.2)))
        | _ => .bad "clone"
      | _ => .bad "clone"
    | _ => .bad "clone"
  | .noZero => match args with
    | [x] => match x with
      | .int k (.ofNat n) => match k with
        | .i64 => extNoZero C s fn n
        | _ => .bad "MakeNoZero"
      | _ => .bad "MakeNoZero"
    | _ => .bad "MakeNoZero"
  | .index _ => .bad "index: no extern"
  | .closed _ _ => .bad "closed: no extern"
  | .as _ => .bad "as: no extern"
noncomputable def callF (C : Ctx) (s : S) (f : FuncId) (args : List AV) : R Nx :=
  match C.F.get f with
  | none => .bad "no function"
  | some fn =>
    match fn.body with
    | some _ => .ok (.enter f args s)
    | none => match extOf f C.X with
      | some e => externCall C s fn e args
      | none => .bad ("extern " ++ fn.name)
noncomputable def methodRow (P : Program) (t : TypeId) (name : String) : Option (FuncId × Bool) :=
  match P.types[t]? with
  | none => none
  | some i =>
    match i.methods.find? (·.name == name) with
    | none => none
    | some m => match m.path.isEmpty with | true => m.func | false => none
noncomputable def callM (C : Ctx) (s : S) (recv : AV) (name : String) (args : List AV) : R Nx :=
  match recv with
  | .iface t v =>
    match methodRow C.P t name with
    | none => .bad ("method " ++ name)
    | some (f, ptrRecv) => do
      match ← under C t, ptrRecv with
      | .pointer _, true => callF C s f (v :: args)
      | .pointer _, false => .bad "method: value receiver behind a pointer"
      | _, false => callF C s f (v :: args)
      | _, true => .bad "method: pointer receiver of a value"
  | _ => .bad "callM"
noncomputable def invokeF (C : Ctx) (s : S) (f : AV) (args : List AV) : R Nx :=
  match f with
  | .fn g first cap =>
    match g with
    | .func g => callF C s g (first ++ args ++ cap)
    | .method name =>
      match first ++ args with
      | r :: rest => callM C s r name rest
      | [] => .bad "method value"
    | .methodOf t name =>
      match first ++ args with
      | r :: rest => do
        match ← under C t with
        | .interface _ => callM C s r name rest
        | _ => callM C s (.iface t r) name rest
      | [] => .bad "method expr"
    | _ => .bad "call: via"
  | .yield l => .ok (.round l args s)
  | _ => .bad "call of what"
noncomputable def minL (k : IntKind) : List AV → Int → R AV
  | [] => fun m => .ok (.int k m)
  | v :: l => fun m => match v with
    | .int _ n => minL k l (match decide (n < m) with | true => n | false => m)
    | _ => .bad "min"
noncomputable def maxL (k : IntKind) : List AV → Int → R AV
  | [] => fun m => .ok (.int k m)
  | v :: l => fun m => match v with
    | .int _ n => maxL k l (match decide (m < n) with | true => n | false => m)
    | _ => .bad "max"
noncomputable def isIntD : TypeDesc → Bool
  | .int _ => true
  | _ => false
noncomputable def appSrc (s : S) (e : TypeId) (sz bytes : Nat) (z : List AV) (x : AV) : Bool → R (Nat × List AV)
  | true => do
    let n ← asIdx x
    guardB (Nat.ble (Nat.mul n bytes) 68719476736 && Nat.ble n 68719476736) "append of make: too long"
    .ok (n, repl z n)
  | false => srcCells s e sz x
noncomputable def strSym (int : Bool) (x base : AV) : Option (Nat × SE × SE) :=
  match int with
  | true => none
  | false => match x with
  | .opq k e => match kdEq k .str with
    | true => match base with
      | .vsl b n _ => some (b, n, e)
      | _ => none
    | false => none
  | _ => none
def pGrowS (bytes : Nat) (l : List Dt) : Prop := ∃ ks es n s, l = [.ls ks es, .val (.int .i64 n), .val (.string s)] ∧ ¬ (0 ≤ n ∧ n.toNat ≤ es.length ∧ (n.toNat + s.size) * bytes ≤ 68719476736 ∧ n.toNat + s.size ≤ 68719476736)
noncomputable def appStr (C : Ctx) (s : S) (e : TypeId) (sz bytes b : Nat) (n x : SE) : R Nx :=
  match s.h.get b with
  | some (.vec el v) => do
    guardB (Nat.beq el e && (Nat.beq sz 1 && kdsEq (cellKds C e) [.int .u8])) "append: bytes"
    .must (.rel "grows" false (pGrowS bytes) [v, n, x] :: s.pc) (.ok (.val (.vsl s.next (.a2 (.bin .add) n (.a1 .len x)) (.var (Nat.add s.next 1))) ⟨(s.h.del b).set s.next (.vec e (.a2 .cat (.a2 (.tk 1) v n) (.a1 .sb x))), Nat.add (Nat.add s.next 1) 1, s.pc⟩))
  | _ => .bad "append: no cells"
noncomputable def biAppend (C : Ctx) (s : S) (argTypes : List TypeId) (args : List AV) : R Nx :=
  match args, argTypes with
  | [base, x], st :: xt :: _ => do
    match ← under C st with
    | .slice e => do
      let i ← ti C e
      let xd ← under C xt
      guardB (!Nat.beq i.size 0) "append: of nothing"
      let z ← zeroOf C e
      guardB (Nat.beq z.length i.size) "append: zero"
      match strSym (isIntD xd) x base with
      | some (b, n, ex) => appStr C s e i.size i.bytes b n ex
      | none => do
        let r ← appSrc s e i.size i.bytes z x (isIntD xd)
        appendTo C s e i.size i.bytes base r.1 r.2
    | _ => .bad "append slice"
  | _, _ => .bad "append"
noncomputable def lenOfA (C : Ctx) (s : S) (d : TypeDesc) (x : AV) : R Nat :=
  match d with
  | .string => match x with
    | .str l => .ok l.length
    | _ => .bad "len of a string"
  | .array n _ => .ok n
  | .pointer a => do
    match ← under C a with
    | .array n _ => .ok n
    | _ => .bad "len of a pointer"
  | .slice _ => match x with
    | .nilsl => .ok 0
    | .sl _ _ n _ => .ok n
    | .osl _ _ _ n _ => .ok n
    | _ => .bad "len of a slice"
  | .map _ _ => do
    let m ← getMap s x
    .ok m.1.length
  | _ => .bad "len"
noncomputable def mkOpq (k : Kd) (e : SE) : AV :=
  match e with
  | .int q n => match k with
    | .int r => match ikEq r q with
      | true => .int q n
      | false => .opq k e
    | .any => .int q n
    | _ => .opq k e
  | .bool b => match k with
    | .bool => .bool b
    | .any => .bool b
    | _ => .opq k e
  | .str s => match k with
    | .str => .str s
    | .any => .str s
    | _ => .opq k e
  | _ => .opq k e
noncomputable def lenSym (d : TypeDesc) (x : AV) : Option AV :=
  match d with
  | .string => match x with
    | .opq k e => match k with
      | .str => some (.opq (.int .i64) (.a1 .len e))
      | _ => none
    | _ => none
  | .slice _ => match x with
    | .opq k e => match k with
      | .sl _ => some (.opq (.int .i64) (.a1 .len e))
      | _ => none
    | .vsl _ n _ => some (mkOpq (.int .i64) n)
    | _ => none
  | _ => none
noncomputable def biLen (C : Ctx) (s : S) (argTypes : List TypeId) (args : List AV) : R Nx :=
  match args, argTypes with
  | [x], t :: _ => do
    let d ← under C t
    match lenSym d x with
    | some v => .ok (.val v s)
    | none => do
      let n ← lenOfA C s d x
      .ok (.val (.int .i64 (.ofNat n)) s)
  | _, _ => .bad "len"
noncomputable def capOfA (x : AV) : R Nat :=
  match x with
  | .nilsl => .ok 0
  | .sl _ _ _ c => .ok c
  | _ => .bad "cap: open"
noncomputable def biCap (C : Ctx) (s : S) (argTypes : List TypeId) (args : List AV) : R Nx :=
  match args, argTypes with
  | [x], t :: _ => do
    match ← under C t with
    | .slice _ => do
      let n ← capOfA x
      .ok (.val (.int .i64 (.ofNat n)) s)
    | _ => .bad "cap"
  | _, _ => .bad "cap"
noncomputable def copyTo (s : S) (e : TypeId) (sz : Nat) (r : Nat × List AV) (dst : AV) : R Nx :=
  match dst with
  | .nilsl => .ok (.val (.int .i64 0) s)
  | .sl b off len _ => do
    let s' ← wrCells s b off (r.2.take (Nat.mul (Nat.min r.1 len) sz))
    .ok (.val (.int .i64 (.ofNat (Nat.min r.1 len))) s')
  | .osl b _ e0 len sz' => do
    guardB (oOk s b e (Nat.add e0 len) sz sz') "copy size"
    let s' ← wrCells s b (Nat.mul e0 sz') (r.2.take (Nat.mul (Nat.min r.1 len) sz))
    .ok (.val (.int .i64 (.ofNat (Nat.min r.1 len))) s')
  | _ => .bad "copy dst"
noncomputable def biCopy (C : Ctx) (s : S) (argTypes : List TypeId) (args : List AV) : R Nx :=
  match args, argTypes with
  | [dst, src], st :: _ => do
    match ← under C st with
    | .slice e => do
      let i ← ti C e
      let r ← srcCells s e i.size src
      copyTo s e i.size r dst
    | _ => .bad "copy slice"
  | _, _ => .bad "copy"
noncomputable def biDelete (C : Ctx) (s : S) (argTypes : List TypeId) (args : List AV) : R Nx :=
  match args, argTypes with
  | [x, k], t :: _ => do
    match ← under C t with
    | .map kt _ => do
      let d ← under C kt
      let m ← getMap s x
      guardB (keyFits d k m.1) "delete: key"
      match x with
      | .mapv r => .ok (.val (.tup []) ⟨s.h.set r (.map (delK k m.1) m.2), s.next, s.pc⟩)
      | _ => .ok (.val (.tup []) s)
    | _ => .bad "delete"
  | _, _ => .bad "delete"
noncomputable def clearIn (C : Ctx) (s : S) (e : TypeId) (x : AV) : R Nx :=
  match x with
  | .sl b off len _ => do
    let z ← zeroOf C e
    let s' ← wrCells s b off (repl z len)
    .ok (.val (.tup []) s')
  | .osl b _ e0 len sz => do
    let i ← ti C e
    guardB (oOk s b e (Nat.add e0 len) i.size sz) "clear size"
    let z ← zeroOf C e
    let s' ← wrCells s b (Nat.mul e0 sz) (repl z len)
    .ok (.val (.tup []) s')
  | _ => .bad "clear slice"
noncomputable def biClear (C : Ctx) (s : S) (argTypes : List TypeId) (args : List AV) : R Nx :=
  match args, argTypes with
  | [x], st :: _ => do
    match ← under C st with
    | .slice e => match x with
      | .nilsl => .ok (.val (.tup []) s)
      | x => clearIn C s e x
    | .map _ _ => match x with
      | .nilmap => .ok (.val (.tup []) s)
      | .mapv r => do
        let m ← getMap s (.mapv r)
        .ok (.val (.tup []) ⟨s.h.set r (.map [] m.2), s.next, s.pc⟩)
      | _ => .bad "clear map"
    | _ => .bad "clear"
  | _, _ => .bad "clear"
noncomputable def strAt (C : Ctx) (s : S) (u : TypeId) (b off n : Nat) : R Nx :=
  match s.h.get b with
  | some (.cells e cs k fz anc false false) => do
    guardB (Nat.ble (Nat.add off n) k && rowAt C.P (fun t => sameLayout C.P C.P.depth t u) C.P.depth e (k / C.P.cellsOf e) off n && Nat.ble n 1099511627776) "String of memory: beyond"
    let l ← getCells cs n off
    let bs ← avBytes l
    .ok (.val (.str bs) ⟨s.h.set b (.cells e cs k (Nat.max fz (Nat.add off n)) anc false false), s.next, s.pc⟩)
  | _ => .bad "String of memory: block"
def pStrV (l : List Dt) : Prop := ∃ ks es n, l = [.ls ks es, .val (.int .i64 n)] ∧ ¬ (0 < n ∧ n.toNat ≤ es.length ∧ n ≤ 1099511627776)
def pEmpty (l : List Dt) : Prop := ∃ k n, l = [.val (.int k n)] ∧ ¬ 0 < n
noncomputable def strVec (C : Ctx) (s : S) (u : TypeId) (b : Nat) (n : SE) : R Nx :=
  match s.h.get b with
  | some (.vec el v) => do
    let i ← ti C el
    guardB (Nat.beq i.size 1 && (kdsEq (cellKds C el) [.int .u8] && sameLayout C.P C.P.depth el u)) "String of bytes"
    .must (.rel "strv" false pStrV [v, n] :: s.pc) (.ok (.val (.opq .str (.a1 .bs (.a2 (.tk 1) v n))) ⟨((s.h.del b).set s.next (.cells el .nil 0 0 [] true false)).del s.next, Nat.add s.next 1, s.pc⟩))
  | _ => .bad "String of bytes: block"
noncomputable def vecPtr (p n : AV) : Option (Nat × SE) :=
  match p with
  | .vptr b i _ k => match k with
    | 0 => match seEq i (.int .i64 (.ofNat 0)) with
      | true => match n with
        | .opq q e => match kdEq q (.int .i64) with
          | true => some (b, e)
          | false => none
        | _ => none
      | false => none
    | _ + 1 => none
  | _ => none
noncomputable def biString (C : Ctx) (s : S) (argTypes : List TypeId) (args : List AV) : R Nx :=
  match args, argTypes with
  | [p, n], t :: _ => match vecPtr p n with
   | some (b, e) => do
    match ← under C t with
    | .pointer u => strVec C s u b e
    | _ => .bad "String of bytes: type"
   | none => do
    let n ← asIdx n
    match n with
    | 0 => match p with
      | .nilp => .ok (.val (.str []) s)
      | .ptr _ _ => .ok (.val (.str []) s)
      | _ => .bad "String of memory"
    | m + 1 => match p with
      | .ptr b off => do
        match ← under C t with
        | .pointer u => strAt C s u b off (m + 1)
        | _ => .bad "String of memory: type"
      | _ => .bad "String of memory"
  | _, _ => .bad "String of memory"
noncomputable def biSliceData (C : Ctx) (s : S) (argTypes : List TypeId) (args : List AV) : R Nx :=
  match args with
  | [.nilsl] => .ok (.val .nilp s)
  | [.sl b off _ c] => match Nat.beq c 0 with | true => .bad "SliceData cap 0" | false => .ok (.val (.ptr b off) s)
  | [.osl b _ e0 len sz] =>
    match argTypes, len with
    | st :: _, _ + 1 => do
      match ← under C st with
      | .slice e => do
        let i ← ti C e
        guardB (oOk s b e (Nat.add e0 len) i.size sz) "SliceData open"
        .ok (.val (.ptr b (Nat.mul e0 sz)) s)
      | _ => .bad "SliceData type"
    | _, _ => .bad "SliceData"
  | [.vsl b n _] => .must (.rel "some" false pEmpty [n] :: s.pc) (.ok (.val (.vptr b (.int .i64 (.ofNat 0)) 1 0) s))
  | _ => .bad "SliceData"
noncomputable def biMin (s : S) (args : List AV) : R Nx :=
  match args with
  | .int k n :: l => do let v ← minL k l n; .ok (.val v s)
  | _ => .bad "min"
noncomputable def biMax (s : S) (args : List AV) : R Nx :=
  match args with
  | .int k n :: l => do let v ← maxL k l n; .ok (.val v s)
  | _ => .bad "max"
noncomputable def biPanic (s : S) (args : List AV) : R Nx :=
  match args with
  | [.iface t v] => .ok (.pan (.iface t v) s)
  | _ => .bad "panic"
noncomputable def evBuiltin : Builtin → Ctx → S → List TypeId → List AV → R Nx
  | .append => biAppend
  | .len => biLen
  | .cap => biCap
  | .copy => biCopy
  | .delete => biDelete
  | .clear => biClear
  | .min => fun _ s _ => biMin s
  | .max => fun _ s _ => biMax s
  | .recover => fun _ s _ _ => .ok (.recover s)
  | .panic => fun _ s _ => biPanic s
  | .unsafeString => biString
  | .unsafeSliceData => biSliceData
  | _ => fun _ _ _ _ => .bad "builtin"
noncomputable def getPlaces (C : Ctx) : List Field → R (List (Nat × Nat))
  | [] => .ok []
  | f :: fs => do
    let i ← ti C f.type
    let l ← getPlaces C fs
    .ok ((f.offset, i.size) :: l)
noncomputable def evA (C : Ctx) (t : Tr AV) (x : Operand) : R AV :=
  @Operand.rec (fun _ => R AV) (fun d => @Option.rec AV (fun _ => R AV) (.ok (.tup [])) (fun v => noJunk v) (t.get d))
    (fun v => .ok (AV.ofConst v)) (fun g => @Bool.rec (fun _ => R AV) (.bad "global") (.ok (.ptr g 0)) (Nat.blt g C.nG)) (fun f => .ok (.fn (.func f) [] [])) x
noncomputable def evL (C : Ctx) (t : Tr AV) : List Operand → R (List AV)
  | [] => .ok []
  | x :: l => do let v ← evA C t x; let r ← evL C t l; .ok (v :: r)
noncomputable def evO (C : Ctx) (t : Tr AV) : Option Operand → R (Option AV)
  | none => .ok none
  | some x => do let v ← evA C t x; .ok (some v)
noncomputable def evPs (C : Ctx) (t : Tr AV) : List (Nat × Operand) → R (List (Nat × AV))
  | [] => .ok []
  | (i, x) :: l => do let v ← evA C t x; let r ← evPs C t l; .ok ((i, v) :: r)
abbrev OpF := TypeId → Ctx → Tr AV → S → R Nx
noncomputable def opMove (x : Operand) : OpF := fun _ C t s => do let v ← evA C t x; .ok (.val v s)
noncomputable def opPick (c a b : Operand) : OpF := fun _ C t s => do
  let c ← evA C t c
  match c with
  | .bool true => do let v ← evA C t a; .ok (.val v s)
  | .bool false => do let v ← evA C t b; .ok (.val v s)
  | .opq k e => match knownB2 e s.pc with
    | some x => match x with
      | true => do let v ← evA C t a; .ok (.val v s)
      | false => do let v ← evA C t b; .ok (.val v s)
    | none => do
      let u ← evA C t a
      let v ← evA C t b
      match kdEq k .bool && kdEq (sKd u) (sKd v) && !kdEq (sKd u) .any with
      | true => .ok (.val (.opq (sKd u) (.a3 .ite e (seOf u) (seOf v))) s)
      | false => .bad "pick: unknown"
  | _ => .bad "pick"
noncomputable def opAlloc (e : TypeId) : OpF := fun _ C _ s => do
  let i ← ti C e
  let z ← R.ofOpt "no zero" i.zero
  guardB (Nat.beq z.length i.size) "alloc: size"
  .ok (.val (.ptr s.next 0) (s.new (cellsBlk e z)))
noncomputable def opBox (e : TypeId) (x : Operand) : OpF := fun _ C t s => do
  let v ← evA C t x
  let c ← v.cells
  let i ← ti C e
  guardB (Nat.beq c.length i.size) "box: size"
  .ok (.val (.ptr s.next 0) (s.new (cellsBlk e c)))
noncomputable def opBuild (ty : TypeId) (parts : Array (Nat × Operand)) : OpF := fun _ C t s => do
  let zero ← zeroOf C ty
  let ps ← evPs C t parts.toList
  match ← under C ty with
  | .struct fs => do
    let pl ← getPlaces C fs.toList
    let cs ← fillParts (nth pl) ps zero
    .ok (.val (.agg cs) s)
  | .array _ e => do
    let i ← ti C e
    let cs ← fillParts (fun k => some (Nat.mul k i.size, i.size)) ps zero
    .ok (.val (.agg cs) s)
  | _ => .bad "build"
noncomputable def zeroFor (C : Ctx) (e : TypeId) (n sz : Nat) : R (List AV) :=
  match Nat.beq n 0 with
  | true => .ok []
  | false => do
    let z ← zeroOf C e
    guardB (Nat.beq z.length sz) "zero size"
    .ok z
noncomputable def opBuildSlice (ty : TypeId) (len : Nat) (parts : Array (Nat × Operand)) : OpF := fun _ C t s => do
  match ← under C ty with
  | .slice e => do
    let i ← ti C e
    guardB (Nat.ble (Nat.mul len i.size) 16777216) "buildSlice: too long"
    let zero ← zeroFor C e (Nat.mul len i.size) i.size
    let ps ← evPs C t parts.toList
    let cs ← fillParts (fun k => some (Nat.mul k i.size, i.size)) ps (repl zero len)
    .ok (.val (.sl s.next 0 len len) (s.new (cellsBlk e cs)))
  | _ => .bad "buildSlice"
noncomputable def opLoad (ty : TypeId) (a : Operand) : OpF := fun _ C t s => do let p ← evA C t a; let v ← loadAt C s ty p; .ok (.val v s)
noncomputable def opStore (ty : TypeId) (a x : Operand) : OpF := fun _ C t s => do let p ← evA C t a; let v ← evA C t x; let s' ← storeAt C s ty p v; .ok (.skip s')
noncomputable def opNilCheck (x : Operand) : OpF := fun _ C t s => do
  let v ← evA C t x
  match v with
  | .opq k _ => match k with
    | .ptr _ _ => .ok (.val v s)
    | _ => .bad "nilCheck: unknown"
  | .ptr _ _ => .ok (.val v s)
  | .vptr _ _ _ _ => .ok (.val v s)
  | .sl .. => .ok (.val v s)
  | .osl .. => .ok (.val v s)
  | .iface _ _ => .ok (.val v s)
  | .yield _ => .ok (.val v s)
  | .fn g _ _ => match g with
    | .func _ => .ok (.val v s)
    | _ => .bad "nilCheck of a method value"
  | _ => .bad "nil dereference"
noncomputable def opBin (op : BinOp) (ty : TypeId) (x y : Operand) : OpF := fun _ C t s => do
  let a ← evA C t x; let b ← evA C t y; let v ← evBin C s op ty (isConstO x || isConstO y) a b; .ok (.val v s)
noncomputable def opUn (op : UnOp) (x : Operand) : OpF := fun _ C t s => do let a ← evA C t x; let v ← evUn op a; .ok (.val v s)
noncomputable def opConv (src dst : TypeId) (x : Operand) : OpF := fun _ C t s => do let a ← evA C t x; evConv C s src dst a
noncomputable def notIface : TypeDesc → R Unit
  | .interface _ => .bad "makeInterface"
  | _ => .ok ()
noncomputable def opIface (ty : TypeId) (x : Operand) : OpF := fun _ C t s => do
  let d ← under C ty
  notIface d
  let v ← evA C t x
  .ok (.val (.iface ty v) s)
noncomputable def opFunc (fn : Fn) (first cap : Array Operand) : OpF := fun _ C t s => do
  guardB (noYield fn) "makeFunc"
  let a ← evL C t first.toList
  let b ← evL C t cap.toList
  .ok (.val (.fn fn a b) s)
noncomputable def opMap (ty : TypeId) (r : Option Operand) : OpF := fun _ C t s =>
  match r with
  | none => .ok (.val (.mapv s.next) (s.new (.map [] 0)))
  | some x => do
    match ← under C ty with
    | .map _ _ => do
      let v ← evA C t x
      let _ ← asInt v
      .ok (.val (.mapv s.next) (s.new (.map [] 0)))
    | _ => .bad "makeMap"
def pMake (bytes : Nat) (l : List Dt) : Prop := ∃ k n, l = [.val (.int k n)] ∧ ¬ (0 ≤ n ∧ n.toNat * bytes ≤ 1099511627776 ∧ n ≤ 1099511627776)
noncomputable def szsOf (C : Ctx) : List Kd → List Nat
  | [] => []
  | k :: l => (match k with | .sl t => (cellKds C t).length | _ => 0) :: szsOf C l
noncomputable def zFit (v : AV) (k : Kd) : Bool :=
  match k with
  | .int q => match v with | .int q' n => ikEq q q' && decide (n = 0) | _ => false
  | .bool => match v with | .bool b => !b | _ => false
  | .str => match v with | .str l => (match l with | [] => true | _ :: _ => false) | _ => false
  | .sl _ => match v with | .nilsl => true | _ => false
  | _ => false
noncomputable def zFits : List AV → List Kd → Bool
  | [] => fun ks => match ks with | [] => true | _ :: _ => false
  | v :: l => fun ks => match ks with
    | [] => false
    | k :: ks => zFit v k && zFits l ks
noncomputable def makeVec (C : Ctx) (s : S) (e : TypeId) (l c : AV) : R Nx := do
  let i ← ti C e
  let z ← zeroOf C e
  guardB (kdEq (sKd l) (.int .i64) && (kdEq (sKd c) (.int .i64) && (seEq (seOf l) (seOf c) && (Nat.beq i.size z.length && (!Nat.beq i.size 0 && zFits z (cellKds C e)))))) "makeSlice: unknown"
  .must (.rel "make" false (pMake i.bytes) [seOf l] :: s.pc) (.ok (.val (.vsl s.next (seOf l) (seOf l)) (s.new (.vec e (.a1 (.zs (cellKds C e) (szsOf C (cellKds C e))) (seOf l))))))
noncomputable def opMakeSlice (ty : TypeId) (l c : Operand) : OpF := fun _ C t s => do
  match ← under C ty with
  | .slice e => do
    let l ← evA C t l
    let c ← evA C t c
    match isOpq l with
    | true => makeVec C s e l c
    | false => do
    let l ← asIdx l
    let c ← asIdx c
    let i ← ti C e
    guardB (Nat.ble l c && Nat.ble (Nat.mul c i.bytes) 1099511627776 && Nat.ble c 1099511627776) "makeSlice bounds"
    let z ← zeroFor C e (Nat.mul c i.size) i.size
    .ok (.val (.sl s.next 0 l c) (s.new (cellsBlk e (repl z c))))
  | _ => .bad "makeSlice"
noncomputable def opSlice (ty : TypeId) (x : Operand) (lo hi mx : Option Operand) : OpF := fun _ C t s => do
  let v ← evA C t x
  let a ← evO C t lo
  let b ← evO C t hi
  let c ← evO C t mx
  let r ← sliceAny C s ty v a b c
  .ok (.val r s)
noncomputable def opFieldAddr (ty : TypeId) (x : Operand) (f : Nat) : OpF := fun _ C t s => do
  match ← under C ty with
  | .struct fs => do
    let fd ← R.ofOpt "fieldAddr field" (nth fs.toList f)
    let i ← ti C fd.type
    guardB (!Nat.beq i.size 0) "fieldAddr: size 0"
    let v ← evA C t x
    match v with
    | .ptr b off => .ok (.val (.ptr b (Nat.add off fd.offset)) s)
    | .vptr b i sz k => .ok (.val (.vptr b i sz (Nat.add k fd.offset)) s)
    | .opq k e => match k with
      | .ptr u j => .ok (.val (.opq (.ptr u (Nat.add j fd.offset)) (.a1 (.off fd.offset) e)) s)
      | _ => .bad "fieldAddr: unknown"
    | _ => .bad "fieldAddr ptr"
  | _ => .bad "fieldAddr"
noncomputable def opField (ty : TypeId) (x : Operand) (f : Nat) : OpF := fun _ C t s => do
  match ← under C ty with
  | .struct fs => do
    let fd ← R.ofOpt "field" (nth fs.toList f)
    let v ← evA C t x
    match v with
    | .agg cs => do let r ← partOf C fd.type cs fd.offset; .ok (.val r s)
    | _ => .bad "field agg"
  | _ => .bad "field"
noncomputable def symElem (C : Ctx) (s : S) (d : TypeDesc) (t : TypeId) (e : SE) (i : AV) : R AV := do
  guardB (isIntK (sKd i)) "indexAddr: unknown index"
  match d with
  | .slice et => do
    let q ← ti C et
    guardB (Nat.beq et t && !Nat.beq q.size 0 && Nat.beq q.size (cellKds C t).length) "indexAddr: unknown element"
    match knownIn2 (seOf i) (.a1 .len e) s.pc with
    | true => .ok (.opq (.ptr t 0) (.a2 .el e (seOf i)))
    | false => .must (.rel "out" false pOut [seOf i, .a1 .len e] :: s.pc) (.ok (.opq (.ptr t 0) (.a2 .el e (seOf i))))
  | _ => .bad "indexAddr: unknown"
noncomputable def vecElem (C : Ctx) (s : S) (d : TypeDesc) (b : Nat) (n : SE) (i : AV) : R AV := do
  guardB (isIntK (sKd i)) "indexAddr: unknown index"
  match d with
  | .slice et => do
    let q ← ti C et
    match knownIn2 (seOf i) n s.pc with
    | true => .ok (.vptr b (seOf i) q.size 0)
    | false => .must (.rel "out" false pOut [seOf i, n] :: s.pc) (.ok (.vptr b (seOf i) q.size 0))
  | _ => .bad "indexAddr: unknown"
noncomputable def idxCands (i : SE) (k : IntKind) (pc : List Fact) : List Nat → List Nat
  | [] => []
  | j :: l => match knownB2 (.a2 (.bin .eql) i (.int k (.ofNat j))) pc with
    | some false => idxCands i k pc l
    | _ => j :: idxCands i k pc l
noncomputable def upTo : Nat → List Nat
  | 0 => []
  | n + 1 => upTo n ++ [n]
noncomputable def symPtr (C : Ctx) (s : S) (d : TypeDesc) (b off : Nat) (k : IntKind) (i : SE) : R Nx :=
  match d with
  | .array n e => do
    let j ← ti C e
    .must (.rel "out" false pOut [i, .int .i64 (.ofNat n)] :: s.pc) (.ask (idxCands i k s.pc (upTo n)).length fun q => match nth (idxCands i k s.pc (upTo n)) q with
      | some m => .ok (.val (.ptr b (Nat.add off (Nat.mul m j.size))) (s.add (.tr (.a2 (.bin .eql) i (.int k (.ofNat m))))))
      | none => .bad "index: none")
  | _ => .bad "indexAddr ptr"
noncomputable def opIndexAddr (ty : TypeId) (x ix : Operand) : OpF := fun _ C t s => do
  let i0 ← evA C t ix
  let v ← evA C t x
  let d ← under C ty
  match v with
  | .opq k e => match k with
    | .sl u => do
      let r ← symElem C s d u e i0
      .ok (.val r s)
    | _ => .bad "indexAddr: unknown"
  | .vsl b n _ => do
    let r ← vecElem C s d b n i0
    .ok (.val r s)
  | .ptr b off => match isOpq i0 with
    | true => match sKd i0 with
      | .int k => symPtr C s d b off k (seOf i0)
      | _ => .bad "indexAddr: unknown index"
    | false => do
      let i ← asIdx i0
      match d with
       | .array n e => match Nat.blt i n with
         | true => do let e ← ti C e; .ok (.val (.ptr b (Nat.add off (Nat.mul i e.size))) s)
         | false => .bad "index array"
       | _ => .bad "indexAddr ptr"
  | v => do
   let i ← asIdx i0
   match v with
     | .sl b off len _ => match d with
       | .slice e => match Nat.blt i len with
         | true => do let e ← ti C e; .ok (.val (.ptr b (Nat.add off (Nat.mul i e.size))) s)
         | false => .bad "index slice"
       | _ => .bad "indexAddr slice"
     | .osl b _ e0 len sz => match d with
       | .slice et => match Nat.blt i len with
         | true => do
           let e ← ti C et
           guardB (oOk s b et (Nat.add e0 len) e.size sz) "index size"
           .ok (.val (.ptr b (Nat.mul (Nat.add e0 i) sz)) s)
         | false => .bad "index oslice"
       | _ => .bad "indexAddr oslice"
     | _ => .bad "indexAddr"
noncomputable def symByte (s : S) (d : TypeDesc) (v i : AV) : R AV := do
  guardB (isIntK (sKd i)) "index: unknown index"
  match d with
  | .string => match sKd v with
    | .str => match idxIn (seOf v) s.pc (seOf i) with
      | true => .ok (.opq (.int .u8) (.a2 .idx (seOf v) (seOf i)))
      | false => .must (.rel "out" false pOut [seOf i, .a1 .len (seOf v)] :: s.pc) (.ok (.opq (.int .u8) (.a2 .idx (seOf v) (seOf i))))
    | _ => .bad "index: unknown"
  | _ => .bad "index: unknown"
noncomputable def symAgg (C : Ctx) (s : S) (d : TypeDesc) (cs : List AV) (k : IntKind) (i : SE) : R Nx :=
  match d with
  | .array n e => do
    let j ← ti C e
    .must (.rel "out" false pOut [i, .int .i64 (.ofNat n)] :: s.pc) (.ask (idxCands i k s.pc (upTo n)).length fun q => match nth (idxCands i k s.pc (upTo n)) q with
      | some m => do let r ← partOf C e cs (Nat.mul m j.size); .ok (.val r (s.add (.tr (.a2 (.bin .eql) i (.int k (.ofNat m))))))
      | none => .bad "index: none")
  | _ => .bad "index agg type"
noncomputable def opIndex (ty : TypeId) (x ix : Operand) : OpF := fun _ C t s => do
  let i0 ← evA C t ix
  let v ← evA C t x
  match isOpq i0 || isOpq v with
  | true => do
    let d ← under C ty
    match v with
    | .agg cs => match sKd i0 with
      | .int k => symAgg C s d cs k (seOf i0)
      | _ => .bad "index: unknown index"
    | v => do
    let r ← symByte s d v i0
    .ok (.val r s)
  | false => do
  let i ← asIdx i0
  match v with
  | .str l => do
    match ← under C ty with
    | .string => match nth l i with
      | some b => .ok (.val (.int .u8 (.ofNat b.toNat)) s)
      | none => .bad "index string"
    | _ => .bad "index string type"
  | .agg cs => do
    match ← under C ty with
    | .array n e => match Nat.blt i n with
      | true => do let j ← ti C e; let r ← partOf C e cs (Nat.mul i j.size); .ok (.val r s)
      | false => .bad "index agg"
    | _ => .bad "index agg type"
  | _ => .bad "index"
noncomputable def withOk (ok b : Bool) (v : AV) : AV :=
  match ok with
  | true => .tup [v, .bool b]
  | false => v
noncomputable def findSym (s : S) (e : SE) : List ME → R (Option ME × S)
  | [] => .ok (none, s)
  | x :: l => do
    let r ← forkB s (.a2 (.bin .eql) e (seOf x.k))
    match r.1 with
    | true => .ok (some x, r.2)
    | false => findSym r.2 e l
noncomputable def keyConst (d : TypeDesc) : List ME → Bool
  | [] => true
  | x :: l => keyOf d x.k && keyConst d l
noncomputable def symKey (d : TypeDesc) (k : AV) (es : List ME) : Option SE :=
  match d with
  | .string => match k with
    | .opq kd e => match kd with
      | .str => match keyConst d es with
        | true => some e
        | false => none
      | _ => none
    | _ => none
  | .int q => match k with
    | .opq kd e => match kd with
      | .int q' => match ikEq q q' && keyConst d es with
        | true => some e
        | false => none
      | _ => none
    | _ => none
  | _ => none
noncomputable def opLookup (ty : TypeId) (x k : Operand) (ok : Bool) : OpF := fun _ C t s => do
  match ← under C ty with
  | .map kt e => do
    let d ← under C kt
    let m ← evA C t x
    let m ← getMap s m
    let k ← evA C t k
    match symKey d k m.1 with
    | some se => do
      let r ← findSym s se m.1
      match r.1 with
      | some e => .ok (.val (withOk ok true e.v) r.2)
      | none => do
        let v ← zeroVal C e
        .ok (.val (withOk ok false v) r.2)
    | none => do
      guardB (keyFits d k m.1) "lookup: key"
      match findK k m.1 with
      | some e => .ok (.val (withOk ok true e.v) s)
      | none => do
        let v ← zeroVal C e
        .ok (.val (withOk ok false v) s)
  | _ => .bad "lookup"
noncomputable def putK (s : S) (r : Nat) (k v : AV) (m : List ME × Nat) : S :=
  match findK k m.1 with
  | some _ => ⟨s.h.set r (.map (setK k v m.1) m.2), s.next, s.pc⟩
  | none => ⟨s.h.set r (.map (m.1 ++ [⟨k, v, m.2⟩]) (Nat.add m.2 1)), s.next, s.pc⟩
noncomputable def opMapUpdate (ty : TypeId) (m k x : Operand) : OpF := fun _ C t s => do
  match ← under C ty with
  | .map kt _ => do
    let d ← under C kt
    let mv ← evA C t m
    match mv with
    | .mapv r => do
      let m ← getMap s (.mapv r)
      let k ← evA C t k
      let x ← evA C t x
      guardB (keyFits d k m.1) "update: key"
      .ok (.skip (putK s r k x m))
    | _ => .bad "mapUpdate"
  | _ => .bad "mapUpdate"
noncomputable def opMapEntry (ty : TypeId) (m k : Operand) : OpF := fun _ C t s => do
  match ← under C ty with
  | .map kt et => do
    let d ← under C kt
    let mv ← evA C t m
    match mv with
    | .mapv r => do
      let m ← getMap s (.mapv r)
      let k ← evA C t k
      guardB (keyFits d k m.1) "entry: key"
      match findK k m.1 with
      | some e => .ok (.val (.tup [e.v, .int .i64 (.ofNat e.born)]) ⟨s.h.set r (.map (setK k e.v m.1) m.2), s.next, s.pc⟩)
      | none => do
        let v ← zeroVal C et
        .ok (.val (.tup [v, .int .i64 (.ofNat m.2)]) ⟨s.h.set r (.map (m.1 ++ [⟨k, v, m.2⟩]) (Nat.add m.2 1)), s.next, s.pc⟩)
    | _ => .bad "mapEntry"
  | _ => .bad "mapEntry"
noncomputable def opEntryStore (m b x : Operand) : OpF := fun _ C t s => do
  let mv ← evA C t m
  match mv with
  | .mapv r => do
    let m ← getMap s (.mapv r)
    let b ← evA C t b
    let b ← asIdx b
    let x ← evA C t x
    match findB b m.1 with
    | some _ => .ok (.skip ⟨s.h.set r (.map (setB b x m.1) m.2), s.next, s.pc⟩)
    | none => .bad "entryStore"
  | _ => .bad "entryStore"
noncomputable def rangeOf (s : S) (d : TypeDesc) (v : AV) : R Blk :=
  match d with
  | .string => match v with
    | .str l => .ok (.siter l 0)
    | _ => .bad "range"
  | .map _ _ => match v with
    | .nilmap => .ok (.miter none 0 [] 0)
    | .mapv r => do
      let m ← getMap s (.mapv r)
      .ok (.miter (some r) m.2 [] m.2)
    | _ => .bad "range"
  | _ => .bad "range"
noncomputable def opRange (ty : TypeId) (x : Operand) : OpF := fun _ C t s => do
  let v ← evA C t x
  let d ← under C ty
  let b ← rangeOf s d v
  .ok (.val (.ptr s.next 0) (s.new b))
noncomputable def stepIter (s : S) (r m since : Nat) (seen : List Nat) (clock : Nat) (e : ME) : R Nx :=
  .ok (.val (.tup [.bool true, e.k, e.v]) ⟨s.h.set r (.miter (some m) since (e.born :: seen) clock), s.next, s.pc⟩)
noncomputable def stepStr (s : S) (r : Nat) (l : List UInt8) (pos : Nat) (c : Nat × Nat) : R Nx :=
  .ok (.val (.tup [.bool true, .int .i64 (.ofNat pos), .int .i32 (.ofNat c.1)]) ⟨s.h.set r (.siter l (Nat.add pos c.2)), s.next, s.pc⟩)
noncomputable def allBelow (n : Nat) : List ME → Bool
  | [] => true
  | e :: es => match Nat.blt e.born n with
    | true => allBelow n es
    | false => false
noncomputable def nextMap (s : S) (r m since : Nat) (seen : List Nat) (es : List ME) (clock : Nat) : R Nx :=
  match leftOf seen es with
  | [] => .ok (.val (.tup [.bool false]) s)
  | [e] => stepIter s r m since seen clock e
  | l => .ask l.length fun i => match nth l i with
    | some x => stepIter s r m since seen clock x
    | none => .bad "map range"
noncomputable def nextOf (s : S) (r : Nat) (isStr : Bool) : R Nx :=
  match s.h.get r with
  | some (.siter l pos) => match isStr with
    | true => match Nat.blt pos l.length with
      | true => stepStr s r l pos (Utf8.decode ⟨⟨l⟩⟩ pos)
      | false => .ok (.val (.tup [.bool false]) s)
    | false => .bad "next"
  | some (.miter none _ _ _) => match isStr with
    | false => .ok (.val (.tup [.bool false]) s)
    | true => .bad "next"
  | some (.miter (some m) since seen last) => match isStr with
    | false => do
      let mm ← getMap s (.mapv m)
      guardB (allBelow last mm.1 && allBelow since mm.1) "map range: insertion"
      nextMap s r m since seen mm.1 mm.2
    | true => .bad "next"
  | _ => .bad "next"
noncomputable def opNext (it : Operand) (isStr : Bool) : OpF := fun _ C t s => do
  let v ← evA C t it
  match v with
  | .ptr r off => match off with
    | 0 => nextOf s r isStr
    | _ + 1 => .bad "next iter"
  | _ => .bad "next iter"
noncomputable def entryOf (s : S) (r : Nat) : R AV :=
  match s.h.get r with
  | some (.miter (some m) _ (b :: _) last) => do
    let mm ← getMap s (.mapv m)
    guardB (Nat.beq mm.2 last) "entry: insertion"
    match findB b mm.1 with
    | some e => .ok (.tup [e.k, e.v])
    | none => .bad "entry: removed"
  | _ => .bad "entry iter"
noncomputable def opEntry (it : Operand) : OpF := fun _ C t s => do
  let v ← evA C t it
  match v with
  | .ptr r off => match off with
    | 0 => do
      let x ← entryOf s r
      .ok (.val x s)
    | _ + 1 => .bad "entry"
  | _ => .bad "entry"
noncomputable def opTA (x : Operand) (asserted : TypeId) (ok : Bool) : OpF := fun _ C t s => do let v ← evA C t x; let r ← evTA C v asserted ok; .ok (.val r s)
noncomputable def opExtract (x : Operand) (i : Nat) : OpF := fun _ C t s => do
  let v ← evA C t x
  match v with
  | .tup l => do let r ← R.ofOpt "extract" (nth l i); .ok (.val r s)
  | _ => .bad "extract"
noncomputable def opCall (c : Call) : OpF := fun _ C t s => do
  let args ← evL C t c.args.toList
  match c.callee with
  | .builtin b => evBuiltin b C s c.argTypes.toList args
  | .value f => do let f ← evA C t f; invokeF C s f args
  | .invoke r name => do let r ← evA C t r; callM C s r name args
noncomputable def opDefer (c : Call) : OpF := fun _ C t s => do
  let args ← evL C t c.args.toList
  match c.callee with
  | .value f => do
    let f ← evA C t f
    match f with
    | .fn g a b => .ok (.defer { target := .fn g a b, args } s)
    | _ => .bad "defer of what"
  | _ => .bad "defer of a builtin or method"
noncomputable def opPanic (x : Operand) : OpF := fun _ C t s => do
  let v ← evA C t x
  match v with
  | .iface t v => .ok (.pan (.iface t v) s)
  | _ => .bad "panic nil"
noncomputable def opBad : OpF := fun _ _ _ _ => .bad "op"
noncomputable def evOp (o : Op) : OpF :=
  @Op.rec (fun _ => OpF)
    opMove opMove opPick opAlloc opBox opBuild opBuildSlice opMapUpdate opLoad opStore (fun _ => opBad) (fun _ => opBad) opNilCheck
    (fun op t x y _ => opBin op t x y) (fun op _ x => opUn op x) opConv (fun _ _ => opBad) opIface opFunc opMap (fun _ _ => opBad) opMakeSlice opSlice opFieldAddr opField
    opIndexAddr opIndex opLookup opMapUpdate opMapEntry (fun _ m b x => opEntryStore m b x) opRange opNext opEntry (fun x _ a ok => opTA x a ok) opExtract opCall
    (fun _ => opBad) opDefer opPanic (fun _ _ => opBad) (fun _ _ _ => opBad) (fun _ _ => opBad) o
end Go.Proofs.YteibjeicgeophaaGreatDoor.Abs

namespace Go.Proofs.YteibjeicgeophaaGreatDoor.Abs
open Go
inductive PI where
  | act (i : Nat) | ev (i : Nat) | re (i : Nat) | al (i : Nat) | on (i : Nat)
  deriving Inhabited
inductive PS where
  | act (i : Nat) (o : Oper) | ev (i : Nat) (o : Oper) | re (i : Nat) (o : Oper) | al (i : Nat) (o : Oper) | on (i : Nat)
  deriving Inhabited
inductive PK where
  | act | ev | al
  deriving Inhabited
noncomputable def anyEdge (e : Edge) : Bool :=
  match e.ground with
  | .textOnly _ => false
  | .gcOnly _ => false
  | _ => true
noncomputable def bit (i : Nat) : Nat := Nat.shiftLeft 1 i
noncomputable def has (m i : Nat) : Bool := Nat.beq (Nat.land (Nat.shiftRight m i) 1) 1
noncomputable def sub (a b : Nat) : Bool := Nat.beq (Nat.lor a b) b
noncomputable def apartM (a b : Nat) : Bool := Nat.beq (Nat.land a b) 0
noncomputable def nthN : List Nat → Nat → Nat
  | [] => fun _ => 0
  | x :: l => fun i => match i with
    | 0 => x
    | n + 1 => nthN l n
noncomputable def needM (M : List Nat) : List Edge → Nat
  | [] => 0
  | e :: l => match anyEdge e with
    | true => Nat.lor (Nat.lor (bit e.on) (nthN M e.on)) (needM M l)
    | false => needM M l
noncomputable def masksFrom : List Oper → List Nat → List Nat
  | [] => fun acc => acc
  | o :: l => fun acc => masksFrom l (acc ++ [needM acc o.after.toList])
noncomputable def opM : List Operand → Nat
  | [] => 0
  | x :: l => match x with
    | .tmp t => Nat.lor (bit t) (opM l)
    | _ => opM l
noncomputable def dstM (o : Oper) : Nat :=
  match o.dst with
  | some d => bit d
  | none => 0
noncomputable def guardM (ops : List Oper) (o : Oper) : Nat :=
  match o.guard with
  | some (g, _) => match nth ops g with
    | some p => dstM p
    | none => 0
  | none => 0
noncomputable def lookM (ops : List Oper) (o : Oper) : Nat := Nat.lor (opM o.op.operands.toList) (guardM ops o)
noncomputable def evBi : Builtin → Bool
  | .len => true
  | .cap => true
  | .min => true
  | .max => true
  | _ => false
noncomputable def evCls : Op → Bool
  | .move _ => true
  | .pick _ _ _ => true
  | .build _ _ => true
  | .load _ _ => true
  | .nilCheck _ => true
  | .binOp _ _ _ _ _ => true
  | .unOp _ _ _ => true
  | .convert _ _ _ => true
  | .makeInterface _ _ => true
  | .makeFunc _ _ _ => true
  | .slice _ _ _ _ _ => true
  | .fieldAddr _ _ _ => true
  | .field _ _ _ => true
  | .indexAddr _ _ _ => true
  | .index _ _ _ => true
  | .lookup _ _ _ _ => true
  | .entry _ => true
  | .typeAssert _ _ _ _ => true
  | .extract _ _ => true
  | .call c => match c.callee with
    | .builtin b => evBi b
    | _ => false
  | _ => false
noncomputable def alCls : Op → Bool
  | .alloc _ => true
  | .box _ _ => true
  | .buildSlice _ _ _ => true
  | .makeMap _ r => match r with
    | none => true
    | some _ => false
  | _ => false
structure PO where
  i : Nat
  before : Nat
  look : Nat
  dst : Nat
  kind : PK
  deriving Inhabited
noncomputable def rawKind (o : Op) : PK :=
  match evCls o with
  | true => .ev
  | false => match alCls o with
    | true => .al
    | false => .act
noncomputable def posOf (ops : List Oper) (M : List Nat) : List Oper → Nat → List PO
  | [] => fun _ => []
  | o :: l => fun i => ⟨i, nthN M i, lookM ops o, dstM o, rawKind o.op⟩ :: posOf ops M l (Nat.add i 1)
noncomputable def freshIn (x : PO) : List PO → Bool
  | [] => true
  | y :: l => match Nat.beq x.i y.i || apartM x.dst (Nat.lor y.look y.dst) || (has y.before x.i && apartM x.dst y.dst) with
    | true => freshIn x l
    | false => false
noncomputable def settleKinds (all : List PO) : List PO → List PO
  | [] => []
  | x :: l => (match x.kind with
    | .act => x
    | _ => match freshIn x all with
      | true => x
      | false => ⟨x.i, x.before, x.look, x.dst, .act⟩) :: settleKinds all l
noncomputable def actsM : List PO → Nat
  | [] => 0
  | x :: l => match x.kind with
    | .act => Nat.lor (bit x.i) (actsM l)
    | _ => actsM l
noncomputable def phaseOf (acts done : Nat) : List PO → List PI
  | [] => []
  | x :: l => match x.kind with
    | .act => phaseOf acts done l
    | .ev => match Nat.beq (Nat.land x.before acts) done with
      | true => .ev x.i :: phaseOf acts done l
      | false => phaseOf acts done l
    | .al => match Nat.beq (Nat.land x.before acts) done with
      | true => .al x.i :: phaseOf acts done l
      | false => phaseOf acts done l
noncomputable def hasAl : List PI → Bool
  | [] => false
  | x :: l => match x with
    | .al _ => true
    | _ => hasAl l
noncomputable def reOf (acts done ahead : Nat) (anew : Bool) : List PO → List PI
  | [] => []
  | x :: l => match x.kind with
    | .ev => match !has ahead x.i && sub (Nat.land x.before acts) done && (anew || !Nat.beq (Nat.land x.before acts) done) with
      | true => .re x.i :: reOf acts done ahead anew l
      | false => reOf acts done ahead anew l
    | _ => reOf acts done ahead anew l
noncomputable def onOf (before onDone : Nat) : List PO → List PI
  | [] => []
  | x :: l => match x.kind with
    | .al => match has before x.i && !has onDone x.i with
      | true => .on x.i :: onOf before onDone l
      | false => onOf before onDone l
    | _ => onOf before onDone l
noncomputable def phase (all : List PO) (acts done ahead : Nat) (first : Bool) : List PI :=
  let f := phaseOf acts done all
  f ++ (match first && !hasAl f with
    | true => []
    | false => reOf acts done ahead (hasAl f) all)
noncomputable def phases (all : List PO) (acts n : Nat) : List PO → Nat → Nat → List PI
  | [] => fun _done onDone => onOf (Nat.sub (bit n) 1) onDone all
  | x :: l => fun done onDone => match x.kind with
    | .act => onOf x.before onDone all ++ (.act x.i :: (phase all acts (Nat.lor done (bit x.i)) x.before false ++ phases all acts n l (Nat.lor done (bit x.i)) (Nat.lor onDone x.before)))
    | _ => phases all acts n l done onDone
noncomputable def posAll (ops : List Oper) : List PO := posOf ops (masksFrom ops []) ops 0
noncomputable def planWith (n : Nat) (all iter : List PO) : List PI := phase all (actsM all) 0 0 true ++ phases all (actsM all) n iter 0 0
inductive PlanR where
  | one (p : List PI)
  | two (pre : List PI) (x y : Nat) (ra rb : List Nat)
  deriving Inhabited
noncomputable def addBefore (i m : Nat) : List PO → List PO
  | [] => []
  | x :: l => (match Nat.beq x.i i with
    | true => ⟨x.i, Nat.lor x.before m, x.look, x.dst, x.kind⟩
    | false => x) :: addBefore i m l
noncomputable def dropPO (i : Nat) : List PO → List PO
  | [] => []
  | x :: l => match Nat.beq x.i i with
    | true => l
    | false => x :: dropPO i l
noncomputable def actList : List PO → List PO
  | [] => []
  | x :: l => match x.kind with
    | .act => x :: actList l
    | _ => actList l
noncomputable def lastTwo : List PO → Option (PO × PO)
  | [] => none
  | x :: l => match l with
    | [y] => some (x, y)
    | l => lastTwo l
noncomputable def resOnly : List PI → Option (List Nat)
  | [] => none
  | p :: l => match p with
    | .re i => (resOnly l).map fun q => i :: q
    | .act _ => match l with
      | [] => some []
      | _ => none
    | _ => none
noncomputable def splitAct (x : Nat) : List PI → Option (List PI × List PI)
  | [] => none
  | p :: l => match p with
    | .act a => match Nat.beq a x with
      | true => some ([], l)
      | false => (splitAct x l).map fun q => (p :: q.1, q.2)
    | p => (splitAct x l).map fun q => (p :: q.1, q.2)
noncomputable def planTwo (n : Nat) (all : List PO) (x y : PO) : PlanR :=
  let allA := addBefore y.i (Nat.lor (bit x.i) x.before) all
  let allB := addBefore x.i (Nat.lor (bit y.i) y.before) all
  match splitAct x.i (planWith n allA allA), splitAct y.i (planWith n allB (dropPO x.i allB ++ [⟨x.i, Nat.lor x.before (Nat.lor (bit y.i) y.before), x.look, x.dst, x.kind⟩])) with
  | some (pre, ta), some (_, tb) => match resOnly ta, resOnly tb with
    | some ra, some rb => .two pre x.i y.i ra rb
    | _, _ => .one []
  | _, _ => .one []
structure PSt where
  done : Nat
  acts : Nat
  evs : Nat
  als : Nat
  ons : Nat
  stale : Nat
  run : Nat
  last : Nat
  fl : List PO
  deriving Inhabited
noncomputable def apartAct (x : PO) : List PO → Bool
  | [] => true
  | y :: l => match has x.before y.i || (apartM x.dst (Nat.lor y.look y.dst) && apartM x.look y.dst) with
    | true => apartAct x l
    | false => false
noncomputable def apartFl (x : PO) : List PO → Bool
  | [] => true
  | y :: l => match apartM x.dst (Nat.lor y.look y.dst) && (has x.before y.i || apartM x.look y.dst) with
    | true => apartFl x l
    | false => false
noncomputable def okAct (s : PSt) (x : PO) : Bool :=
  !has s.done x.i && sub x.before s.done && sub s.acts x.before && sub s.run x.before && Nat.beq s.stale 0 && apartAct x s.fl
noncomputable def okFl (s : PSt) (x : PO) : Bool :=
  !has s.done x.i && sub x.before s.done && sub s.acts x.before && Nat.beq s.run 0 && apartM x.dst x.look && apartFl x s.fl
noncomputable def minus (a b : Nat) : Nat := Nat.xor (Nat.lor a b) b
noncomputable def poGet : List PO → Nat → Option PO
  | [] => fun _ => none
  | x :: l => fun i => match i with
    | 0 => some x
    | n + 1 => poGet l n
noncomputable def okSteps (all : List PO) (n : Nat) : List PI → PSt → Bool
  | [] => fun s => Nat.beq s.done (Nat.sub (bit n) 1) && Nat.beq s.ons s.als && Nat.beq s.stale 0
  | p :: l => fun s => match p with
    | .act i => match poGet all i with
      | none => false
      | some x => okAct s x && okSteps all n l ⟨Nat.lor s.done (bit i), Nat.lor s.acts (bit i), s.evs, s.als, s.ons, minus s.evs x.before, 0, x.before, s.fl⟩
    | .ev i => match poGet all i with
      | none => false
      | some x => okFl s x && (match x.kind with | .ev => true | _ => false) && okSteps all n l ⟨Nat.lor s.done (bit i), s.acts, Nat.lor s.evs (bit i), s.als, s.ons, s.stale, 0, s.last, x :: s.fl⟩
    | .al i => match poGet all i with
      | none => false
      | some x => okFl s x && (match x.kind with | .al => true | _ => false) && okSteps all n l ⟨Nat.lor s.done (bit i), s.acts, s.evs, Nat.lor s.als (bit i), s.ons, minus s.evs s.last, 0, s.last, x :: s.fl⟩
    | .re i => has s.evs i && Nat.beq s.run 0 && okSteps all n l ⟨s.done, s.acts, s.evs, s.als, s.ons, minus s.stale (bit i), 0, s.last, s.fl⟩
    | .on i => has s.als i && !has s.ons i && Nat.beq s.stale 0 && okSteps all n l ⟨s.done, s.acts, s.evs, s.als, Nat.lor s.ons (bit i), 0, Nat.lor s.run (bit i), s.last, s.fl⟩
noncomputable def below : List PO → Bool
  | [] => true
  | x :: l => match Nat.blt x.before (bit x.i) with
    | true => below l
    | false => false
noncomputable def okPlan (all : List PO) (n : Nat) (plan : List PI) : Bool := okSteps all n plan ⟨0, 0, 0, 0, 0, 0, 0, 0, []⟩
noncomputable def tailOf (x y : Nat) (ra : List Nat) : List PI := .act x :: (ra.map .re ++ [.act y])
noncomputable def okTwo (all : List PO) (n x y : Nat) (ra rb : List Nat) (pre : List PI) : Bool :=
  match poGet all x, poGet all y with
  | some px, some py => !Nat.beq x y && okPlan (addBefore y (Nat.lor (bit x) px.before) all) n (pre ++ tailOf x y ra) && okPlan (addBefore x (Nat.lor (bit y) py.before) all) n (pre ++ tailOf y x rb)
  | _, _ => false
noncomputable def planOk (ops : List Oper) (p : PlanR) : Bool :=
  below (posAll ops) && (match p with
    | .one plan => okPlan (posAll ops) ops.length plan
    | .two pre x y ra rb => okTwo (posAll ops) ops.length x y ra rb pre)
noncomputable def guardsM : List Oper → Nat
  | [] => 0
  | o :: l => match o.guard with
    | some p => Nat.lor (bit p.1) (guardsM l)
    | none => guardsM l
noncomputable def guardActs (m : Nat) : List PO → List PO
  | [] => []
  | x :: l => (match has m x.i with
    | true => ⟨x.i, x.before, x.look, x.dst, .act⟩
    | false => x) :: guardActs m l
noncomputable def planFor (n : Nat) (all : List PO) : PlanR :=
  match lastTwo (actList all) with
  | none => .one (planWith n all all)
  | some (x, y) => match has y.before x.i with
    | true => .one (planWith n all all)
    | false => planTwo n all x y
noncomputable def planOf (ops : List Oper) : PlanR :=
  let all := settleKinds (posAll ops) (posAll ops)
  match guardsM ops with
  | 0 => planFor ops.length all
  | m + 1 => match planOk ops (planFor ops.length (guardActs (m + 1) all)) with
    | true => planFor ops.length (guardActs (m + 1) all)
    | false => planFor ops.length all
noncomputable def linkOne (ops : List Oper) : PI → Option PS
  | .act i => (nth ops i).map (.act i)
  | .ev i => (nth ops i).map (.ev i)
  | .re i => (nth ops i).map (.re i)
  | .al i => (nth ops i).map (.al i)
  | .on i => some (.on i)
noncomputable def link (ops : List Oper) : List PI → List PS
  | [] => []
  | p :: l => match linkOne ops p with
    | some x => x :: link ops l
    | none => link ops l
noncomputable def kindEq (a b : IntKind) : Bool := decide (a = b)
noncomputable def intEq (a b : Int) : Bool := decide (a = b)
noncomputable def rawEq (a b : Value) : Bool :=
  match a, b with
  | .pointer (some x), .pointer (some y) => Nat.beq x.block y.block && Nat.beq x.off y.off && x.spot.isNone && y.spot.isNone
  | _, _ => false
mutual
noncomputable def avEq : AV → AV → Bool
  | .int k n, .int k' n' => kindEq k k' && intEq n n'
  | .bool a, .bool b => a == b
  | .str a, .str b => bytesEq a b
  | .ptr a i, .ptr b j => Nat.beq a b && Nat.beq i j
  | .nilp, .nilp => true
  | .sl b o l c, .sl b' o' l' c' => Nat.beq b b' && Nat.beq o o' && Nat.beq l l' && Nat.beq c c'
  | .osl b p e l z, .osl b' p' e' l' z' => Nat.beq b b' && Nat.beq p p' && Nat.beq e e' && Nat.beq l l' && Nat.beq z z'
  | .nilsl, .nilsl => true
  | .mapv r, .mapv r' => Nat.beq r r'
  | .nilmap, .nilmap => true
  | .fn (.func f) a b, .fn (.func g) a' b' => Nat.beq f g && avEqs a a' && avEqs b b'
  | .yield l, .yield l' => Nat.beq l l'
  | .nilfn, .nilfn => true
  | .iface t v, .iface t' v' => Nat.beq t t' && avEq v v'
  | .nili, .nili => true
  | .opq k i, .opq k' j => kdEq k k' && seEq i j
  | .raw a, .raw b => rawEq a b
  | .agg a, .agg b => avEqs a b
  | .tup a, .tup b => avEqs a b
  | .vsl b n c, .vsl b' n' c' => Nat.beq b b' && (seEq n n' && seEq c c')
  | .vptr b i z k, .vptr b' i' z' k' => Nat.beq b b' && (seEq i i' && (Nat.beq z z' && Nat.beq k k'))
  | _, _ => false
noncomputable def avEqs : List AV → List AV → Bool
  | [], [] => true
  | a :: x, b :: y => avEq a b && avEqs x y
  | _, _ => false
end
noncomputable def nxVal (s : S) : Nx → R AV
  | .val v s' => match Nat.beq s'.next s.next with
    | true => .ok v
    | false => .bad "float: makes a block"
  | _ => .bad "float: no value"
noncomputable def evQ (o : Oper) (C : Ctx) (t : Tr AV) (s : S) : R AV := (evOp o.op o.type C t s).bind (nxVal s)
inductive AK where
  | ptr | sl (n : Nat) | map
  deriving Inhabited
noncomputable def mkA : AK → Nat → AV
  | .ptr => fun id => .ptr id 0
  | .sl n => fun id => .sl id 0 n n
  | .map => fun id => .mapv id
noncomputable def alAlloc (e : TypeId) (C : Ctx) : R (AK × Blk) := do
  let i ← ti C e
  let z ← R.ofOpt "no zero" i.zero
  guardB (Nat.beq z.length i.size) "alloc: size"
  .ok (.ptr, cellsBlk e z)
noncomputable def alBox (e : TypeId) (x : Operand) (C : Ctx) (t : Tr AV) : R (AK × Blk) := do
  let v ← evA C t x
  let c ← v.cells
  let i ← ti C e
  guardB (Nat.beq c.length i.size) "box: size"
  .ok (.ptr, cellsBlk e c)
noncomputable def alBuildSlice (ty : TypeId) (len : Nat) (parts : Array (Nat × Operand)) (C : Ctx) (t : Tr AV) : R (AK × Blk) := do
  match ← under C ty with
  | .slice e => do
    let i ← ti C e
    guardB (Nat.ble (Nat.mul len i.size) 16777216) "buildSlice: too long"
    let zero ← zeroFor C e (Nat.mul len i.size) i.size
    let ps ← evPs C t parts.toList
    let cs ← fillParts (fun k => some (Nat.mul k i.size, i.size)) ps (repl zero len)
    .ok (.sl len, cellsBlk e cs)
  | _ => .bad "buildSlice"
noncomputable def aF (o : Op) (C : Ctx) (t : Tr AV) : R (AK × Blk) :=
  match o with
  | .alloc e => alAlloc e C
  | .box e x => alBox e x C t
  | .buildSlice ty n ps => alBuildSlice ty n ps C t
  | .makeMap _ r => match r with
    | none => .ok (.map, .map [] 0)
    | some _ => .bad "make: size"
  | _ => .bad "no block is made"
end Go.Proofs.YteibjeicgeophaaGreatDoor.Abs

namespace Go.Proofs.YteibjeicgeophaaGreatDoor.Abs
open Go
noncomputable def lEq {α : Type} (e : α → α → Bool) : List α → List α → Bool
  | [] => fun y => match y with | [] => true | _ :: _ => false
  | a :: x => fun y => match y with
    | [] => false
    | b :: y => match e a b with
      | true => lEq e x y
      | false => false
noncomputable def arEq {α : Type} (e : α → α → Bool) (a b : Array α) : Bool := lEq e a.toList b.toList
noncomputable def oEq {α : Type} (e : α → α → Bool) (a b : Option α) : Bool :=
  match a with
  | none => match b with | none => true | some _ => false
  | some x => match b with | none => false | some y => e x y
noncomputable def pEq {α β : Type} (e : α → α → Bool) (f : β → β → Bool) (a b : α × β) : Bool := e a.1 b.1 && f a.2 b.2
noncomputable def dEq {α : Type} [DecidableEq α] (a b : α) : Bool := decide (a = b)
noncomputable def nEq (a b : Nat) : Bool := Nat.beq a b
mutual
noncomputable def valEq : Value → Value → Bool
  | .int k n => fun b => match b with | .int k' n' => dEq k k' && dEq n n' | _ => false
  | .bool x => fun b => match b with | .bool y => dEq x y | _ => false
  | .string s => fun b => match b with | .string t => bytesEq s.data.toList t.data.toList | _ => false
  | .pointer none => fun b => match b with | .pointer none => true | _ => false
  | .slice none n c => fun b => match b with | .slice none n' c' => nEq n n' && nEq c c' | _ => false
  | .map none => fun b => match b with | .map none => true | _ => false
  | .nilFunc => fun b => match b with | .nilFunc => true | _ => false
  | .func f ⟨[]⟩ ⟨[]⟩ => fun b => match b with | .func g ⟨[]⟩ ⟨[]⟩ => dEq f g | _ => false
  | .nilIface => fun b => match b with | .nilIface => true | _ => false
  | .iface t v => fun b => match b with | .iface t' v' => nEq t t' && valEq v v' | _ => false
  | .agg ⟨l⟩ => fun b => match b with | .agg ⟨m⟩ => valEqs l m | _ => false
  | _ => fun _ => false
noncomputable def valEqs : List Value → List Value → Bool
  | [] => fun y => match y with | [] => true | _ :: _ => false
  | v :: l => fun y => match y with | [] => false | u :: m => valEq v u && valEqs l m
end
noncomputable def orEq (a b : Operand) : Bool :=
  match a with
  | .tmp x => match b with | .tmp y => nEq x y | _ => false
  | .const x => match b with | .const y => valEq x y | _ => false
  | .global x => match b with | .global y => nEq x y | _ => false
  | .func x => match b with | .func y => nEq x y | _ => false
noncomputable def ceEq (a b : Callee) : Bool :=
  match a with
  | .value x => match b with | .value y => orEq x y | _ => false
  | .invoke x m => match b with | .invoke y n => orEq x y && dEq m n | _ => false
  | .builtin x => match b with | .builtin y => dEq x y | _ => false
noncomputable def caEq (a b : Call) : Bool := ceEq a.callee b.callee && arEq orEq a.args b.args && arEq nEq a.argTypes b.argTypes
noncomputable def partsEq (a b : Array (Nat × Operand)) : Bool := arEq (pEq nEq orEq) a b
noncomputable def opsEq (a b : Op) : Bool :=
  match a with
  | .move x => match b with | .move y => orEq x y | _ => false
  | .assign x => match b with | .assign y => orEq x y | _ => false
  | .pick c x y => match b with | .pick c' x' y' => orEq c c' && (orEq x x' && orEq y y') | _ => false
  | .alloc x => match b with | .alloc y => nEq x y | _ => false
  | .box t x => match b with | .box t' x' => nEq t t' && orEq x x' | _ => false
  | .build t x => match b with | .build t' x' => nEq t t' && partsEq x x' | _ => false
  | .buildSlice t n x => match b with | .buildSlice t' n' x' => nEq t t' && (nEq n n' && partsEq x x') | _ => false
  | .insert t x y z => match b with | .insert t' x' y' z' => nEq t t' && (orEq x x' && (orEq y y' && orEq z z')) | _ => false
  | .load t x => match b with | .load t' x' => nEq t t' && orEq x x' | _ => false
  | .store t x y => match b with | .store t' x' y' => nEq t t' && (orEq x x' && orEq y y') | _ => false
  | .nilCheck x => match b with | .nilCheck y => orEq x y | _ => false
  | .binOp o t x y u => match b with | .binOp o' t' x' y' u' => dEq o o' && (nEq t t' && (orEq x x' && (orEq y y' && nEq u u'))) | _ => false
  | .unOp o t x => match b with | .unOp o' t' x' => dEq o o' && (nEq t t' && orEq x x') | _ => false
  | .convert s t x => match b with | .convert s' t' x' => nEq s s' && (nEq t t' && orEq x x') | _ => false
  | .makeInterface t x => match b with | .makeInterface t' x' => nEq t t' && orEq x x' | _ => false
  | .makeFunc f x y => match b with | .makeFunc f' x' y' => dEq f f' && (arEq orEq x x' && arEq orEq y y') | _ => false
  | .makeMap t x => match b with | .makeMap t' x' => nEq t t' && oEq orEq x x' | _ => false
  | .makeSlice t x y => match b with | .makeSlice t' x' y' => nEq t t' && (orEq x x' && orEq y y') | _ => false
  | .slice t x l h m => match b with | .slice t' x' l' h' m' => nEq t t' && (orEq x x' && (oEq orEq l l' && (oEq orEq h h' && oEq orEq m m'))) | _ => false
  | .fieldAddr t x n => match b with | .fieldAddr t' x' n' => nEq t t' && (orEq x x' && nEq n n') | _ => false
  | .field t x n => match b with | .field t' x' n' => nEq t t' && (orEq x x' && nEq n n') | _ => false
  | .indexAddr t x y => match b with | .indexAddr t' x' y' => nEq t t' && (orEq x x' && orEq y y') | _ => false
  | .index t x y => match b with | .index t' x' y' => nEq t t' && (orEq x x' && orEq y y') | _ => false
  | .lookup t x y c => match b with | .lookup t' x' y' c' => nEq t t' && (orEq x x' && (orEq y y' && dEq c c')) | _ => false
  | .mapUpdate t x y z => match b with | .mapUpdate t' x' y' z' => nEq t t' && (orEq x x' && (orEq y y' && orEq z z')) | _ => false
  | .mapEntry t x y => match b with | .mapEntry t' x' y' => nEq t t' && (orEq x x' && orEq y y') | _ => false
  | .entryStore t x y z => match b with | .entryStore t' x' y' z' => nEq t t' && (orEq x x' && (orEq y y' && orEq z z')) | _ => false
  | .range t x => match b with | .range t' x' => nEq t t' && orEq x x' | _ => false
  | .next x c => match b with | .next x' c' => orEq x x' && dEq c c' | _ => false
  | .entry x => match b with | .entry x' => orEq x x' | _ => false
  | .typeAssert x s t c => match b with | .typeAssert x' s' t' c' => orEq x x' && (nEq s s' && (nEq t t' && dEq c c')) | _ => false
  | .extract x n => match b with | .extract x' n' => orEq x x' && nEq n n' | _ => false
  | .call c => match b with | .call c' => caEq c c' | _ => false
  | .defer c => match b with | .defer c' => caEq c c' | _ => false
  | .panic x => match b with | .panic x' => orEq x x' | _ => false
  | _ => false
noncomputable def edEq (a b : Edge) : Bool := nEq a.on b.on && dEq a.ground b.ground
noncomputable def operEq (a b : Oper) : Bool := oEq nEq a.dst b.dst && (opsEq a.op b.op && (nEq a.type b.type && (dEq a.pos b.pos && (arEq edEq a.after b.after && oEq (pEq nEq dEq) a.guard b.guard))))
noncomputable def codeEq : Code → Code → Bool
  | .skip => fun b => match b with | .skip => true | _ => false
  | .region i ops d => fun b => match b with | .region i' ops' d' => nEq i i' && (dEq d d' && arEq operEq ops ops') | _ => false
  | .seq x y => fun b => match b with | .seq x' y' => codeEq x x' && codeEq y y' | _ => false
  | .cond c x y => fun b => match b with | .cond c' x' y' => orEq c c' && (codeEq x x' && codeEq y y') | _ => false
  | .block i x => fun b => match b with | .block i' x' => nEq i i' && codeEq x x' | _ => false
  | .loop x => fun b => match b with | .loop x' => codeEq x x' | _ => false
  | .rangeFunc f p x y => fun b => match b with | .rangeFunc f' p' x' y' => orEq f f' && (arEq nEq p p' && (codeEq x x' && codeEq y y')) | _ => false
  | .exit i => fun b => match b with | .exit i' => nEq i i' | _ => false
  | .scope x => fun b => match b with | .scope x' => codeEq x x' | _ => false
  | .label i => fun b => match b with | .label i' => nEq i i' | _ => false
  | .goto i => fun b => match b with | .goto i' => nEq i i' | _ => false
  | .ret => fun b => match b with | .ret => true | _ => false
  | .refuse _ => fun _ => false
noncomputable def SE.sub (σ : Nat → SE) : SE → SE
  | .var i => σ i
  | .int k n => .int k n
  | .bool b => .bool b
  | .str s => .str s
  | .a1 o x => .a1 o (SE.sub σ x)
  | .a2 o x y => .a2 o (SE.sub σ x) (SE.sub σ y)
  | .a3 o x y z => .a3 o (SE.sub σ x) (SE.sub σ y) (SE.sub σ z)
noncomputable def SE.subL (σ : Nat → SE) : List SE → List SE
  | [] => []
  | e :: l => SE.sub σ e :: SE.subL σ l
mutual
noncomputable def AV.sub (ρ : Nat → Nat) (σ : Nat → SE) : AV → AV
  | .int k n => .int k n
  | .bool b => .bool b
  | .str s => .str s
  | .ptr b off => .ptr (ρ b) off
  | .nilp => .nilp
  | .sl b o l c => .sl (ρ b) o l c
  | .osl b p e l z => .osl (ρ b) p e l z
  | .nilsl => .nilsl
  | .mapv r => .mapv (ρ r)
  | .nilmap => .nilmap
  | .fn f a b => .fn f (AV.subL ρ σ a) (AV.subL ρ σ b)
  | .yield l => .yield (ρ l)
  | .nilfn => .nilfn
  | .iface t v => .iface t (AV.sub ρ σ v)
  | .nili => .nili
  | .agg cs => .agg (AV.subL ρ σ cs)
  | .tup vs => .tup (AV.subL ρ σ vs)
  | .junk => .junk
  | .raw v => .raw v
  | .opq k e => mkOpq k (SE.sub σ e)
  | .vsl b n c => .vsl (ρ b) (SE.sub σ n) (SE.sub σ c)
  | .vptr b i sz k => .vptr (ρ b) (SE.sub σ i) sz k
noncomputable def AV.subL (ρ : Nat → Nat) (σ : Nat → SE) : List AV → List AV
  | [] => []
  | v :: l => AV.sub ρ σ v :: AV.subL ρ σ l
end
mutual
noncomputable def AV.ids (ok : Nat → Bool) : AV → Bool
  | .ptr b _ => ok b
  | .sl b _ _ _ => ok b
  | .osl b _ _ _ _ => ok b
  | .mapv r => ok r
  | .fn _ a b => AV.idsL ok a && AV.idsL ok b
  | .yield l => ok l
  | .iface _ v => AV.ids ok v
  | .agg cs => AV.idsL ok cs
  | .tup vs => AV.idsL ok vs
  | .vsl b _ _ => ok b
  | .vptr b _ _ _ => ok b
  | _ => true
noncomputable def AV.idsL (ok : Nat → Bool) : List AV → Bool
  | [] => true
  | v :: l => AV.ids ok v && AV.idsL ok l
end
noncomputable def AD.sub (ρ : Nat → Nat) (σ : Nat → SE) (d : AD) : AD := ⟨d.target.sub ρ σ, AV.subL ρ σ d.args⟩
noncomputable def AD.subs (ρ : Nat → Nat) (σ : Nat → SE) : List AD → List AD
  | [] => []
  | d :: l => d.sub ρ σ :: AD.subs ρ σ l
noncomputable def AD.idsL (ok : Nat → Bool) : List AD → Bool
  | [] => true
  | d :: l => AV.ids ok d.target && AV.idsL ok d.args && AD.idsL ok l
noncomputable def tmSub (ρ : Nat → Nat) (σ : Nat → SE) : List (Nat × AV) → List (Nat × AV)
  | [] => []
  | x :: l => (x.1, x.2.sub ρ σ) :: tmSub ρ σ l
noncomputable def tmIds (ok : Nat → Bool) : List (Nat × AV) → Bool
  | [] => true
  | x :: l => AV.ids ok x.2 && tmIds ok l
noncomputable def junkN : Nat → List AV
  | 0 => []
  | n + 1 => .junk :: junkN n
noncomputable def setTm : List (Nat × AV) → Tr AV → Tr AV
  | [] => fun t => t
  | x :: l => fun t => setTm l (t.set x.1 x.2)
noncomputable def tmTr (nt : Nat) (l : List (Nat × AV)) : Tr AV := setTm l (Tr.ofList (junkN nt))
noncomputable def ME.subs (ρ : Nat → Nat) (σ : Nat → SE) : List ME → List ME
  | [] => []
  | e :: l => ⟨e.k, e.v.sub ρ σ, e.born⟩ :: ME.subs ρ σ l
noncomputable def ME.idsL (ok : Nat → Bool) : List ME → Bool
  | [] => true
  | e :: l => AV.ids ok e.v && ME.idsL ok l
noncomputable def CB.sub (ρ : Nat → Nat) (σ : Nat → SE) : CB → CB
  | .cells e cs fz st sg => .cells e (AV.subL ρ σ cs) fz st sg
  | .defd ds => .defd (AD.subs ρ σ ds)
  | .loop st pe fn nt tm ps a b d => .loop st pe fn nt (tmSub ρ σ tm) ps a b (ρ d)
  | .vec e x => .vec e (SE.sub σ x)
  | .tab e k zs => .tab e k zs
  | .map es c => .map (ME.subs ρ σ es) c
noncomputable def CB.ids (ok : Nat → Bool) : CB → Bool
  | .cells _ cs _ _ _ => AV.idsL ok cs
  | .defd ds => AD.idsL ok ds
  | .loop _ _ _ _ tm _ _ _ d => tmIds ok tm && ok d
  | .vec _ _ => true
  | .tab _ _ _ => true
  | .map es _ => ME.idsL ok es
noncomputable def CB.blk : CB → Blk
  | .cells e cs fz st sg => .cells e (Tr.ofList cs) cs.length fz [] st sg
  | .defd ds => .defd (some ds)
  | .loop st pe fn nt tm ps a b d => .loop st pe fn nt (tmTr nt tm) ps a b d
  | .vec e x => .vec e x
  | .tab e k zs => .tab e k zs
  | .map es c => .map es c
noncomputable def CB.live : CB → Bool
  | .cells _ _ _ st _ => !st
  | .tab _ _ _ => false
  | _ => true
noncomputable def Fact.sub (σ : Nat → SE) : Fact → Fact
  | .tr e => .tr (e.sub σ)
  | .fl e => .fl (e.sub σ)
  | .inr i n => .inr (i.sub σ) (n.sub σ)
  | .rel nm b p l => .rel nm b p (SE.subL σ l)
noncomputable def Fact.subs (σ : Nat → SE) : List Fact → List Fact
  | [] => []
  | f :: l => f.sub σ :: Fact.subs σ l
def idN (i : Nat) : Nat := i
end Go.Proofs.YteibjeicgeophaaGreatDoor.Abs

namespace Go.Proofs.YteibjeicgeophaaGreatDoor.Abs
open Go
structure PE where
  v : AV
  recovered : Bool
  deriving Inhabited
inductive AMode where
  | run | ret
  | pan (chain : List PE)
  deriving Inhabited
structure FI where
  fn : FuncId
  nt : Nat
  kind : CallKind
  roundOf : Option Nat
  tl : List Deferred
  deriving Inhabited
inductive Res where
  | ret (v : AV)
  | pan (chain : List PE)
  deriving Inhabited
structure Out where
  res : Res
  ctx : Option (List PE)
  s : S
  deriving Inhabited
abbrev Rec := FI → Tr AV → List AItem → List ADf → AMode → Option (List PE) → S → R Out
noncomputable def exitA (id : Nat) : List AItem → Option (List AItem)
  | [] => none
  | x :: k => match x with
    | .inBlock id' => match Nat.beq id' id with | true => some k | false => exitA id k
    | _ => exitA id k
noncomputable def gotoA (l : Nat) : List AItem → Option (List AItem)
  | [] => none
  | x :: k => match x with
    | .inScope body => match findLabel body l with
      | some rest => some (.code rest :: .inScope body :: k)
      | none => gotoA l k
    | _ => gotoA l k
noncomputable def dstOf (ops : Array Oper) (j : Nat) : Option Tmp :=
  match ops[j]? with
  | some o => o.dst
  | none => none
noncomputable def gBool (want : Bool) (v : AV) : R Bool :=
  match v with
  | .bool b => .ok (match b, want with | true, true => true | false, false => true | _, _ => false)
  | .junk => .bad "junk guard"
  | .raw _ => .bad "raw guard"
  | .opq _ _ => .bad "guard: unknown"
  | _ => .ok false
noncomputable def wantedA (ops : Array Oper) (g : Option (Nat × Bool)) (t : Tr AV) : R Bool :=
  @Option.rec (Nat × Bool) (fun _ => R Bool) (.ok true)
    (fun p => @Option.rec Tmp (fun _ => R Bool) (.ok false) (fun d => @Option.rec AV (fun _ => R Bool) (.ok false) (gBool p.2) (t.get d)) (dstOf ops p.1)) g
noncomputable def openG (ops : Array Oper) (g : Option (Nat × Bool)) (t : Tr AV) : Option (SE × Bool) :=
  match g with
  | none => none
  | some p => match dstOf ops p.1 with
    | none => none
    | some d => match t.get d with
      | some v => match v with
        | .opq k e => match k with
          | .bool => some (e, p.2)
          | _ => none
        | _ => none
      | none => none
noncomputable def sameB (a b : Bool) : Bool :=
  match a with
  | true => b
  | false => !b
noncomputable def wantedS (ops : Array Oper) (g : Option (Nat × Bool)) (t : Tr AV) (s : S) : R (Bool × S) :=
  match openG ops g t with
  | some p => (forkB s p.1).bind fun r => .ok (sameB r.1 p.2, r.2)
  | none => (wantedA ops g t).bind fun b => .ok (b, s)
noncomputable def put (nt : Nat) (t : Tr AV) (d : Option Tmp) (v : AV) : Tr AV :=
  @Option.rec Tmp (fun _ => Tr AV) t (fun d => @Bool.rec (fun _ => Tr AV) t (t.set d v) (Nat.blt d nt)) d
noncomputable def raiseC (ch : List PE) : AMode → List PE
  | .pan c => ch ++ c
  | _ => ch
noncomputable def getLoop (s : S) (l : Nat) : R (LoopState × Option Code × FuncId × Nat × Tr AV × List Tmp × Code × Code × Nat) :=
  match s.h.get l with
  | some (.loop a b c n d e f g h) => .ok (a, b, c, n, d, e, f, g, h)
  | _ => .bad "no loop"
noncomputable def setArgs (nt : Nat) : List Tmp → List AV → Tr AV → R (Tr AV)
  | [] => fun a t => match a with | [] => .ok t | _ => .bad "yield args"
  | p :: ps => fun a t => match a with | [] => .bad "yield args" | x :: xs => setArgs nt ps xs (put nt t (some p) x)
noncomputable def indexA (C : Ctx) (s : S) (g : Nat) (args : List AV) : R Out :=
  match args with
  | [x, y] => do
    let a ← bytesOf x
    let b ← bytesOf y
    match s.h.get g with
    | some (.cells _ cs n _ _ _ _) => match cs.get 0 with
      | some v => match v with
        | .opq k _ => do
          guardB (kdEq k (.int .i64) && Nat.blt g C.nG && Nat.ble 1 n && Nat.blt a.length 4294967281) "index: too long"
          .ok ⟨.ret (.int .i64 (indexL b a 0)), none, s⟩
        | _ => .bad "index: no int"
      | none => .bad "index: no cell"
    | _ => .bad "index: no variable"
  | _ => .bad "index: arguments"
noncomputable def closedA (C : Ctx) (s : S) (g t : Nat) (args : List AV) : R Out :=
  match args with
  | [] =>
    match s.h.get g with
    | some (.cells e cs n _ _ _ _) => match cs.get 0 with
      | some v => match v with
        | .opq k _ => do
          guardB (kdEq k (.int .i64) && Nat.blt g C.nG && Nat.ble 1 n && Nat.beq e t) "closed: the variable"
          .ok ⟨.ret (.bool true), none, s⟩
        | _ => .bad "closed: no int"
      | none => .bad "closed: no cell"
    | _ => .bad "closed: no variable"
  | _ :: _ => .bad "closed: arguments"
noncomputable def isHandle (x : AsE) (v : Value) : Bool :=
  match v with
  | .pointer (some a) => Nat.beq a.block x.hb && Nat.beq a.off x.he && a.spot.isNone
  | _ => false
noncomputable def errKnown (C : Ctx) (s : S) (x : AsE) : Bool :=
  match s.h.get x.g with
  | some (.cells _ cs n _ _ _ _) => match cs.get 0 with
    | some (.iface r (.agg [.raw v])) => Nat.blt x.g C.nG && Nat.ble 1 n && Nat.beq r x.tR && isHandle x v
    | _ => false
  | _ => false
noncomputable def placeFor (s : S) (k off n : Nat) : Bool :=
  match s.h.get k with
  | some (.cells _ _ m fz _ st _) => !st && Nat.ble (Nat.add off n) m && Nat.ble fz off
  | _ => false
noncomputable def asA (C : Ctx) (s : S) (x : AsE) (args : List AV) : R Out :=
  match args with
  | [.iface ta (.agg cs), .iface tb (.ptr k off)] => do
    guardB (Nat.beq ta x.tF && Nat.beq tb x.tP && Nat.beq cs.length x.n && errKnown C s x && placeFor s k off cs.length && allOne cs) "as: what"
    let s' ← wrCells s k off cs
    .ok ⟨.ret (.bool true), none, s'⟩
  | _ => .bad "as: arguments"
noncomputable def isJunkA : AV → Bool
  | .junk => true
  | _ => false
noncomputable def cellsHold (cs : Tr AV) : List AV → Nat → Bool
  | [] => fun _ => true
  | v :: l => fun i => match isJunkA v with
    | true => cellsHold cs l (Nat.add i 1)
    | false => match cs.get i with
      | some u => match avEq u v with
        | true => cellsHold cs l (Nat.add i 1)
        | false => false
      | none => false
noncomputable def mesEq : List ME → List ME → Bool
  | [] => fun y => match y with
    | [] => true
    | _ :: _ => false
  | a :: x => fun y => match y with
    | [] => false
    | b :: y => avEq a.k b.k && avEq a.v b.v && Nat.beq a.born b.born && mesEq x y
noncomputable def blkHold (b : Blk) (m : MB) : Bool :=
  match b with
  | .cells e cs n fz _ st sg => match m with
    | .cells e' l fz' st' sg' => Nat.beq e e' && Nat.beq n l.length && Nat.beq fz fz' && (st == st') && (sg == sg') && cellsHold cs l 0
    | .map _ _ => false
  | .map es c => match m with
    | .map es' c' => Nat.beq c c' && mesEq es es'
    | .cells _ _ _ _ _ => false
  | _ => false
noncomputable def noneIn (ids : List Nat) : List Nat → Bool
  | [] => true
  | a :: l => match hasN a ids with
    | true => false
    | false => noneIn ids l
noncomputable def ancL : Blk → List Nat
  | .cells _ _ _ _ anc _ _ => anc
  | _ => []
noncomputable def liveMB : MB → Bool
  | .cells _ _ _ st _ => !st
  | .map _ _ => true
noncomputable def preOk (h : Tr Blk) (ids : List Nat) : List (Nat × MB) → Bool
  | [] => true
  | x :: l => match h.get x.1 with
    | some b => match blkHold b x.2 && noneIn ids (ancL b) with
      | true => preOk h ids l
      | false => false
    | none => false
noncomputable def postOk (h : Tr Blk) : List (Nat × MB) → Bool
  | [] => true
  | x :: l => match h.get x.1 with
    | some b => match blkHold b x.2 && liveMB x.2 with
      | true => postOk h l
      | false => false
    | none => false
noncomputable def ancAt (h0 : Tr Blk) (i : Nat) : List Nat :=
  match h0.get i with
  | some b => ancL b
  | none => []
noncomputable def dropPre (h0 : Tr Blk) : List (Nat × MB) → Tr Blk → Tr Blk
  | [] => fun h => h
  | x :: l => fun h => match liveMB x.2 with
    | true => dropPre h0 l ((delAll (ancAt h0 x.1) h).del x.1)
    | false => dropPre h0 l h
noncomputable def memoS (s : S) (m : Memo) : S := ⟨setPairs m.post (dropPre s.h m.pre s.h), m.last, s.pc⟩
noncomputable def idsOf : List (Nat × MB) → List Nat
  | [] => []
  | x :: l => x.1 :: idsOf l
noncomputable def memoA (s : S) (m : Memo) (args : List AV) : R Out :=
  match avEqs args m.args && preOk s.h (idsOf m.pre) m.pre with
  | true => .ok ⟨.ret m.res, none, memoS s m⟩
  | false => .bad "memo"
noncomputable def memoOf (f next : Nat) : List (FuncId × Memo) → Option Memo
  | [] => none
  | x :: l => match Nat.beq x.1 f && Nat.beq x.2.next next with
    | true => some x.2
    | false => memoOf f next l
noncomputable def memoHolds (m : Memo) (o : Out) : Bool :=
  match o.res with
  | .ret v => avEq v m.res && Nat.ble o.s.next m.last && postOk o.s.h m.post
  | .pan _ => false
noncomputable def lookN {α : Type} (i : Nat) : List (Nat × α) → Option α
  | [] => none
  | x :: l => match Nat.beq x.1 i with
    | true => some x.2
    | false => lookN i l
noncomputable def rhoOf (nG n next : Nat) (l : List (Nat × Nat)) (i : Nat) : Nat :=
  match Nat.blt i n with
  | false => next
  | true => match lookN i l with
    | some j => j
    | none => match Nat.blt i nG with
      | true => i
      | false => next
noncomputable def badSE : SE := .a1 .isNil (.bool true)
noncomputable def sigOf (nG n : Nat) (l : List (Nat × SE)) (i : Nat) : SE :=
  match Nat.blt i n with
  | false => badSE
  | true => match lookN i l with
    | some e => e
    | none => match Nat.blt i nG with
      | true => .var i
      | false => badSE
noncomputable def rhoN (n next : Nat) (ρ : Nat → Nat) (i : Nat) : Nat :=
  match Nat.blt i n with
  | true => ρ i
  | false => Nat.add next (Nat.sub i n)
noncomputable def sigN (n next m : Nat) (σ : Nat → SE) (i : Nat) : SE :=
  match Nat.blt i n with
  | true => σ i
  | false => match Nat.blt i (Nat.add n m) with
    | true => .var (Nat.add next (Nat.sub i n))
    | false => badSE
noncomputable def isSomeB {α : Type} : Option α → Bool
  | some _ => true
  | none => false
noncomputable def okIds (nG n m : Nat) (l : List (Nat × Nat)) (i : Nat) : Bool :=
  match Nat.blt i n with
  | true => isSomeB (lookN i l) || Nat.blt i nG
  | false => Nat.blt i (Nat.add n m)
abbrev RS := List (Nat × Nat) × List (Nat × SE)
noncomputable def addB (i j : Nat) (m : RS) : RS :=
  match lookN i m.1 with
  | some _ => m
  | none => ((i, j) :: m.1, m.2)
noncomputable def addV (i : Nat) (e : SE) (m : RS) : RS :=
  match lookN i m.2 with
  | some _ => m
  | none => (m.1, (i, e) :: m.2)
noncomputable def seVal : AV → Option SE
  | .opq _ e => some e
  | .int k n => some (.int k n)
  | .bool b => some (.bool b)
  | .str s => some (.str s)
  | _ => none
noncomputable def bOf : AV → Option Nat
  | .ptr b _ => some b
  | .sl b _ _ _ => some b
  | .osl b _ _ _ _ => some b
  | .mapv r => some r
  | .yield l => some l
  | .vsl b _ _ => some b
  | .vptr b _ _ _ => some b
  | _ => none
noncomputable def addS (p a : SE) (m : RS) : RS :=
  match p with
  | .var i => addV i a m
  | _ => m
mutual
noncomputable def matV : AV → AV → RS → RS
  | .ptr b _ => fun a m => match bOf a with | some j => addB b j m | none => m
  | .sl b _ _ _ => fun a m => match bOf a with | some j => addB b j m | none => m
  | .osl b _ _ _ _ => fun a m => match bOf a with | some j => addB b j m | none => m
  | .mapv b => fun a m => match bOf a with | some j => addB b j m | none => m
  | .yield b => fun a m => match bOf a with | some j => addB b j m | none => m
  | .fn _ x y => fun a m => match a with | .fn _ x' y' => matL y y' (matL x x' m) | _ => m
  | .iface _ v => fun a m => match a with | .iface _ u => matV v u m | _ => m
  | .agg l => fun a m => match a with | .agg l' => matL l l' m | _ => m
  | .tup l => fun a m => match a with | .tup l' => matL l l' m | _ => m
  | .opq _ e => fun a m => match e with
    | .var i => match seVal a with | some x => addV i x m | none => m
    | _ => m
  | .vsl b n c => fun a m => match a with
    | .vsl b' n' c' => addS c c' (addS n n' (addB b b' m))
    | _ => m
  | .vptr b i _ _ => fun a m => match a with
    | .vptr b' i' _ _ => addS i i' (addB b b' m)
    | _ => m
  | _ => fun _ m => m
noncomputable def matL : List AV → List AV → RS → RS
  | [] => fun _ m => m
  | v :: l => fun a m => match a with
    | [] => m
    | u :: l' => matL l l' (matV v u m)
end
noncomputable def matT : List (Nat × AV) → Tr AV → RS → RS
  | [] => fun _ m => m
  | x :: l => fun t m => matT l t (match t.get x.1 with | some u => matV x.2 u m | none => m)
noncomputable def matC : List AV → Nat → Tr AV → RS → RS
  | [] => fun _ _ m => m
  | v :: l => fun i t m => matC l (Nat.add i 1) t (match t.get i with | some u => matV v u m | none => m)
noncomputable def matM : List ME → List ME → RS → RS
  | [] => fun _ m => m
  | e :: l => fun es m => match es with
    | [] => m
    | e' :: es => matM l es (matV e.v e'.v m)
noncomputable def matB (cb : CB) (b : Blk) (m : RS) : RS :=
  match cb with
  | .cells _ cs _ _ _ => match b with
    | .cells _ t _ _ _ _ _ => matC cs 0 t m
    | _ => m
  | .defd _ => m
  | .loop _ _ _ _ tm _ _ _ d => match b with
    | .loop _ _ _ _ t _ _ _ d' => addB d d' (matT tm t m)
    | _ => m
  | .vec _ p => match b with
    | .vec _ a => addS p a m
    | _ => m
  | .tab _ _ _ => m
  | .map es _ => match b with
    | .map es' _ => matM es es' m
    | _ => m
noncomputable def matBs (h : Tr Blk) : List (Nat × CB) → RS → RS
  | [] => fun m => m
  | x :: l => fun m => matBs h l (match lookN x.1 m.1 with
    | some j => match h.get j with | some b => matB x.2 b m | none => m
    | none => m)
noncomputable def adsEq : List AD → List AD → Bool
  | [] => fun y => match y with | [] => true | _ :: _ => false
  | a :: x => fun y => match y with
    | [] => false
    | b :: y => avEq a.target b.target && (avEqs a.args b.args && adsEq x y)
noncomputable def tmsHold (t : Tr AV) : List (Nat × AV) → Bool
  | [] => true
  | x :: l => match isJunkA x.2 with
    | true => isSomeB (t.get x.1) && tmsHold t l
    | false => match t.get x.1 with
      | some u => avEq u x.2 && tmsHold t l
      | none => false
noncomputable def cbHold (b : Blk) (cb : CB) : Bool :=
  match cb with
  | .cells e' l fz' st' sg' => match b with
    | .cells e cs n fz _ st sg => Nat.beq e e' && (Nat.beq n l.length && (Nat.beq fz fz' && (dEq st st' && (dEq sg sg' && cellsHold cs l 0))))
    | _ => false
  | .defd l => match b with
    | .defd (some l') => adsEq l' l
    | _ => false
  | .loop st pe fn nt tm ps a c d => match b with
    | .loop st' pe' fn' nt' tm' ps' a' c' d' => dEq st' st && (oEq codeEq pe' pe && (nEq fn' fn && (nEq nt' nt && (tmsHold tm' tm && (lEq nEq ps' ps && (codeEq a' a && (codeEq c' c && nEq d' d)))))))
    | _ => false
  | .vec el e => match b with
    | .vec el' e' => Nat.beq el' el && seEq e' e
    | _ => false
  | .tab el k zs => match b with
    | .tab el' k' zs' => Nat.beq el' el && (ikEq k' k && lEq dEq zs' zs)
    | _ => false
  | .map es c => match b with
    | .map es' c' => Nat.beq c' c && mesEq es' es
    | _ => false
noncomputable def itemEq (x y : AItem) : Bool :=
  match x with
  | .code a => match y with | .code b => codeEq a b | _ => false
  | .inBlock i => match y with | .inBlock j => nEq i j | _ => false
  | .inLoop a => match y with | .inLoop b => codeEq a b | _ => false
  | .inScope a => match y with | .inScope b => codeEq a b | _ => false
  | .inRange i => match y with | .inRange j => nEq i j | _ => false
  | .endRange i => match y with | .endRange j => nEq i j | _ => false
  | .beginRound => match y with | .beginRound => true | _ => false
noncomputable def AItem.sub (ρ : Nat → Nat) : AItem → AItem
  | .inRange l => .inRange (ρ l)
  | .endRange l => .endRange (ρ l)
  | .code c => .code c
  | .inBlock i => .inBlock i
  | .inLoop c => .inLoop c
  | .inScope c => .inScope c
  | .beginRound => .beginRound
noncomputable def AItem.subs (ρ : Nat → Nat) : List AItem → List AItem
  | [] => []
  | x :: l => x.sub ρ :: AItem.subs ρ l
noncomputable def roundEq (ρ : Nat → Nat) (a b : Option Nat) : Bool :=
  match a with
  | none => match b with | none => true | some _ => false
  | some i => match b with | none => false | some j => nEq (ρ i) j
noncomputable def normalK : CallKind → Bool
  | .normal => true
  | _ => false
noncomputable def preConOk (h : Tr Blk) (ρ : Nat → Nat) (σ : Nat → SE) (ids : List Nat) : List (Nat × CB) → Bool
  | [] => true
  | x :: l => match h.get (ρ x.1) with
    | some b => cbHold b (x.2.sub ρ σ) && (noneIn ids (ancL b) && preConOk h ρ σ ids l)
    | none => false
noncomputable def mapIds (ρ : Nat → Nat) : List (Nat × CB) → List Nat
  | [] => []
  | x :: l => ρ x.1 :: mapIds ρ l
noncomputable def nodupN : List Nat → Bool
  | [] => true
  | a :: l => !hasN a l && nodupN l
noncomputable def tgtOk (nG : Nat) (h : Tr Blk) (n : Nat) : List (Nat × Nat) → Bool
  | [] => true
  | x :: l => isSomeB (h.get x.2) && (Nat.blt x.1 n && ((Nat.ble nG x.1 || Nat.beq x.1 x.2) && tgtOk nG h n l))
noncomputable def postIds (ok : Nat → Bool) : List (Nat × CB) → Bool
  | [] => true
  | x :: l => ok x.1 && (CB.ids ok x.2 && (CB.live x.2 && postIds ok l))
noncomputable def outOk (nG n : Nat) (rl : List (Nat × Nat)) (o : ConOut) : Bool :=
  AV.ids (okIds nG n o.m rl) o.res && postIds (okIds nG n o.m rl) o.post
noncomputable def outsOk (nG n : Nat) (rl : List (Nat × Nat)) : List ConOut → Bool
  | [] => true
  | o :: l => outOk nG n rl o && outsOk nG n rl l
noncomputable def conOk (C : Ctx) (c : Con) (fi : FI) (t : Tr AV) (todo : List AItem) (s : S) (rl : List (Nat × Nat)) (ρ : Nat → Nat) (σ : Nat → SE) : Bool :=
  (nEq fi.nt c.nt && (normalK fi.kind && roundEq ρ c.round fi.roundOf)) && (tmsHold t (tmSub ρ σ c.t) && (lEq itemEq todo (AItem.subs ρ c.todo) &&
    (preConOk s.h ρ σ (mapIds ρ c.pre) c.pre && (nodupN (mapIds ρ c.pre) && (tgtOk C.nG s.h c.n rl && (outsOk C.nG c.n rl c.outs && Nat.ble C.nG c.n))))))
def pTr (l : List Dt) : Prop := l = [.val (.bool true)]
def pFl (l : List Dt) : Prop := l = [.val (.bool false)]
def pIn (l : List Dt) : Prop := ∃ k a m, l = [.val (.int k a), .val (.int .i64 m)] ∧ 0 ≤ a ∧ a < m
noncomputable def hasTr (e : SE) : List Fact → Bool
  | [] => false
  | f :: l => match f with
    | .tr x => (match seEq x e with | true => true | false => hasTr e l)
    | _ => hasTr e l
noncomputable def hasFl (e : SE) : List Fact → Bool
  | [] => false
  | f :: l => match f with
    | .fl x => (match seEq x e with | true => true | false => hasFl e l)
    | _ => hasFl e l
noncomputable def hasInr (i n : SE) : List Fact → Bool
  | [] => false
  | f :: l => match f with
    | .inr j m => (match seEq j i && seEq m n with | true => true | false => hasInr i n l)
    | _ => hasInr i n l
noncomputable def conMust (pc : List Fact) (σ : Nat → SE) : List Fact → R Unit
  | [] => .ok ()
  | f :: l => match f with
    | .rel nm b p args => match b with
      | false => .must (.rel nm true p (SE.subL σ args) :: pc) (conMust pc σ l)
      | true => .bad "contract: a fact"
    | .tr e => (match hasTr (SE.sub σ e) pc with
      | true => conMust pc σ l
      | false => .must (.rel "tr" true pTr [SE.sub σ e] :: pc) (conMust pc σ l))
    | .fl e => (match hasFl (SE.sub σ e) pc with
      | true => conMust pc σ l
      | false => .must (.rel "fl" true pFl [SE.sub σ e] :: pc) (conMust pc σ l))
    | .inr i n => (match hasInr (SE.sub σ i) (SE.sub σ n) pc with
      | true => conMust pc σ l
      | false => .must (.rel "in" true pIn [SE.sub σ i, SE.sub σ n] :: pc) (conMust pc σ l))
noncomputable def setCB (ρ : Nat → Nat) (σ : Nat → SE) : List (Nat × CB) → Tr Blk → Tr Blk
  | [] => fun h => h
  | x :: l => fun h => setCB ρ σ l (h.set (ρ x.1) (x.2.sub ρ σ).blk)
noncomputable def dropCon (h0 : Tr Blk) (ρ : Nat → Nat) : List (Nat × CB) → Tr Blk → Tr Blk
  | [] => fun h => h
  | x :: l => fun h => match CB.live x.2 with
    | true => dropCon h0 ρ l ((delAll (ancAt h0 (ρ x.1)) h).del (ρ x.1))
    | false => dropCon h0 ρ l h
noncomputable def conS (s : S) (c : Con) (o : ConOut) (ρ : Nat → Nat) (ρ' : Nat → Nat) (σ' : Nat → SE) : S :=
  ⟨setCB ρ' σ' o.post (dropCon s.h ρ c.pre s.h), Nat.add s.next o.m, Fact.subs σ' o.facts ++ s.pc⟩
noncomputable def popA (s : S) : List ADf → R S
  | [] => .ok s
  | d :: l => match d with
    | .collected r => match s.h.get r with
      | some (.defd (some [])) => popA ⟨s.h.set r (.defd none), s.next, s.pc⟩ l
      | _ => .bad "contract: a deferred call"
    | _ => .bad "contract: a deferred call"
noncomputable def noRes (C : Ctx) (fi : FI) (ds : List ADf) : Bool :=
  match ds with
  | [] => true
  | _ :: _ => match fi.roundOf with
    | some _ => false
    | none => match C.F.get fi.fn with
      | some fn => Nat.beq fn.results.size 0
      | none => false
noncomputable def conEnd (C : Ctx) (c : Con) (fi : FI) (ds : List ADf) (s : S) (ρ : Nat → Nat) (σ : Nat → SE) (i : Nat) : R Out :=
  match nth c.outs i with
  | none => .bad "contract: no end"
  | some o => match o.pan with
   | true => (match ds with
    | [] => .ok ⟨.pan [⟨o.res.sub (rhoN c.n s.next ρ) (sigN c.n s.next o.m σ), false⟩], none, conS s c o ρ (rhoN c.n s.next ρ) (sigN c.n s.next o.m σ)⟩
    | _ :: _ => .bad "contract: a panic below deferred calls")
   | false => match noRes C fi ds with
    | true => (popA (conS s c o ρ (rhoN c.n s.next ρ) (sigN c.n s.next o.m σ)) ds).bind fun s' => .ok ⟨.ret (o.res.sub (rhoN c.n s.next ρ) (sigN c.n s.next o.m σ)), none, s'⟩
    | false => .bad "contract: results behind deferred calls"
noncomputable def conB (C : Ctx) (c : Con) (no : R Out) (fi : FI) (t : Tr AV) (todo : List AItem) (ds : List ADf) (s : S) : R Out :=
  match matBs s.h c.pre (matT c.t t ([], [])) with
  | (rl, sl) => match conOk C c fi t todo s rl (rhoOf C.nG c.n s.next rl) (sigOf C.nG c.n sl) with
    | true => (conMust s.pc (sigOf C.nG c.n sl) c.facts).bind fun _ => .ask c.outs.length (conEnd C c fi ds s (rhoOf C.nG c.n s.next rl) (sigOf C.nG c.n sl))
    | false => no
noncomputable def vecOf (C : Ctx) (s : S) (b : Nat) : Option (TypeId × SE × Nat × Nat) :=
  match s.h.get b with
  | some (.cells el cs m fz anc st sg) => match anc with
    | _ :: _ => none
    | [] => match Nat.beq fz 0 && (!st && !sg) with
      | false => none
      | true => match C.T.get el with
        | none => none
        | some i => match Nat.beq i.size (cellKds C el).length with
          | false => none
          | true => match getCells cs m 0 with
            | .ok l => match snAll C (cellKds C el) l (cellKds C el) (.a1 (.nl (cellKds C el)) (.bool true)) with
              | some y => some (el, y, m, i.size)
              | none => none
            | _ => none
  | _ => none
noncomputable def sizeOk (n c m sz : Nat) : Bool := !Nat.beq sz 0 && (Nat.ble (Nat.mul c sz) m && Nat.ble n c)
def pFrz (t : TypeId) (sz : Nat) (l : List Dt) : Prop := ∃ (a : Addr) (k c : Nat) (ks : List Kd) (es : List Dt), l = [.sl (.slice (some a) k c) t sz (es.take (k * sz)), .ls ks es, .val (.int .i64 (.ofNat k))] ∧ k * sz ≤ es.length
noncomputable def coFrz (C : Ctx) (t b n c : Nat) (v : AV) (s : S) : AV × S :=
  match vecOf C s b with
  | some q => (match Nat.beq q.1 t && sizeOk n c q.2.2.1 q.2.2.2 with
    | true => (.opq (.sl t) (.var s.next), ⟨(s.h.set b (.vec q.1 q.2.1)).del b, Nat.add s.next 1, .rel "frz" false (pFrz t (cellKds C t).length) [.var s.next, q.2.1, .int .i64 (.ofNat n)] :: s.pc⟩)
    | false => (v, s))
  | none => (v, s)
noncomputable def coV (C : Ctx) (p v : AV) (s : S) : AV × S :=
  match p with
  | .vsl _ _ _ => match v with
    | .sl b off n c => match off with
      | 0 => match vecOf C s b with
        | some q => match sizeOk n c q.2.2.1 q.2.2.2 with
          | true => (.vsl b (.int .i64 (.ofNat n)) (.int .i64 (.ofNat c)), ⟨s.h.set b (.vec q.1 q.2.1), s.next, s.pc⟩)
          | false => (v, s)
        | none => (v, s)
      | _ + 1 => (v, s)
    | .osl b _ e0 n sz => match e0 with
      | 0 => match vecOf C s b with
        | some q => match (Nat.beq sz q.2.2.2 && !Nat.beq n 0) && sizeOk n n q.2.2.1 q.2.2.2 with
          | true => (.vsl b (.int .i64 (.ofNat n)) (.var s.next), ⟨s.h.set b (.vec q.1 q.2.1), Nat.add s.next 1, s.pc⟩)
          | false => (v, s)
        | none => (v, s)
      | _ + 1 => (v, s)
    | _ => (v, s)
  | .opq q _ => match q with
    | .sl t => match v with
      | .nilsl => (.opq (.sl t) (.a1 (.ns t (cellKds C t).length) (.bool true)), s)
      | .sl b off n c => (match off with
        | 0 => coFrz C t b n c v s
        | _ + 1 => (v, s))
      | .osl b _ e0 n sz => (match e0 with
        | 0 => (match Nat.beq sz (cellKds C t).length && !Nat.beq n 0 with
          | true => coFrz C t b n n v s
          | false => (v, s))
        | _ + 1 => (v, s))
      | _ => (v, s)
    | _ => (v, s)
  | _ => (v, s)
noncomputable def coSet (j i : Nat) (v v' : AV) (s : S) : S :=
  match s.h.get j with
  | some (.cells e cs n fz anc st sg) => match cs.get i with
    | some u => match avEq u v && Nat.blt i n with
      | true => ⟨s.h.set j (.cells e (cs.set i v') n fz anc st sg), s.next, s.pc⟩
      | false => s
    | none => s
  | _ => s
noncomputable def coCell (C : Ctx) (j i : Nat) (p : AV) (s : S) : S :=
  match s.h.get j with
  | some (.cells _ cs n _ _ _ _) => match cs.get i with
    | some v => match !isJunkA v && Nat.blt i n with
      | true => match coV C p v s with
        | (v', s') => coSet j i v v' s'
      | false => s
    | none => s
  | _ => s
noncomputable def coCells (C : Ctx) (j : Nat) : List AV → Nat → S → S
  | [] => fun _ s => s
  | p :: l => fun i s => coCells C j l (Nat.add i 1) (coCell C j i p s)
noncomputable def coB (C : Ctx) (rl : List (Nat × Nat)) (x : Nat × CB) (s : S) : S :=
  match lookN x.1 rl with
  | some j => match x.2 with
    | .cells _ cs _ _ _ => coCells C j cs 0 s
    | _ => s
  | none => s
noncomputable def coBs (C : Ctx) (rl : List (Nat × Nat)) : List (Nat × CB) → S → S
  | [] => fun s => s
  | x :: l => fun s => coBs C rl l (coB C rl x s)
noncomputable def coT (C : Ctx) : List (Nat × AV) → Tr AV → S → Tr AV × S
  | [] => fun t s => (t, s)
  | x :: l => fun t s => match t.get x.1 with
    | some v => match isJunkA v with
      | true => coT C l t s
      | false => match coV C x.2 v s with
        | (v', s') => coT C l (t.set x.1 v') s'
    | none => coT C l t s
noncomputable def conA (C : Ctx) (c : Con) (no : R Out) (fi : FI) (t : Tr AV) (todo : List AItem) (ds : List ADf) (s : S) : R Out :=
  match coT C c.t t s with
  | (t1, s1) => match matBs s1.h c.pre (matT c.t t1 ([], [])) with
    | (rl, _) => conB C c no fi t1 todo ds (coBs C rl c.pre s1)
noncomputable def isFor (c : Con) (f : FuncId) (todo : List AItem) : Bool :=
  match Nat.beq c.fn f with
  | false => false
  | true => match todo with
    | [] => false
    | x :: _ => match c.todo with
      | [] => false
      | y :: _ => itemEq x y
mutual
noncomputable def AV.plain : AV → Bool
  | .opq _ _ => false
  | .vsl _ _ _ => false
  | .vptr _ _ _ _ => false
  | .agg l => AV.plainL l
  | .tup l => AV.plainL l
  | .iface _ v => AV.plain v
  | _ => true
noncomputable def AV.plainL : List AV → Bool
  | [] => true
  | v :: l => AV.plain v && AV.plainL l
end
noncomputable def tmsPlain : List (Nat × AV) → Bool
  | [] => true
  | x :: l => AV.plain x.2 && tmsPlain l
noncomputable def cellsPlain (cs : Tr AV) : Nat → Bool
  | 0 => true
  | n + 1 => (match cs.get n with
    | some v => AV.plain v
    | none => true) && cellsPlain cs n
noncomputable def ptrPlain (h : Tr Blk) (v : AV) : Bool :=
  match v with
  | .ptr b _ => (match h.get b with
    | some x => (match x with
      | .cells _ cs n _ _ _ _ => cellsPlain cs n
      | .vec _ _ => false
      | _ => true)
    | none => true)
  | v => AV.plain v
noncomputable def tmsPlainIn (h : Tr Blk) (t : Tr AV) : List (Nat × AV) → Bool
  | [] => true
  | x :: l => match t.get x.1 with
    | some v => ptrPlain h v && tmsPlainIn h t l
    | none => tmsPlainIn h t l
noncomputable def presPlain : List (Nat × CB) → Bool
  | [] => true
  | x :: l => (match x.2 with
    | .cells _ cs _ st _ => st || AV.plainL cs
    | .vec _ _ => false
    | _ => true) && presPlain l
noncomputable def isFor2 (h : Tr Blk) (c : Con) (f : FuncId) (t : Tr AV) (todo : List AItem) : Bool :=
  match isFor c f todo with
  | false => false
  | true => match tmsPlain c.t && presPlain c.pre with
    | true => true
    | false => !tmsPlainIn h t c.t
noncomputable def conTry (C : Ctx) (rec : Rec) (fi : FI) (t : Tr AV) (todo : List AItem) (ds : List ADf) (s : S) : List Con → R Out
  | [] => rec fi t todo ds .run none s
  | c :: l => match isFor2 s.h c fi.fn t todo with
    | false => conTry C rec fi t todo ds s l
    | true => conA C c (conTry C rec fi t todo ds s l) fi t todo ds s
noncomputable def recK (C : Ctx) (rec : Rec) (fi : FI) (t : Tr AV) (todo : List AItem) (ds : List ADf) (ctx : Option (List PE)) (s : S) : R Out :=
  match C.K with
  | [] => rec fi t todo ds .run ctx s
  | _ :: _ => match ctx with
    | none => conTry C rec fi t todo ds s C.K
    | some _ => rec fi t todo ds .run ctx s
noncomputable def enterA (C : Ctx) (rec : Rec) (f : FuncId) (args : List AV) (kind : CallKind) (ctx : Option (List PE)) (s : S) : R Out :=
  match C.F.get f with
  | none => .bad "enter"
  | some fn => match fn.body with
    | none => .bad "enter: no body"
    | some c => match Nat.ble args.length fn.ntmps with
      | false => .bad "enter: args"
      | true => recK C rec ⟨f, fn.ntmps, kind, none, []⟩ (Tr.ofList args) [.code c] [] ctx s
noncomputable def libOf (f : FuncId) : List Con → Option Con
  | [] => none
  | c :: l => match Nat.beq c.fn f with
    | true => some c
    | false => libOf f l
noncomputable def libA (C : Ctx) (c : Con) (args : List AV) (s : S) : R Out :=
  match nEq args.length c.nt with
  | true => conB C c (.bad "library: another call") ⟨c.fn, c.nt, .normal, none, []⟩ (Tr.ofList args) [] [] s
  | false => .bad "library: arguments"
noncomputable def callE (C : Ctx) (rec : Rec) (f : FuncId) (args : List AV) (s : S) : R Out :=
  match extOf f C.X with
  | none => enterA C rec f args .normal none s
  | some e => match e with
    | .index g => indexA C s g args
    | .closed g t => closedA C s g t args
    | .as x => asA C s x args
    | _ => enterA C rec f args .normal none s
noncomputable def callX (C : Ctx) (rec : Rec) (f : FuncId) (args : List AV) (s : S) : R Out :=
  match libOf f C.L with
  | some c => (match AV.plainL args with
    | true => callE C rec f args s
    | false => libA C c args s)
  | none => callE C rec f args s
noncomputable def callA (C : Ctx) (rec : Rec) (f : FuncId) (args : List AV) (s : S) : R Out :=
  match memoOf f s.next C.M with
  | some m => memoA s m args
  | none => callX C rec f args s
noncomputable def roundA (C : Ctx) (rec : Rec) (l : Nat) (args : List AV) (s : S) : R Out := do
  let r ← getLoop s l
  match r with
  | (_, _, fn, nt, tmps, params, assign, body, _) => do
    let t ← setArgs nt params args tmps
    let _ ← R.ofOpt "round: function" (C.F.get fn)
    rec ⟨fn, nt, .normal, some l, []⟩ t [.code assign, .beginRound, .code body] [] .run none s
inductive RG where
  | fin (t : Tr AV) (ds : List ADf) (ctx : Option (List PE)) (s : S)
  | pan (ch : List PE) (t : Tr AV) (ds : List ADf) (ctx : Option (List PE)) (s : S)
  deriving Inhabited
noncomputable def undefA : AV := .tup []
noncomputable def deferA (fi : FI) (d : AD) (ds : List ADf) (s : S) : R (List ADf × S) :=
  match fi.roundOf with
  | none => .ok (.call d :: ds, s)
  | some l => do
    let r ← getLoop s l
    match r with
    | (_, _, _, _, _, _, _, _, b) =>
      match s.h.get b with
      | some (.defd (some l)) => .ok (ds, ⟨s.h.set b (.defd (some (d :: l))), s.next, s.pc⟩)
      | _ => .bad "defer in a round"
noncomputable def recoverA (fi : FI) (ctx : Option (List PE)) : R (AV × Option (List PE)) :=
  match fi.roundOf with
  | some _ => .bad "recover in a round"
  | none =>
    match fi.kind with
    | .deferred => match ctx with
      | some ({ v, recovered := false } :: older) => .ok (v, some ({ v, recovered := true } :: older))
      | _ => .ok (.nili, ctx)
    | .normal => .ok (.nili, ctx)
    | _ => .bad "recover"
abbrev RK := Tr AV → List ADf → Option (List PE) → S → R RG
noncomputable def backR (nt : Nat) (d : Option Tmp) (k : RK) (t : Tr AV) (ds : List ADf) (ctx : Option (List PE)) (o : Out) : R RG :=
  @Out.rec (fun _ => R RG) (fun res _ s => @Res.rec (fun _ => R RG) (fun v => k (put nt t d v) ds ctx s) (fun ch => .ok (.pan ch t ds ctx s)) res) o
noncomputable def regEnter (C : Ctx) (rec : Rec) (nt : Nat) (d : Option Tmp) (k : RK) (t : Tr AV) (ds : List ADf) (ctx : Option (List PE)) (f : FuncId) (args : List AV) (s : S) : R RG :=
  (callA C rec f args s).bind (backR nt d k t ds ctx)
noncomputable def regRound (C : Ctx) (rec : Rec) (nt : Nat) (d : Option Tmp) (k : RK) (t : Tr AV) (ds : List ADf) (ctx : Option (List PE)) (l : Nat) (args : List AV) (s : S) : R RG :=
  (roundA C rec l args s).bind (backR nt d k t ds ctx)
noncomputable def regDefer (fi : FI) (nt : Nat) (d : Option Tmp) (k : RK) (t : Tr AV) (ds : List ADf) (ctx : Option (List PE)) (x : AD) (s : S) : R RG :=
  (deferA fi x ds s).bind fun r => k (put nt t d undefA) r.1 ctx r.2
noncomputable def regRecover (fi : FI) (nt : Nat) (d : Option Tmp) (k : RK) (t : Tr AV) (ds : List ADf) (ctx : Option (List PE)) (s : S) : R RG :=
  (recoverA fi ctx).bind fun r => k (put nt t d r.1) ds r.2 s
noncomputable def regNx (C : Ctx) (rec : Rec) (nt : Nat) (fi : FI) (d : Option Tmp) (k : RK) (t : Tr AV) (ds : List ADf) (ctx : Option (List PE)) (x : Nx) : R RG :=
  @Nx.rec (fun _ => R RG) (fun v s => k (put nt t d v) ds ctx s) (fun s => k (put nt t d undefA) ds ctx s) (regEnter C rec nt d k t ds ctx) (regRound C rec nt d k t ds ctx)
    (fun _ _ => .bad "defer") (regRecover fi nt d k t ds ctx) (fun v s => .ok (.pan [⟨v, false⟩] t ds ctx s)) x
noncomputable def deferOf (o : Op) : Option Call :=
  match o with
  | .defer c => some c
  | _ => none
noncomputable def opDeferA (c : Call) (C : Ctx) (t : Tr AV) : R AD := do
  let args ← evL C t c.args.toList
  match c.callee with
  | .value f => do
    let f ← evA C t f
    match f with
    | .fn g a b => .ok { target := .fn g a b, args }
    | _ => .bad "defer of what"
  | _ => .bad "defer of a builtin or method"
noncomputable def regOp (C : Ctx) (rec : Rec) (fi : FI) (nt : Nat) (k : RK) (d : Option Tmp) (op : Op) (ty : TypeId) (t : Tr AV) (ds : List ADf) (ctx : Option (List PE)) (s : S) : R RG :=
  @Option.rec Call (fun _ => R RG) ((evOp op ty C t s).bind (regNx C rec nt fi d k t ds ctx)) (fun c => (opDeferA c C t).bind fun x => regDefer fi nt d k t ds ctx x s) (deferOf op)
noncomputable def regOper (C : Ctx) (rec : Rec) (fi : FI) (nt : Nat) (k : RK) (d : Option Tmp) (op : Op) (ty : TypeId) (t : Tr AV) (ds : List ADf) (ctx : Option (List PE)) (s : S) (b : Bool) : R RG :=
  @Bool.rec (fun _ => R RG) (k (put nt t d undefA) ds ctx s) (regOp C rec fi nt k d op ty t ds ctx s) b
noncomputable def regOne (C : Ctx) (rec : Rec) (fi : FI) (ops : Array Oper) (k : RK) (o : Oper) : RK :=
  @Oper.rec (fun _ => RK) (fun d op ty _ _ g t ds ctx s => (wantedS ops g t s).bind fun r => regOper C rec fi fi.nt k d op ty t ds ctx r.2 r.1) o
noncomputable def litOf (nt : Nat) (d : Option Tmp) (t : Tr AV) : Option SE :=
  match d with
  | none => none
  | some d => match Nat.blt d nt with
    | false => none
    | true => match t.get d with
      | some v => (match v with
        | .opq k e => (match k with
          | .bool => some e
          | _ => none)
        | _ => none)
      | none => none
noncomputable def litK (nt : Nat) (d : Option Tmp) (K : RK) : RK := fun t ds ctx s =>
  match litOf nt d t with
  | some e => (forkB s e).bind fun r => K (put nt t d (.bool r.1)) ds ctx r.2
  | none => K t ds ctx s
noncomputable def regOneD (C : Ctx) (rec : Rec) (fi : FI) (ops : Array Oper) (k : RK) (o : Oper) : RK := regOne C rec fi ops (litK fi.nt o.dst k) o
noncomputable def regRun (C : Ctx) (rec : Rec) (fi : FI) (ops : Array Oper) (l : List Oper) : RK :=
  @List.rec Oper (fun _ => RK) (fun t ds ctx s => .ok (.fin t ds ctx s)) (fun o _ ih => regOneD C rec fi ops ih o) l
noncomputable def leaveF (rec : Rec) (fi : FI) (t : Tr AV) (ds : List ADf) (ctx : Option (List PE)) (s : S) (jump : Option Code) : R Out :=
  match fi.roundOf with
  | none => match jump with
    | none => rec fi t [] ds .ret ctx s
    | some .ret => rec fi t [] ds .ret ctx s
    | _ => .bad "leave"
  | some l => do
    let r ← getLoop s l
    match r with
    | (_, _, a, n, b, c, d, e, f) =>
      .ok ⟨.ret (.bool jump.isNone), ctx, ⟨s.h.set l (.loop (match jump with | none => .ready | some _ => .done) jump a n b c d e f), s.next, s.pc⟩⟩
noncomputable def backF (rec : Rec) (fi : FI) (t : Tr AV) (k : List AItem) (ds : List ADf) (ctx : Option (List PE)) (l : Nat) (o : Out) : R Out :=
  match o.res with
  | .ret _ => rec fi t (.endRange l :: k) ds .run ctx o.s
  | .pan ch => rec fi t [] ds (.pan ch) ctx o.s
noncomputable def rangeF (C : Ctx) (rec : Rec) (fi : FI) (t : Tr AV) (k : List AItem) (ds : List ADf) (ctx : Option (List PE)) (f : Operand) (params : Array Tmp) (assign body : Code) (s : S) : R Out := do
  let fv ← evA C t f
  match fi.roundOf with
  | some l => do
    let r ← getLoop s l
    match r with
    | (_, _, _, _, _, _, _, _, d) => do
      match ← invokeF C (s.new (.loop .ready none fi.fn fi.nt t params.toList assign body d)) fv [.yield s.next] with
      | .enter f args s' => do let o ← callA C rec f args s'; backF rec fi t k ds ctx s.next o
      | _ => .bad "rangeFunc"
  | none => do
    let s1 := s.new (.defd (some []))
    match ← invokeF C (s1.new (.loop .ready none fi.fn fi.nt t params.toList assign body s.next)) fv [.yield s1.next] with
    | .enter f args s' => do let o ← callA C rec f args s'; backF rec fi t k (.collected s.next :: ds) ctx s1.next o
    | _ => .bad "rangeFunc"
noncomputable def regionF (_C : Ctx) (rec : Rec) (fi : FI) (k : List AItem) (r : RG) : R Out :=
  match r with
  | .fin t ds ctx s => rec fi t k ds .run ctx s
  | .pan ch t ds ctx s => rec fi t [] ds (.pan ch) ctx s
noncomputable def flOper (o : Oper) (C : Ctx) (t : Tr AV) (s : S) (b : Bool) : R AV :=
  @Bool.rec (fun _ => R AV) (.ok undefA) (evQ o C t s) b
noncomputable def evF (ops : Array Oper) (o : Oper) (C : Ctx) (t : Tr AV) (s : S) : R AV := (wantedA ops o.guard t).bind (flOper o C t s)
noncomputable def sameTmp (nt : Nat) (t : Tr AV) (d : Option Tmp) (v : AV) : Bool :=
  match d with
  | none => true
  | some d => match Nat.blt d nt with
    | true => match t.get d with
      | some u => avEq u v
      | none => false
    | false => true
abbrev Pend := List (Nat × (Nat × Blk))
noncomputable def pendGet (i : Nat) : Pend → Option (Nat × Blk)
  | [] => none
  | p :: l => match Nat.beq p.1 i with
    | true => some p.2
    | false => pendGet i l
abbrev DK := Pend → RK
noncomputable def R.det {α : Type} (r : R α) : R α := @R.rec α (fun _ => R α) (fun a => .ok a) (fun w => .bad w) (fun _ _ _ => .bad "ask") (fun _ _ _ => .bad "must") r
noncomputable def dAlOper (o : Oper) (i nt : Nat) (k : DK) (C : Ctx) (pe : Pend) (t : Tr AV) (ds : List ADf) (ctx : Option (List PE)) (s : S) (b : Bool) : R RG :=
  @Bool.rec (fun _ => R RG) (k pe (put nt t o.dst undefA) ds ctx s)
    ((R.det (aF o.op C t)).bind fun r => k ((i, (s.next, r.2)) :: pe) (put nt t o.dst (mkA r.1 s.next)) ds ctx ⟨s.h, Nat.add s.next 1, s.pc⟩) b
noncomputable def dOn (i : Nat) (k : DK) : DK := fun pe t ds ctx s =>
  match pendGet i pe with
  | none => k pe t ds ctx s
  | some p => k pe t ds ctx ⟨s.h.set p.1 p.2, s.next, s.pc⟩
noncomputable def dStep (C : Ctx) (rec : Rec) (fi : FI) (ops : Array Oper) (x : PS) (k : DK) : DK :=
  @PS.rec (fun _ => DK)
    (fun _ o pe => regOneD C rec fi ops (k pe) o)
    (fun _ o pe t ds ctx s => (R.det (evF ops o C t s)).bind fun v => k pe (put fi.nt t o.dst v) ds ctx s)
    (fun _ o pe t ds ctx s => (R.det (evF ops o C t s)).bind fun v => @Bool.rec (fun _ => R RG) (.bad "float: another value") (k pe t ds ctx s) (sameTmp fi.nt t o.dst v))
    (fun i o pe t ds ctx s => (R.det (wantedA ops o.guard t)).bind (dAlOper o i fi.nt k C pe t ds ctx s))
    (fun i => dOn i k) x
noncomputable def dRunK (C : Ctx) (rec : Rec) (fi : FI) (ops : Array Oper) (kf : DK) (l : List PS) : DK :=
  @List.rec PS (fun _ => DK) kf (fun x _ ih => dStep C rec fi ops x ih) l
noncomputable def dFin : DK := fun _ t ds ctx s => .ok (.fin t ds ctx s)
noncomputable def dRun (C : Ctx) (rec : Rec) (fi : FI) (ops : Array Oper) (l : List PS) : DK := dRunK C rec fi ops dFin l
noncomputable def storeBlk (o : Oper) (C : Ctx) (t : Tr AV) : R Nat :=
  match o.op with
  | .store _ a _ => do
    let p ← evA C t a
    match p with
    | .ptr b _ => .ok b
    | .vptr b _ _ _ => .ok b
    | _ => .bad "two stores: no address"
  | _ => .bad "two stores: no store"
noncomputable def storeQ (ops : Array Oper) (o : Oper) (C : Ctx) (t : Tr AV) (s : S) : R S :=
  match o.dst with
  | some _ => .bad "two stores: a store's value"
  | none => do
    let b ← R.det (wantedA ops o.guard t)
    match b with
    | false => .bad "two stores: guarded"
    | true => match o.op with
      | .store ty a x => do
        let p ← evA C t a
        let v ← evA C t x
        storeAt C s ty p v
      | _ => .bad "two stores: no store"
noncomputable def reAll (ops : Array Oper) (nt : Nat) (C : Ctx) (t : Tr AV) (s : S) : List Nat → R Unit
  | [] => .ok ()
  | i :: l => match nth ops.toList i with
    | none => .bad "two stores: no operation"
    | some o => do
      let v ← R.det (evF ops o C t s)
      match sameTmp nt t o.dst v with
      | true => reAll ops nt C t s l
      | false => .bad "two stores: another value"
noncomputable def ancOf (s : S) (b : Nat) : R (List Nat) :=
  match s.h.get b with
  | some (.cells _ _ _ _ anc _ _) => .ok anc
  | some (.vec _ _) => .ok []
  | _ => .bad "two stores: no cells"
noncomputable def dTwo (C : Ctx) (fi : FI) (ops : Array Oper) (ox oy : Oper) (ra rb : List Nat) : DK := fun _ t ds ctx s => do
  let bx ← R.det (storeBlk ox C t)
  let by' ← R.det (storeBlk oy C t)
  let ax ← R.det (ancOf s bx)
  let ay ← R.det (ancOf s by')
  guardB (!Nat.beq bx by' && !hasN by' ax && !hasN bx ay) "two stores: the same place"
  let sx ← R.det (storeQ ops ox C t s)
  let _ ← R.det (reAll ops fi.nt C t sx ra)
  let sxy ← R.det (storeQ ops oy C t sx)
  let sy ← R.det (storeQ ops oy C t s)
  let _ ← R.det (reAll ops fi.nt C t sy rb)
  let _ ← R.det (storeQ ops ox C t sy)
  .ok (.fin t ds ctx sxy)
noncomputable def junkPS (nt : Nat) (t : Tr AV) : List PS → Tr AV
  | [] => t
  | x :: l => match x with
    | .ev _ o => put nt (junkPS nt t l) o.dst .junk
    | .al _ o => put nt (junkPS nt t l) o.dst .junk
    | _ => junkPS nt t l
noncomputable def dEnd (nt : Nat) (l : List PS) (r : RG) : R RG :=
  @RG.rec (fun _ => R RG) (fun t ds ctx s => .ok (.fin t ds ctx s)) (fun ch t ds ctx s => .ok (.pan ch (junkPS nt t l) ds ctx s)) r
noncomputable def dGo (C : Ctx) (rec : Rec) (fi : FI) (ops : Array Oper) (p : PlanR) : RK := fun t ds ctx s =>
  match p with
  | .one plan => (dRun C rec fi ops (link ops.toList plan) [] t ds ctx s).bind (dEnd fi.nt (link ops.toList plan))
  | .two pre x y ra rb => match nth ops.toList x, nth ops.toList y with
    | some ox, some oy => (dRunK C rec fi ops (dTwo C fi ops ox oy ra rb) (link ops.toList pre) [] t ds ctx s).bind (dEnd fi.nt (link ops.toList pre))
    | _, _ => .bad "no plan: two"
noncomputable def dPlan (C : Ctx) (rec : Rec) (fi : FI) (ops : Array Oper) (plan : PlanR) : RK := fun t ds ctx s =>
  @Bool.rec (fun _ => R RG) (.bad "no plan") (dGo C rec fi ops plan t ds ctx s) (planOk ops.toList plan)
noncomputable def dryG (C : Ctx) (ops : Array Oper) (nt : Nat) : List Oper → Tr AV → S → Option SE
  | [] => fun _ _ => none
  | o :: l => fun t s => match openG ops o.guard t with
    | some p => some p.1
    | none => match wantedA ops o.guard t with
      | .ok b => (match b with
        | false => dryG C ops nt l (put nt t o.dst undefA) s
        | true => match evOp o.op o.type C t s with
          | .ok x => (match x with
            | .val v s' => (match Nat.beq s'.next s.next with
              | true => dryG C ops nt l (put nt t o.dst v) s'
              | false => none)
            | _ => none)
          | _ => none)
      | _ => none
noncomputable def dregN (C : Ctx) (rec : Rec) (fi : FI) (ops : Array Oper) : Nat → RK
  | 0 => fun t ds ctx s => dPlan C rec fi ops (planOf ops.toList) t ds ctx s
  | n + 1 => fun t ds ctx s => match dryG C ops fi.nt ops.toList t s with
    | some e => (forkB s e).bind fun r => dregN C rec fi ops n t ds ctx r.2
    | none => dPlan C rec fi ops (planOf ops.toList) t ds ctx s
noncomputable def dregRun (C : Ctx) (rec : Rec) (fi : FI) (ops : Array Oper) (t : Tr AV) (ds : List ADf) (ctx : Option (List PE)) (s : S) : R RG :=
  dregN C rec fi ops 6 t ds ctx s
abbrev CK := List AItem → Ctx → Rec → FI → Tr AV → List ADf → Option (List PE) → S → R Out
noncomputable def cRet : CK := fun _ _ rec fi t ds ctx s => leaveF rec fi t ds ctx s (some .ret)
noncomputable def cSkip : CK := fun k _ rec fi t ds ctx s => rec fi t k ds .run ctx s
noncomputable def cSeq (a b : Code) : CK := fun k _ rec fi t ds ctx s => rec fi t (.code a :: .code b :: k) ds .run ctx s
noncomputable def cCond (c : Operand) (a b : Code) : CK := fun k C rec fi t ds ctx s =>
  (evA C t c).bind fun v => match v with
    | .bool x => rec fi t (.code (match x with | true => a | false => b) :: k) ds .run ctx s
    | .opq q e => match q with
      | .bool => (forkB s e).bind fun r => rec fi t (.code (match r.1 with | true => a | false => b) :: k) ds .run ctx r.2
      | _ => .bad "cond: unknown"
    | _ => .bad "cond"
noncomputable def cBlock (id : Nat) (body : Code) : CK := fun k _ rec fi t ds ctx s => rec fi t (.code body :: .inBlock id :: k) ds .run ctx s
noncomputable def cLoop (body : Code) : CK := fun k C rec fi t ds ctx s => recK C rec fi t (.code body :: .inLoop body :: k) ds ctx s
noncomputable def cScope (body : Code) : CK := fun k _ rec fi t ds ctx s => rec fi t (.code body :: .inScope body :: k) ds .run ctx s
noncomputable def cExit (id : Nat) : CK := fun k _ rec fi t ds ctx s =>
  match exitA id k with
  | some k => rec fi t k ds .run ctx s
  | none => leaveF rec fi t ds ctx s (some (.exit id))
noncomputable def cGoto (l : Nat) : CK := fun k _ rec fi t ds ctx s =>
  match gotoA l k with
  | some k => rec fi t k ds .run ctx s
  | none => leaveF rec fi t ds ctx s (some (.goto l))
noncomputable def cRegion (ops : Array Oper) (draw : Bool) : CK := fun k C rec fi t ds ctx s =>
  match draw with
  | false => (regRun C rec fi ops ops.toList t ds ctx s).bind (regionF C rec fi k)
  | true => (dregRun C rec fi ops t ds ctx s).bind (regionF C rec fi k)
noncomputable def cRange (f : Operand) (params : Array Tmp) (assign body : Code) : CK := fun k C rec fi t ds ctx s => rangeF C rec fi t k ds ctx f params assign body s
noncomputable def codeF (c : Code) : CK :=
  @Code.rec (fun _ => CK) cSkip (fun _ ops draw => cRegion ops draw) (fun a b _ _ => cSeq a b) (fun c a b _ _ => cCond c a b) (fun id b _ => cBlock id b) (fun b _ => cLoop b)
    (fun f p a b _ _ => cRange f p a b) cExit (fun b _ => cScope b) (fun _ => cSkip) cGoto cRet (fun why _ _ _ _ _ _ _ _ => .bad why) c
noncomputable def iEnd (l : Nat) : CK := fun k _ rec fi t ds ctx s => do
    let r ← getLoop s l
    match r with
    | (st, pend, a, n, b, c, d, e, f) =>
      match st with
      | .busy => .bad "endRange: busy"
      | _ => rec fi t ((match pend with | some c => [.code c] | none => []) ++ k) ds .run ctx ⟨s.h.set l (.loop .exhausted pend a n b c d e f), s.next, s.pc⟩
noncomputable def iBegin : CK := fun k _ rec fi t ds ctx s =>
    match fi.roundOf with
    | none => .bad "beginRound"
    | some l => do
      let r ← getLoop s l
      match r with
      | (st, pend, a, n, b, c, d, e, f) =>
        match st with
        | .ready => rec fi t k ds .run ctx ⟨s.h.set l (.loop .busy pend a n b c d e f), s.next, s.pc⟩
        | _ => .bad "beginRound: not ready"
noncomputable def itemF (x : AItem) : CK :=
  @AItem.rec (fun _ => CK) codeF (fun _ => cSkip) cLoop (fun _ => cSkip) (fun _ _ _ _ _ _ _ _ _ => .bad "inRange") iEnd iBegin x
noncomputable def resultV (C : Ctx) (s : S) (t : Tr AV) (r : ResultVar) : R AV :=
  match r with
  | .tmp d => evA C t (.tmp d)
  | .cell a ty => do let p ← evA C t (.tmp a); loadAt C s ty p
noncomputable def resultL (C : Ctx) (s : S) (t : Tr AV) : List ResultVar → R (List AV)
  | [] => .ok []
  | r :: l => do
    let v ← resultV C s t r
    let vs ← resultL C s t l
    .ok (v :: vs)
noncomputable def oneOrTup : List AV → AV
  | [v] => v
  | vs => .tup vs
noncomputable def resultsA (C : Ctx) (s : S) (fi : FI) (t : Tr AV) : R AV :=
  match C.F.get fi.fn with
  | none => .bad "results: fn"
  | some fn => do let vs ← resultL C s t fn.results.toList; .ok (oneOrTup vs)
noncomputable def modeCtx : AMode → Option (List PE)
  | .pan c => some c
  | _ => none
noncomputable def afterDefer (o : Out) : AMode :=
  match o.ctx with
  | some c => .pan c
  | none => .ret
noncomputable def settleA : AMode → AMode
  | .pan (p :: older) => match p.recovered with
    | true => .ret
    | false => .pan (p :: older)
  | m => m
noncomputable def deferF (C : Ctx) (rec : Rec) (fi : FI) (t : Tr AV) (mode : AMode) (ctx : Option (List PE)) (s : S) : ADf → List ADf → R Out
  | .collected r => fun ds =>
    match s.h.get r with
    | some (.defd (some l)) => rec fi t [] (l.map .call ++ ds) mode ctx ⟨s.h.set r (.defd none), s.next, s.pc⟩
    | _ => .bad "collected"
  | .call d => fun ds => do
    match ← invokeF C s d.target d.args with
    | .enter f args s => do
      let o ← enterA C rec f args .deferred (modeCtx mode) s
      match o.res with
      | .ret _ => rec fi t [] ds (settleA (afterDefer o)) ctx o.s
      | .pan ch => rec fi t [] ds (.pan (raiseC ch (afterDefer o))) ctx o.s
    | _ => .bad "deferred: other"
noncomputable def bRun (C : Ctx) (rec : Rec) (fi : FI) (t : Tr AV) (todo : List AItem) (ds : List ADf) (ctx : Option (List PE)) (s : S) : R Out :=
  @List.rec AItem (fun _ => R Out) (leaveF rec fi t ds ctx s none) (fun x k _ => itemF x k C rec fi t ds ctx s) todo
noncomputable def bRet (C : Ctx) (rec : Rec) (fi : FI) (t : Tr AV) (ds : List ADf) (ctx : Option (List PE)) (s : S) : R Out :=
  match fi.roundOf with
  | some _ => .bad "a round that returns"
  | none => match ds with
    | [] => (resultsA C s fi t).bind fun v => .ok ⟨.ret v, ctx, s⟩
    | d :: ds => deferF C rec fi t .ret ctx s d ds
noncomputable def bPan (C : Ctx) (rec : Rec) (fi : FI) (t : Tr AV) (ds : List ADf) (ctx : Option (List PE)) (s : S) (chain : List PE) : R Out :=
  match ds with
  | [] => .ok ⟨.pan chain, ctx, s⟩
  | d :: ds => deferF C rec fi t (.pan chain) ctx s d ds
noncomputable def bodyF (C : Ctx) (rec : Rec) (fi : FI) (t : Tr AV) (todo : List AItem) (ds : List ADf) (mode : AMode) (ctx : Option (List PE)) (s : S) : R Out :=
  @AMode.rec (fun _ => R Out) (bRun C rec fi t todo ds ctx s) (bRet C rec fi t ds ctx s) (bPan C rec fi t ds ctx s) mode
noncomputable def runF (C : Ctx) (n : Nat) : Rec :=
  @Nat.rec (fun _ => Rec) (fun _ _ _ _ _ _ _ => .bad "fuel") (fun _ ih => bodyF C ih) n
noncomputable def thOf (n next : Nat) (l : List (Nat × Nat)) (i : Nat) : Nat :=
  match Nat.blt i n with
  | true => i
  | false => match lookN i l with
    | some j => match Nat.ble n j with
      | true => j
      | false => next
    | none => next
noncomputable def nuOf (n m : Nat) (l : List (Nat × SE)) (i : Nat) : SE :=
  match Nat.blt i n with
  | true => .var i
  | false => match Nat.blt i (Nat.add n m) with
    | false => badSE
    | true => match lookN i l with
      | some e => e
      | none => badSE
noncomputable def matPost (n : Nat) (h : Tr Blk) : List (Nat × CB) → RS → RS
  | [] => fun m => m
  | x :: l => fun m => matPost n h l (match h.get (thOf n n m.1 x.1) with
    | some b => matB x.2 b m
    | none => m)
noncomputable def postFits (h : Tr Blk) (θ : Nat → Nat) (ν : Nat → SE) : List (Nat × CB) → Bool
  | [] => true
  | x :: l => match h.get (θ x.1) with
    | some b => cbHold b (x.2.sub θ ν) && (x.2.live && postFits h θ ν l)
    | none => false
noncomputable def outFits (s : S) (v : AV) (o : ConOut) (θ : Nat → Nat) (ν : Nat → SE) : Bool :=
  avEq v (o.res.sub θ ν) && (postFits s.h θ ν o.post && nodupN (mapIds θ o.post))
noncomputable def frzAt (C : Ctx) (s : S) (t b : Nat) (n : SE) (v : AV) : R (AV × S) :=
  match s.h.get b with
  | some (.vec el e) => match Nat.beq el t with
    | true => .must (.rel "short" false (pShort (cellKds C t).length) [e, n] :: s.pc)
      (.ok (.opq (.sl t) (.var s.next), ⟨s.h.del b, Nat.add s.next 1, .rel "frz" false (pFrz t (cellKds C t).length) [.var s.next, e, n] :: s.pc⟩))
    | false => .ok (v, s)
  | _ => .ok (v, s)
noncomputable def frz1 (C : Ctx) (s : S) (p v : AV) : R (AV × S) :=
  match p with
  | .opq q _ => match q with
    | .sl t => match v with
      | .vsl b n _ => frzAt C s t b n v
      | .nilsl => .ok (.opq (.sl t) (.a1 (.ns t (cellKds C t).length) (.bool true)), s)
      | _ => .ok (v, s)
    | _ => .ok (v, s)
  | _ => .ok (v, s)
mutual
noncomputable def frzV (C : Ctx) : AV → AV → S → R (AV × S)
  | .agg l => fun v s => match v with
    | .agg l' => (frzL C l l' s).bind fun r => .ok (.agg r.1, r.2)
    | _ => .ok (v, s)
  | .tup l => fun v s => match v with
    | .tup l' => (frzL C l l' s).bind fun r => .ok (.tup r.1, r.2)
    | _ => .ok (v, s)
  | p => fun v s => frz1 C s p v
noncomputable def frzL (C : Ctx) : List AV → List AV → S → R (List AV × S)
  | [] => fun l' s => .ok (l', s)
  | p :: l => fun l' s => match l' with
    | [] => .ok ([], s)
    | v :: l' => (frzV C p v s).bind fun r => (frzL C l l' r.2).bind fun q => .ok (r.1 :: q.1, q.2)
end
noncomputable def xorB (a b : Bool) : Bool :=
  match a with
  | true => !b
  | false => b
noncomputable def lookOuts (C : Ctx) (c : Con) (pan : Bool) (s : S) (v : AV) : List ConOut → R Unit
  | [] => .must s.pc (.ok ())
  | o :: l => match xorB o.pan pan with
   | true => lookOuts C c pan s v l
   | false => (frzV C o.res v s).bind fun r =>
    match matPost c.n r.2.h o.post (matV o.res r.1 ([], [])) with
    | (tl, vl) => match outFits r.2 r.1 o (thOf c.n r.2.next tl) (nuOf c.n o.m vl) with
      | true => conMust r.2.pc (nuOf c.n o.m vl) o.facts
      | false => lookOuts C c pan s v l
noncomputable def conLook (C : Ctx) (c : Con) (o : Out) : R Unit :=
  match o.res with
  | .ret v => lookOuts C c false o.s v c.outs
  | .pan ch => match ch with
    | [] => .must o.s.pc (.ok ())
    | p :: l => match l with
      | _ :: _ => .must o.s.pc (.ok ())
      | [] => match p.recovered with
        | true => .must o.s.pc (.ok ())
        | false => lookOuts C c true o.s p.v c.outs
noncomputable def loopAt : Code → List AItem → Nat → Nat × Option (List AItem)
  | .seq a b => fun k n => match loopAt a (.code b :: k) n with
    | (m, some r) => (m, some r)
    | (m, none) => loopAt b k m
  | .cond _ a b => fun k n => match loopAt a k n with
    | (m, some r) => (m, some r)
    | (m, none) => loopAt b k m
  | .block id x => fun k n => loopAt x (.inBlock id :: k) n
  | .loop x => fun k n => match n with
    | 0 => (0, some (.code x :: .inLoop x :: k))
    | m + 1 => loopAt x (.inLoop x :: k) m
  | .scope x => fun k n => loopAt x (.inScope x :: k) n
  | _ => fun _ n => (n, none)
noncomputable def loopTodo (P : Program) (f : FuncId) (n : Nat) : List AItem :=
  match (P.funcs[f]?).bind (·.body) with
  | some c => match (loopAt c [] n).2 with
    | some l => l
    | none => []
  | none => []
end Go.Proofs.YteibjeicgeophaaGreatDoor.Abs

namespace Go.Proofs.YteibjeicgeophaaGreatDoor.Abs
open Go
abbrev PD := List Dt → Prop
end Go.Proofs.YteibjeicgeophaaGreatDoor.Abs

namespace Go.Proofs.YteibjeicgeophaaGreatDoor.Abs
open Go
end Go.Proofs.YteibjeicgeophaaGreatDoor.Abs
