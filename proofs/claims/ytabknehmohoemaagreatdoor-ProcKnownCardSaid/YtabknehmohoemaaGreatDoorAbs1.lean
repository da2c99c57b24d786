/- An abstract machine that evaluates programs of the model in the kernel: its values, its heap, its operations, its frames. No condition: definitions alone. -/
import GoSem.Step
namespace Go.Proofs.YtabknehmohoemaaGreatDoor.Abs
open Go

/-! tries -/
inductive Tr (α : Type) where
  | nil
  | node (v : Option α) (l r : Tr α)
  deriving Inhabited

noncomputable def Tr.get {α : Type} (t : Tr α) : Nat → Option α :=
  @Tr.rec α (fun _ => Nat → Option α) (fun _ => none)
    (fun v _ _ gl gr i => @Nat.rec (fun _ => Option α) v (fun n _ => @Bool.rec (fun _ => Option α) (gr (Nat.div n 2)) (gl (Nat.div n 2)) (Nat.beq (Nat.mod n 2) 0)) i) t

noncomputable def Tr.upd {α : Type} (x : Option α) (f : Nat) : Nat → Tr α → Tr α :=
  @Nat.rec (fun _ => Nat → Tr α → Tr α) (fun _ t => t)
    (fun _ up i t => @Nat.rec (fun _ => Tr α)
      (@Tr.rec α (fun _ => Tr α) (.node x .nil .nil) (fun _ l r _ _ => .node x l r) t)
      (fun n _ => @Bool.rec (fun _ => Tr α)
        (@Tr.rec α (fun _ => Tr α) (.node none .nil (up (Nat.div n 2) .nil)) (fun v l r _ _ => .node v l (up (Nat.div n 2) r)) t)
        (@Tr.rec α (fun _ => Tr α) (.node none (up (Nat.div n 2) .nil) .nil) (fun v l r _ _ => .node v (up (Nat.div n 2) l) r) t)
        (Nat.beq (Nat.mod n 2) 0)) i) f
noncomputable def Tr.set {α : Type} (t : Tr α) (i : Nat) (x : α) : Tr α := Tr.upd (some x) (Nat.add i 1) i t
noncomputable def Tr.del {α : Type} (t : Tr α) (i : Nat) : Tr α := Tr.upd none (Nat.add i 1) i t
noncomputable def Tr.setList {α : Type} : List α → Nat → Tr α → Tr α
  | [] => fun _ t => t
  | x :: xs => fun i t => Tr.setList xs (Nat.add i 1) (t.set i x)
noncomputable def Tr.ofList {α : Type} (l : List α) : Tr α := Tr.setList l 0 .nil

/-! what may be known of a value that is not known -/
inductive KL where
  | int (n : Int)
  | str (s : List UInt8)
  deriving Inhabited
/-- int: an int of 64 bits; str: a string, of at least lo bytes, at most hi; ne: what it is not; len: what is meant is the length of the string -/
structure Know where
  int : Bool
  str : Bool
  len : Bool
  lo : Nat
  hi : Option Nat
  ne : List KL
  deriving Inhabited
noncomputable def kAny : Know := ⟨false, false, false, 0, none, []⟩
noncomputable def kInt : Know := ⟨true, false, false, 0, none, []⟩

/-! values -/
inductive AV where
  | int (k : IntKind) (n : Int)
  | bool (b : Bool)
  | str (s : List UInt8)
  | ptr (b off : Nat)
  | nilp
  | sl (b off len cap : Nat)
  | osl (b pre e0 len sz : Nat)
  | nilsl
  | mapv (r : Nat)
  | nilmap
  | fn (f : Fn) (first captured : List AV)
  | yield (l : Nat)
  | nilfn
  | iface (t : TypeId) (v : AV)
  | nili
  | agg (cs : List AV)
  | tup (vs : List AV)
  | junk
  | raw (v : Value)
  | opq (k : Know) (i : Nat)
  deriving Inhabited

def noYield : Fn → Bool
  | .yield _ => false
  | _ => true

mutual
def AV.ofConst : Value → AV
  | .int k n => .int k n
  | .bool b => .bool b
  | .string s => .str s.data.toList
  | .pointer none => .nilp
  | .slice none 0 0 => .nilsl
  | .map none => .nilmap
  | .nilFunc => .nilfn
  | .func f ⟨[]⟩ ⟨[]⟩ => match noYield f with | true => .fn f [] [] | false => .raw (.func f #[] #[])
  | .nilIface => .nili
  | .iface t v => .iface t (AV.ofConst v)
  | .agg ⟨l⟩ => .agg (AV.ofConsts l)
  | .tuple ⟨l⟩ => .tup (AV.ofConsts l)
  | v => .raw v
def AV.ofConsts : List Value → List AV
  | [] => []
  | v :: l => AV.ofConst v :: AV.ofConsts l
end

structure AD where
  target : AV
  args : List AV
  deriving Inhabited
inductive ADf where
  | call (d : AD)
  | collected (r : Nat)
  deriving Inhabited

/-- an entry of a map -/
structure ME where
  k : AV
  v : AV
  born : Nat
  deriving Inhabited

inductive Blk where
  | cells (elem : TypeId) (cs : Tr AV) (n fz : Nat) (anc : List Nat) (stale sg : Bool)
  | map (es : List ME) (clock : Nat)
  | miter (m : Option Nat) (since : Nat) (seen : List Nat) (last : Nat)
  | siter (s : List UInt8) (pos : Nat)
  | defd (ds : Option (List AD))
  | loop (st : LoopState) (pending : Option Code) (fn : FuncId) (nt : Nat) (tmps : Tr AV) (params : List Tmp) (assign body : Code) (defers : Nat)
  deriving Inhabited

structure S where
  h : Tr Blk
  next : Nat
  deriving Inhabited

inductive R (α : Type) where
  | ok (a : α)
  | bad (why : String)
  | ask (n : Nat) (k : Nat → R α)
  deriving Inhabited

noncomputable def R.bind {α β : Type} (r : R α) (f : α → R β) : R β :=
  @R.rec α (fun _ => R β) f (fun w => .bad w) (fun n _ ih => .ask n ih) r
noncomputable instance : Monad R where
  pure := .ok
  bind := R.bind

noncomputable def R.ofOpt {α : Type} (why : String) : Option α → R α
  | some a => .ok a
  | none => .bad why
noncomputable def guardB (b : Bool) (why : String) : R Unit :=
  match b with
  | true => .ok ()
  | false => .bad why

structure TI where
  desc : TypeDesc
  size : Nat
  bytes : Nat
  zero : Option (List AV)
  agg : Bool
  zv : Option AV
  deriving Inhabited

noncomputable def isAggD : TypeDesc → Bool
  | .struct _ => true
  | .array _ _ => true
  | _ => false
noncomputable def mkTI (types : Array TypeInfo) (i : TypeInfo) : TI :=
  let u : TypeDesc := match i.desc with
    | .named _ u => ((types[u]?).map (·.desc)).getD .invalid
    | d => d
  { desc := u, size := i.size, bytes := i.bytes, zero := i.zero.map fun z => AV.ofConsts z.cells.toList, agg := isAggD u, zv := i.zero.map AV.ofConst }

/-- errors.As at a struct: the variable errors.errorType; reflectlite's rtype; the handle that the variable holds; the pointer's type; the struct's, and its cells -/
structure AsE where
  g : Nat
  tR : Nat
  hb : Nat
  he : Nat
  tP : Nat
  tF : Nat
  n : Nat
inductive Ext where
  | noEscape | indexByte | count | cmp | clone | noZero
  | index (g : Nat)
  | closed (g t : Nat)
  | as (x : AsE)

/-! short words for lists that are written down -/
noncomputable def sb : List Nat → List UInt8
  | [] => []
  | n :: l => UInt8.ofNat n :: sb l
noncomputable def rp (v : AV) : Nat → List AV
  | 0 => []
  | n + 1 => v :: rp v n
noncomputable def ap : List AV → List AV → List AV
  | [] => fun m => m
  | v :: l => fun m => v :: ap l m
/-- a block of which the cells are known -/
inductive MB where
  | cells (elem : TypeId) (cs : List AV) (fz : Nat) (stale sg : Bool)
  | map (es : List ME) (clock : Nat)
  deriving Inhabited
/-- what is known of one call: what it reads, and what it leaves -/
structure Memo where
  args : List AV
  next : Nat
  pre : List (Nat × MB)
  res : AV
  last : Nat
  post : List (Nat × MB)
  deriving Inhabited
noncomputable def MB.blk : MB → Blk
  | .cells e cs fz st sg => .cells e (Tr.ofList cs) cs.length fz [] st sg
  | .map es c => .map es c
noncomputable def setPairs : List (Nat × MB) → Tr Blk → Tr Blk
  | [] => fun h => h
  | x :: l => fun h => setPairs l (h.set x.1 x.2.blk)
noncomputable def Memo.S (m : Memo) : S := ⟨setPairs m.pre .nil, m.next⟩

structure Ctx where
  P : Program
  T : Tr TI
  F : Tr Func
  nG : Nat
  eqT : Nat → Bool
  X : List (FuncId × Ext)
  M : List (FuncId × Memo)
  deriving Inhabited
noncomputable def mkCtx (P : Program) (eqT : Nat → Bool) (X : List (FuncId × Ext)) (M : List (FuncId × Memo) := []) : Ctx := { P, T := Tr.ofList (P.types.toList.map (mkTI P.types)), F := Tr.ofList P.funcs.toList, nG := P.globals.size, eqT, X, M }

noncomputable def ti (C : Ctx) (t : TypeId) : R TI := R.ofOpt "no type" (C.T.get t)
noncomputable def under (C : Ctx) (t : TypeId) : R TypeDesc := do let i ← ti C t; .ok i.desc
noncomputable def zeroOf (C : Ctx) (t : TypeId) : R (List AV) := do let i ← ti C t; R.ofOpt "no zero" i.zero

noncomputable def zeroVal (C : Ctx) (t : TypeId) : R AV := do let i ← ti C t; R.ofOpt "no zero value" i.zv

noncomputable def S.new (s : S) (b : Blk) : S := ⟨s.h.set s.next b, Nat.add s.next 1⟩

noncomputable def AV.cells : AV → R (List AV)
  | .agg cs => .ok cs
  | .junk => .bad "cells"
  | .raw v => match v with
    | .agg _ => .bad "cells"
    | v => .ok [.raw v]
  | v => .ok [v]

noncomputable def noJunk (v : AV) : R AV :=
  @AV.rec (fun _ => R AV) (fun _ => Unit) (fun _ _ => .ok v) (fun _ => .ok v) (fun _ => .ok v) (fun _ _ => .ok v) (.ok v) (fun _ _ _ _ => .ok v) (fun _ _ _ _ _ => .ok v) (.ok v) (fun _ => .ok v) (.ok v)
    (fun _ _ _ _ _ => .ok v) (fun _ => .ok v) (.ok v) (fun _ _ _ => .ok v) (.ok v) (fun _ _ => .ok v) (fun _ _ => .ok v) (.bad "junk read") (fun _ => .ok v) (fun _ _ => .ok v) () (fun _ _ _ _ => ()) v
noncomputable def getCells (cs : Tr AV) : Nat → Nat → R (List AV)
  | 0 => fun _ => .ok []
  | k + 1 => fun off =>
    match cs.get off with
    | some v => do let v ← noJunk v; let l ← getCells cs k (Nat.add off 1); .ok (v :: l)
    | none => .bad "getCells: hole"

noncomputable def rdCells (s : S) (b off k : Nat) : R (List AV) :=
  match s.h.get b with
  | some (.cells _ cs n _ _ _ _) =>
    match Nat.ble (Nat.add off k) n with
    | true => getCells cs k off
    | false => .bad "rdCells: beyond"
  | _ => .bad "rdCells: no cells"

noncomputable def ofCells : Bool → List AV → R AV
  | true => fun l => .ok (.agg l)
  | false => fun l => match l with
    | [v] => .ok v
    | _ => .bad "ofCells"

noncomputable def cellsBlk (elem : TypeId) (cs : List AV) : Blk := .cells elem (Tr.ofList cs) cs.length 0 [] false false

noncomputable def delAll : List Nat → Tr Blk → Tr Blk
  | [] => fun h => h
  | a :: l => fun h => delAll l (h.del a)

noncomputable def oneA : AV → Bool
  | .agg _ => false
  | .tup _ => false
  | .junk => false
  | .raw v => match v with
    | .agg _ => false
    | .tuple _ => false
    | _ => true
  | _ => true
noncomputable def allOne : List AV → Bool
  | [] => true
  | v :: l => match oneA v with
    | true => allOne l
    | false => false
noncomputable def wrCells (s : S) (b off : Nat) (vs : List AV) : R S :=
  match vs with
  | [] => .ok s
  | v :: vs' =>
    match s.h.get b with
    | some (.cells elem cs n fz anc stale sg) =>
      match !stale && Nat.ble (Nat.add off (v :: vs').length) n && Nat.ble fz off && allOne (v :: vs') with
      | true => .ok ⟨(delAll anc s.h).set b (.cells elem (Tr.setList (v :: vs') off cs) n fz [] false sg), s.next⟩
      | false => .bad "write"
    | _ => .bad "write: no cells"

noncomputable def loadAt (C : Ctx) (s : S) (t : TypeId) : AV → R AV
  | .ptr b off => do
    let i ← ti C t
    let l ← rdCells s b off (match i.agg with | true => i.size | false => 1)
    ofCells i.agg l
  | _ => .bad "load: not an address"

noncomputable def storeAt (C : Ctx) (s : S) (t : TypeId) (a v : AV) : R S :=
  match a with
  | .ptr b off => do
    let i ← ti C t
    let c ← v.cells
    match Nat.beq c.length i.size with
    | true => wrCells s b off c
    | false => .bad "store: size"
  | _ => .bad "store: not an address"

noncomputable def fillParts (place : Nat → Option (Nat × Nat)) : List (Nat × AV) → List AV → R (List AV)
  | [] => fun cells => .ok cells
  | (i, v) :: rest => fun cells =>
    match place i with
    | none => .bad "fill: place"
    | some (off, size) => do
      let c ← v.cells
      match Nat.beq c.length size && Nat.ble (Nat.add off size) cells.length with
      | true => fillParts place rest (cells.take off ++ c ++ cells.drop (Nat.add off size))
      | false => .bad "fill: size"

noncomputable def asInt : AV → R Int
  | .int _ n => .ok n
  | _ => .bad "int expected"
noncomputable def asIdx : AV → R Nat
  | .int _ (.ofNat n) => .ok n
  | _ => .bad "index: no natural"
noncomputable def asBoolA : AV → R Bool
  | .bool b => .ok b
  | _ => .bad "bool expected"

noncomputable def repl (zero : List AV) : Nat → List AV
  | 0 => []
  | n + 1 => zero ++ repl zero n

noncomputable def nth {α : Type} : List α → Nat → Option α
  | [] => fun _ => none
  | x :: l => fun i => match i with
    | 0 => some x
    | n + 1 => nth l n

noncomputable def partOf (C : Ctx) (t : TypeId) (cs : List AV) (off : Nat) : R AV := do
  let i ← ti C t
  match i.agg with
  | true => .ok (.agg ((cs.drop off).take i.size))
  | false => R.ofOpt "part" (nth cs off)

inductive Nx where
  | val (v : AV) (s : S)
  | skip (s : S)
  | enter (f : FuncId) (args : List AV) (s : S)
  | round (l : Nat) (args : List AV) (s : S)
  | defer (d : AD) (s : S)
  | recover (s : S)
  | pan (v : AV) (s : S)
  deriving Inhabited

noncomputable def bytesEq : List UInt8 → List UInt8 → Bool
  | [] => fun y => match y with | [] => true | _ => false
  | a :: x => fun y => match y with
    | [] => false
    | b :: y => match Nat.beq a.toNat b.toNat with | true => bytesEq x y | false => false
noncomputable def bytesLt : List UInt8 → List UInt8 → Bool
  | [] => fun y => match y with | [] => false | _ => true
  | a :: x => fun y => match y with
    | [] => false
    | b :: y => match Nat.blt a.toNat b.toNat with
      | true => true
      | false => match Nat.beq a.toNat b.toNat with | true => bytesLt x y | false => false

noncomputable def intOp : BinOp → IntKind → Int → Int → R AV
  | .add => fun k x y => .ok (.int k (k.wrap (x + y)))
  | .sub => fun k x y => .ok (.int k (k.wrap (x - y)))
  | .mul => fun k x y => .ok (.int k (k.wrap (x * y)))
  | .quo => fun k x y => match decide (y = 0) with | true => .bad "div by zero" | false => .ok (.int k (k.wrap (x.tdiv y)))
  | .rem => fun k x y => match decide (y = 0) with | true => .bad "mod by zero" | false => .ok (.int k (x.tmod y))
  | .and => fun k x y => .ok (.int k (k.wrap (BitVec.ofInt k.bits x &&& BitVec.ofInt k.bits y).toNat))
  | .or => fun k x y => .ok (.int k (k.wrap (BitVec.ofInt k.bits x ||| BitVec.ofInt k.bits y).toNat))
  | .xor => fun k x y => .ok (.int k (k.wrap (BitVec.ofInt k.bits x ^^^ BitVec.ofInt k.bits y).toNat))
  | .andNot => fun k x y => .ok (.int k (k.wrap (BitVec.ofInt k.bits x &&& ~~~ BitVec.ofInt k.bits y).toNat))
  | .eql => fun _ x y => .ok (.bool (decide (x = y)))
  | .neq => fun _ x y => .ok (.bool (!decide (x = y)))
  | .lss => fun _ x y => .ok (.bool (decide (x < y)))
  | .leq => fun _ x y => .ok (.bool (decide (x ≤ y)))
  | .gtr => fun _ x y => .ok (.bool (decide (y < x)))
  | .geq => fun _ x y => .ok (.bool (decide (y ≤ x)))
  | _ => fun _ _ _ => .bad "intOp"

noncomputable def shiftOp (op : BinOp) (k : IntKind) (x y : Int) : R AV :=
  match decide (y < 0) with
  | true => .bad "negative shift"
  | false =>
    match op with
    | .shl => .ok (.int k (k.wrap (x * 2 ^ (min y.toNat k.bits))))
    | .shr => .ok (.int k (x.fdiv (2 ^ (min y.toNat k.bits))))
    | _ => .bad "shiftOp"

noncomputable def strOp : BinOp → List UInt8 → List UInt8 → R AV
  | .add => fun x y => match Nat.ble (Nat.add x.length y.length) 1099511627776 with | true => .ok (.str (x ++ y)) | false => .bad "too long"
  | .eql => fun x y => .ok (.bool (bytesEq x y))
  | .neq => fun x y => .ok (.bool (!bytesEq x y))
  | .lss => fun x y => .ok (.bool (bytesLt x y))
  | .leq => fun x y => .ok (.bool (bytesLt x y || bytesEq x y))
  | .gtr => fun x y => .ok (.bool (!(bytesLt x y || bytesEq x y)))
  | .geq => fun x y => .ok (.bool (!bytesLt x y))
  | _ => fun _ _ => .bad "strOp"

/-- two structs, field by field -/
noncomputable def eqFields (C : Ctx) (eq : TypeId → AV → AV → R Bool) (a b : List AV) : List Field → R Bool
  | [] => .ok true
  | f :: fs => match f.name == "_" with
    | true => eqFields C eq a b fs
    | false => do
      let u ← partOf C f.type a f.offset
      let v ← partOf C f.type b f.offset
      let r ← eq f.type u v
      match r with
      | true => eqFields C eq a b fs
      | false => .ok false
/-- a place of memory that is there, and that no string shares -/
noncomputable def plainAt (s : S) (b i : Nat) : Bool :=
  match s.h.get b with
  | some (.cells _ _ n fz _ st sg) => !st && Nat.ble fz i && Nat.ble i n && !sg
  | _ => false
noncomputable def eqIn (C : Ctx) (s : S) : Nat → TypeId → AV → AV → R Bool
  | 0 => fun _ _ _ => .bad "eq: depth"
  | d + 1 => fun t x y => do
    match ← under C t with
    | .bool => match x, y with
      | .bool a, .bool b => .ok (a == b)
      | _, _ => .bad "eq bool"
    | .int _ => match x, y with
      | .int k a, .int k' b => match decide (k = k') with | true => .ok (decide (a = b)) | false => .bad "eq kinds"
      | _, _ => .bad "eq int"
    | .string => match x, y with
      | .str a, .str b => .ok (bytesEq a b)
      | _, _ => .bad "eq string"
    | .pointer e => match x, y with
      | .nilp, .nilp => .ok true
      | .nilp, .ptr _ _ => .ok false
      | .ptr _ _, .nilp => .ok false
      | .ptr a i, .ptr b j => do
        let i' ← ti C e
        guardB (!Nat.beq i'.size 0) "eq: pointers to nothing"
        match Nat.beq a b with
        | true => .ok (Nat.beq i j)
        | false => do
          guardB (plainAt s a i && plainAt s b j) "eq: pointers"
          .ok false
      | _, _ => .bad "eq pointer"
    | .interface _ => match x, y with
      | .nili, .nili => .ok true
      | .nili, .iface _ _ => .ok false
      | .iface _ _, .nili => .ok false
      | .iface tx vx, .iface ty vy =>
        match Nat.beq tx ty with
        | false => .ok false
        | true =>
          match C.P.types[tx]? with
          | some i => match i.comparable with
            | true => eqIn C s d tx vx vy
            | false => .bad "eq: not comparable"
          | none => .bad "eq: no type"
      | _, _ => .bad "eq interface"
    | .slice _ => match x, y with
      | .nilsl, .nilsl => .ok true
      | .nilsl, .sl .. => .ok false
      | .nilsl, .osl .. => .ok false
      | .sl .., .nilsl => .ok false
      | .osl .., .nilsl => .ok false
      | _, _ => .bad "eq slice"
    | .map _ _ => match x, y with
      | .nilmap, .nilmap => .ok true
      | .nilmap, .mapv _ => .ok false
      | .mapv _, .nilmap => .ok false
      | _, _ => .bad "eq map"
    | .struct fs => match x, y with
      | .agg a, .agg b => do
        guardB (!C.P.stoodInHeld t) "eq: struct"
        eqFields C (eqIn C s d) a b fs.toList
      | _, _ => .bad "eq struct"
    | .func _ _ _ => match x, y with
      | .nilfn, .nilfn => .ok true
      | .nilfn, .fn .. => .ok false
      | .fn .., .nilfn => .ok false
      | _, _ => .bad "eq func"
    | _ => .bad "eq: unsupported"

noncomputable def isShift : BinOp → Bool
  | .shl => true
  | .shr => true
  | _ => false
noncomputable def isConstO : Operand → Bool
  | .const _ => true
  | _ => false
/-- may two values be compared, where the model looks first -/
noncomputable def eqGuardA (C : Ctx) (t : TypeId) (c : Bool) (x y : AV) : R Unit :=
  match x with
  | .nili => match y with
    | .nili => guardB c "eq: two nils"
    | .raw _ => .bad "eq: raw"
    | .opq _ _ => .bad "eq: opaque"
    | _ => .ok ()
  | .agg _ => guardB (!C.P.eqGuardType C.P.depth t) "eq: guard"
  | .raw _ => .bad "eq: raw"
  | .opq _ _ => .bad "eq: opaque"
  | _ => match y with
    | .raw _ => .bad "eq: raw"
    | .opq _ _ => .bad "eq: opaque"
    | _ => .ok ()
noncomputable def evEq (C : Ctx) (s : S) (op : BinOp) (t : TypeId) (c : Bool) (x y : AV) : R AV :=
  match op with
  | .eql => do eqGuardA C t c x y; let r ← eqIn C s 100 t x y; .ok (.bool r)
  | .neq => do eqGuardA C t c x y; let r ← eqIn C s 100 t x y; .ok (.bool (!r))
  | _ => .bad "bin"
noncomputable def evBin0 (C : Ctx) (s : S) (op : BinOp) (t : TypeId) (c : Bool) (x y : AV) : R AV :=
  match x, y with
  | .int k a, .int k' b =>
    match isShift op with
    | true => shiftOp op k a b
    | false => match decide (k = k') with | true => intOp op k a b | false => .bad "bin kinds"
  | .str a, .str b => strOp op a b
  | .raw _, _ => .bad "bin: raw"
  | _, .raw _ => .bad "bin: raw"
  | .opq _ _, _ => .bad "bin: opaque"
  | _, .opq _ _ => .bad "bin: opaque"
  | x, y => evEq C s op t c x y

/-- is a constant one of those that a value is not? -/
noncomputable def klHasI (n : Int) : List KL → Bool
  | [] => false
  | x :: l => match x with
    | .int m => match decide (n = m) with
      | true => true
      | false => klHasI n l
    | .str _ => klHasI n l
noncomputable def klHasS (s : List UInt8) : List KL → Bool
  | [] => false
  | x :: l => match x with
    | .int _ => klHasS s l
    | .str t => match bytesEq s t with
      | true => true
      | false => klHasS s l
noncomputable def symNe (k : Know) (y : AV) : Bool :=
  match y with
  | .int q n => match q with
    | .i64 => k.int && !k.len && klHasI n k.ne
    | _ => false
  | .str s => k.str && !k.len && klHasS s k.ne
  | _ => false
/-- is the length of a string greater than a number? -/
noncomputable def symGt (k : Know) (y : AV) : R AV :=
  match y with
  | .int q n => match q with
    | .i64 => match n with
      | .ofNat m => match k.str && k.len with
        | true => match Nat.blt m k.lo with
          | true => .ok (.bool true)
          | false => match k.hi with
            | some h => match Nat.ble h m with
              | true => .ok (.bool false)
              | false => .bad "bin: opaque"
            | none => .bad "bin: opaque"
        | false => .bad "bin: opaque"
      | .negSucc _ => .bad "bin: opaque"
    | _ => .bad "bin: opaque"
  | _ => .bad "bin: opaque"
noncomputable def evSym (op : BinOp) (k : Know) (y : AV) : R AV :=
  match op with
  | .eql => match symNe k y with
    | true => .ok (.bool false)
    | false => .bad "bin: opaque"
  | .neq => match symNe k y with
    | true => .ok (.bool true)
    | false => .bad "bin: opaque"
  | .gtr => symGt k y
  | _ => .bad "bin: opaque"
noncomputable def evSymR (op : BinOp) (k : Know) (x : AV) : R AV :=
  match op with
  | .eql => match symNe k x with
    | true => .ok (.bool false)
    | false => .bad "bin: opaque"
  | .neq => match symNe k x with
    | true => .ok (.bool true)
    | false => .bad "bin: opaque"
  | _ => .bad "bin: opaque"
noncomputable def evBin (C : Ctx) (s : S) (op : BinOp) (t : TypeId) (c : Bool) (x y : AV) : R AV :=
  match x with
  | .opq k _ => evSym op k y
  | x => match y with
    | .opq k _ => evSymR op k x
    | y => evBin0 C s op t c x y

noncomputable def evUn (op : UnOp) (x : AV) : R AV :=
  match op, x with
  | .neg, .int k n => intOp .sub k 0 n
  | .xor, .int k n => intOp .xor k (if k.signed then -1 else k.max) n
  | .not, .bool b => .ok (.bool (!b))
  | _, _ => .bad "unary"

noncomputable def bytesAV : List UInt8 → List AV
  | [] => []
  | b :: l => .int .u8 (.ofNat b.toNat) :: bytesAV l
noncomputable def avBytes : List AV → R (List UInt8)
  | [] => .ok []
  | v :: l =>
    match v with
    | .int .u8 (.ofNat n) => do let r ← avBytes l; .ok (UInt8.ofNat n :: r)
    | _ => .bad "byte expected"

/-- how many cells are known of a block of elements of a type -/
noncomputable def oCells (s : S) (b : Nat) (e : TypeId) : Nat :=
  match s.h.get b with
  | some (.cells el _ k _ _ _ _) => match Nat.beq el e with
    | true => k
    | false => 0
  | _ => 0
/-- an open slice's cells are known up to its length -/
noncomputable def oOk (s : S) (b : Nat) (e : TypeId) (n sz sz' : Nat) : Bool := Nat.beq sz sz' && !Nat.beq sz 0 && Nat.ble (Nat.mul n sz) (oCells s b e)

/-- a slice's or a string's length, and its first cells -/
noncomputable def srcCells (s : S) (e : TypeId) (sz : Nat) : AV → R (Nat × List AV)
  | .nilsl => .ok (0, [])
  | .str l => match Nat.beq sz 1 with
    | true => .ok (l.length, bytesAV l)
    | false => .bad "src of a string"
  | .sl b off len _ => do let c ← rdCells s b off (Nat.mul len sz); .ok (len, c)
  | .osl b _ e0 len sz' => do
    guardB (oOk s b e (Nat.add e0 len) sz sz') "src size"
    let c ← rdCells s b (Nat.mul e0 sz) (Nat.mul len sz)
    .ok (len, c)
  | _ => .bad "srcCells"

noncomputable def appNew (s : S) (e : TypeId) (sz bytes n : Nat) (all : List AV) : R Nx := do
  guardB (Nat.ble (Nat.mul n bytes) 68719476736 && Nat.ble n 68719476736 && Nat.beq all.length (Nat.mul n sz)) "append: too long"
  .ok (.val (.osl s.next 0 0 n sz) (s.new (cellsBlk e all)))
noncomputable def appSl (s : S) (e : TypeId) (sz bytes b off len cap n : Nat) (new : List AV) : R Nx :=
  match Nat.ble (Nat.add len n) cap with
  | true => do
    let s' ← wrCells s b (Nat.add off (Nat.mul len sz)) new
    .ok (.val (.sl b off (Nat.add len n) cap) s')
  | false => do
    let old ← rdCells s b off (Nat.mul len sz)
    appNew s e sz bytes (Nat.add len n) (old ++ new)
noncomputable def appIn (s : S) (sz b pre e0 len n : Nat) (new : List AV) : R Nx := do
  let s' ← wrCells s b (Nat.mul (Nat.add e0 len) sz) new
  .ok (.val (.osl b pre e0 (Nat.add len n) sz) s')
noncomputable def appOut (s : S) (e : TypeId) (sz bytes b e0 len n : Nat) (cs : Tr AV) (k fz : Nat) (anc : List Nat) (sg : Bool) (new : List AV) : R Nx := do
  guardB (Nat.beq (Nat.mul (Nat.add e0 len) sz) k && Nat.ble (Nat.mul (Nat.add len n) bytes) 68719476736 && Nat.ble (Nat.add len n) 68719476736 && Nat.beq new.length (Nat.mul n sz) && Nat.ble fz k && allOne new) "append: between"
  let old ← getCells cs (Nat.mul len sz) (Nat.mul e0 sz)
  .ok (.val (.osl s.next 0 0 (Nat.add len n) sz)
    ⟨(s.h.set b (.cells e cs k fz anc true sg)).set s.next
      (.cells e (Tr.ofList (old ++ new)) (Nat.mul (Nat.add len n) sz) (Nat.sub fz (Nat.mul e0 sz)) (b :: anc) false sg),
      Nat.add s.next 1⟩)
noncomputable def appOsl (s : S) (e : TypeId) (sz bytes b pre e0 len n : Nat) (new : List AV) : R Nx :=
  match s.h.get b with
  | some (.cells el cs k fz anc false sg) => do
    guardB (Nat.beq el e) "append type"
    match Nat.ble (Nat.mul (Nat.add (Nat.add e0 len) n) sz) k with
    | true => appIn s sz b pre e0 len n new
    | false => appOut s e sz bytes b e0 len n cs k fz anc sg new
  | _ => .bad "append: base"
/-- n is not 0 where something is appended -/
noncomputable def appendTo (s : S) (e : TypeId) (sz bytes : Nat) (base : AV) (n : Nat) (new : List AV) : R Nx :=
  match base with
  | .nilsl =>
    match n with
    | 0 => .ok (.val .nilsl s)
    | m + 1 => appNew s e sz bytes (m + 1) new
  | .sl b off len cap => appSl s e sz bytes b off len cap n new
  | .osl b pre e0 len sz' =>
    match n with
    | 0 => do
      guardB (oOk s b e (Nat.add e0 len) sz sz') "append: nothing"
      .ok (.val (.osl b pre e0 len sz') s)
    | m + 1 =>
      match Nat.beq sz sz' with
      | true => appOsl s e sz bytes b pre e0 len (m + 1) new
      | false => .bad "append: size"
  | _ => .bad "append: base"

noncomputable def optIdx : Option AV → R (Option Nat)
  | none => .ok none
  | some v => do let n ← asIdx v; .ok (some n)

noncomputable def inB (a h m c : Nat) (hi mx : Option Nat) : Bool := Nat.ble m c && Nat.ble h m && Nat.ble a h && (hi.isSome || mx.isNone)
noncomputable def movedTo (m a off sz : Nat) : Nat :=
  match Nat.beq m a with
  | true => off
  | false => Nat.add off (Nat.mul a sz)
noncomputable def sliceSl (C : Ctx) (e : TypeId) (b off len cap : Nat) (lo hi mx : Option Nat) : R AV := do
  let i ← ti C e
  guardB (inB (lo.getD 0) (hi.getD len) (mx.getD cap) cap hi mx) "slice bounds"
  .ok (.sl b (movedTo (mx.getD cap) (lo.getD 0) off i.size) (Nat.sub (hi.getD len) (lo.getD 0)) (Nat.sub (mx.getD cap) (lo.getD 0)))
noncomputable def sliceOsl (C : Ctx) (s : S) (e : TypeId) (b pre e0 len sz : Nat) (lo hi mx : Option Nat) : R AV := do
  let i ← ti C e
  match mx with
  | none => do
    guardB (oOk s b e (Nat.add e0 (hi.getD len)) i.size sz && Nat.ble (lo.getD 0) (hi.getD len)) "oslice bounds"
    match lo.getD 0 with
    | 0 => .ok (.osl b pre e0 (hi.getD len) sz)
    | n + 1 => .ok (.osl b e0 (Nat.add e0 (n + 1)) (Nat.sub (hi.getD len) (n + 1)) sz)
  | some m => do
    guardB (oOk s b e (Nat.add e0 len) i.size sz && Nat.ble m len && !Nat.beq len 0 && inB (lo.getD 0) (hi.getD len) m m hi (some m)) "oslice bounds"
    .ok (.sl b (movedTo m (lo.getD 0) (Nat.mul e0 sz) sz) (Nat.sub (hi.getD len) (lo.getD 0)) (Nat.sub m (lo.getD 0)))
noncomputable def sliceOp (C : Ctx) (s : S) (t : TypeId) (x : AV) (lo hi mx : Option AV) : R AV := do
  let lo ← optIdx lo
  let hi ← optIdx hi
  let mx ← optIdx mx
  let d ← under C t
  match x with
  | .str l =>
    match d with
    | .string => do
      guardB (inB (lo.getD 0) (hi.getD l.length) l.length l.length hi mx && mx.isNone) "slice string bounds"
      .ok (.str ((l.take (hi.getD l.length)).drop (lo.getD 0)))
    | _ => .bad "slice string type"
  | .nilsl =>
    match d with
    | .slice e => do
      let _ ← ti C e
      guardB (inB (lo.getD 0) (hi.getD 0) (mx.getD 0) 0 hi mx) "slice nil bounds"
      .ok .nilsl
    | _ => .bad "slice nil type"
  | .sl b off len cap =>
    match d with
    | .slice e => sliceSl C e b off len cap lo hi mx
    | _ => .bad "slice type"
  | .osl b pre e0 len sz =>
    match d with
    | .slice e => sliceOsl C s e b pre e0 len sz lo hi mx
    | _ => .bad "oslice"
  | .ptr b off =>
    match d with
    | .array n e => sliceSl C e b off n n lo hi mx
    | _ => .bad "slice of a pointer"
  | _ => .bad "slice of?"

/-! maps: keys of integers, strings, bools -/
noncomputable def keyEq (a b : AV) : Bool :=
  match a, b with
  | .int _ x, .int _ y => decide (x = y)
  | .str x, .str y => bytesEq x y
  | .bool x, .bool y => x == y
  | _, _ => false
noncomputable def keyOf (d : TypeDesc) (v : AV) : Bool :=
  match d, v with
  | .int k, .int k' _ => decide (k = k')
  | .string, .str _ => true
  | .bool, .bool _ => true
  | _, _ => false
noncomputable def headOf (d : TypeDesc) : List ME → Bool
  | [] => true
  | e :: _ => keyOf d e.k
noncomputable def findK (k : AV) : List ME → Option ME
  | [] => none
  | e :: es => match keyEq k e.k with
    | true => some e
    | false => findK k es
noncomputable def setK (k v : AV) : List ME → List ME
  | [] => []
  | e :: es => match keyEq k e.k with
    | true => ⟨k, v, e.born⟩ :: es
    | false => e :: setK k v es
noncomputable def delK (k : AV) : List ME → List ME
  | [] => []
  | e :: es => match keyEq k e.k with
    | true => es
    | false => e :: delK k es
noncomputable def setB (b : Nat) (v : AV) : List ME → List ME
  | [] => []
  | e :: es => match Nat.beq e.born b with
    | true => ⟨e.k, v, e.born⟩ :: es
    | false => e :: setB b v es
noncomputable def findB (b : Nat) : List ME → Option ME
  | [] => none
  | e :: es => match Nat.beq e.born b with
    | true => some e
    | false => findB b es
noncomputable def hasN (k : Nat) : List Nat → Bool
  | [] => false
  | e :: es => match Nat.beq k e with
    | true => true
    | false => hasN k es
noncomputable def leftOf (seen : List Nat) : List ME → List ME
  | [] => []
  | e :: es => match hasN e.born seen with
    | true => leftOf seen es
    | false => e :: leftOf seen es
noncomputable def getMap (s : S) : AV → R (List ME × Nat)
  | .nilmap => .ok ([], 0)
  | .mapv r => match s.h.get r with
    | some (.map es c) => .ok (es, c)
    | _ => .bad "no map"
  | _ => .bad "map expected"
/-- may the key be looked for -/
noncomputable def keyFits (d : TypeDesc) (k : AV) (es : List ME) : Bool := keyOf d k && headOf d es

noncomputable def convStr (C : Ctx) (s : S) (e : TypeId) (l : List UInt8) : R Nx := do
  let i ← ti C e
  match i.desc with
  | .int .u8 => do
    guardB (Nat.beq i.size 1) "conv: byte size"
    .ok (.val (.osl s.next 0 0 l.length 1) (s.new (.cells e (Tr.ofList (bytesAV l)) l.length 0 [] false true)))
  | _ => .bad "conv string to slice"
noncomputable def convBytes (C : Ctx) (s : S) (e : TypeId) (x : AV) : R Nx := do
  let i ← ti C e
  match i.desc with
  | .int .u8 => do
    guardB (Nat.beq i.size 1) "conv: byte size"
    let r ← srcCells s e i.size x
    let bs ← avBytes r.2
    .ok (.val (.str bs) s)
  | _ => .bad "conv slice to string"
/-- a place in the heap, seen as one of another type -/
noncomputable def placeOk (C : Ctx) (s : S) (b off : Nat) (u : TypeId) : Bool :=
  match s.h.get b with
  | some (.cells el _ n _ _ _ _) => Nat.blt off n && rowAt C.P (fun t => sameLayout C.P C.P.depth t u) C.P.depth el (n / C.P.cellsOf el) off 1
  | _ => false
noncomputable def convPtr (C : Ctx) (s : S) (u : TypeId) (x : AV) : R Nx :=
  match x with
  | .nilp => .ok (.val .nilp s)
  | .ptr b off => do
    let i ← ti C u
    guardB (!Nat.beq i.size 0 && placeOk C s b off u) "conv: place"
    .ok (.val (.ptr b off) s)
  | _ => .bad "conv: pointer"
noncomputable def evConv (C : Ctx) (s : S) (src dst : TypeId) (x : AV) : R Nx := do
  let a ← under C src
  let b ← under C dst
  match b with
  | .int k => match x with
    | .int _ n => .ok (.val (.int k (k.wrap n)) s)
    | _ => .bad "conv to int"
  | .string => match x with
    | .str l => .ok (.val (.str l) s)
    | .int _ n => .ok (.val (.str (Utf8.encode n).data.toList) s)
    | x => match a with
      | .slice e => convBytes C s e x
      | _ => .bad "conv to string"
  | .slice e => match x with
    | .str l => convStr C s e l
    | _ => .bad "conv to slice"
  | .unsafePointer => match a with
    | .pointer u => convPtr C s u x
    | _ => .bad "conv to a plain pointer"
  | .pointer u => match a with
    | .unsafePointer => convPtr C s u x
    | _ => .bad "conv to pointer"
  | _ => .bad "conv"

noncomputable def taHolds (ok : Bool) (v : AV) : R AV :=
  match ok with
  | true => .ok (.tup [v, .bool true])
  | false => .ok v
noncomputable def taFails (C : Ctx) (asserted : TypeId) (ok : Bool) : R AV :=
  match ok with
  | true => do
    let v ← zeroVal C asserted
    .ok (.tup [v, .bool false])
  | false => .bad "type assertion fails"
noncomputable def taIface (C : Ctx) (want : Array (String × TypeId)) (t : TypeId) (x : AV) (asserted : TypeId) (ok : Bool) : R AV :=
  match C.P.types[t]? with
  | some info => match Instr.missingMethod want info.methods with
    | none => taHolds ok x
    | some _ => taFails C asserted ok
  | none => .bad "TA: no type"
noncomputable def evTA (C : Ctx) (x : AV) (asserted : TypeId) (ok : Bool) : R AV := do
  let d ← under C asserted
  match x with
  | .nili => taFails C asserted ok
  | .iface t v => match d with
    | .interface want => taIface C want t (.iface t v) asserted ok
    | _ => match Nat.beq t asserted with
      | true => taHolds ok v
      | false => taFails C asserted ok
  | _ => .bad "TA"

noncomputable def findByte (c : Nat) : List UInt8 → Nat → Int
  | [] => fun _ => -1
  | b :: l => fun i => match Nat.beq b.toNat c with | true => .ofNat i | false => findByte c l (Nat.add i 1)
noncomputable def isPre : List UInt8 → List UInt8 → Bool
  | [] => fun _ => true
  | a :: x => fun y => match y with
    | [] => false
    | b :: y => match Nat.beq a.toNat b.toNat with | true => isPre x y | false => false
noncomputable def findSub (p : List UInt8) : List UInt8 → Nat → Int
  | [] => fun i => match p with | [] => .ofNat i | _ => -1
  | b :: l => fun i => match isPre p (b :: l) with | true => .ofNat i | false => findSub p l (Nat.add i 1)
noncomputable def countByte (c : Nat) : List UInt8 → Nat
  | [] => 0
  | b :: l => match Nat.beq b.toNat c with | true => Nat.add (countByte c l) 1 | false => countByte c l
noncomputable def bytesOf (x : AV) : R (List UInt8) :=
  match x with
  | .str l => .ok l
  | _ => .bad "bytesOf"
noncomputable def junks : Nat → List AV
  | 0 => []
  | n + 1 => .junk :: junks n

noncomputable def extOf (f : FuncId) : List (FuncId × Ext) → Option Ext
  | [] => none
  | x :: l => match Nat.beq x.1 f with
    | true => some x.2
    | false => extOf f l
noncomputable def cmpOf (a b : List UInt8) : Int :=
  match bytesLt a b with
  | true => -1
  | false => match bytesEq a b with
    | true => 0
    | false => 1
noncomputable def extNoZero (C : Ctx) (s : S) (fn : Func) (n : Nat) : R Nx := do
  let t ← R.ofOpt "MakeNoZero type" (fn.resultTypes[0]?)
  match ← under C t with
  | .slice e => do
    let i ← ti C e
    guardB (Nat.ble n 1099511627776 && Nat.beq i.size 1) "MakeNoZero: too long"
    .ok (.val (.osl s.next 0 0 n 1) (s.new (.cells e (Tr.ofList (junks n)) n 0 [] false false)))
  | _ => .bad "MakeNoZero slice"
noncomputable def asByteA : AV → R Nat
  | .int k (.ofNat c) => match k with
    | .u8 => match Nat.blt c 256 with
      | true => .ok c
      | false => .bad "byte"
    | _ => .bad "byte"
  | _ => .bad "byte"
/-- does the one begin the other? -/
noncomputable def preB : List UInt8 → List UInt8 → Bool
  | [] => fun _ => true
  | b :: l => fun m => match m with
    | [] => false
    | c :: m => match Nat.beq b.toNat c.toNat with
      | true => preB l m
      | false => false
/-- where 'sub' is first found -/
noncomputable def indexL (sub : List UInt8) : List UInt8 → Nat → Int
  | [] => fun k => match sub with
    | [] => .ofNat k
    | _ :: _ => -1
  | b :: l => fun k => match preB sub (b :: l) with
    | true => .ofNat k
    | false => indexL sub l (Nat.add k 1)
noncomputable def externCall (C : Ctx) (s : S) (fn : Func) (e : Ext) (args : List AV) : R Nx :=
  match e with
  | .noEscape => match args with
    | [x] => .ok (.val x s)
    | _ => .bad "NoEscape"
  | .indexByte => match args with
    | [x, c] => do let l ← bytesOf x; let c ← asByteA c; .ok (.val (.int .i64 (findByte c l 0)) s)
    | _ => .bad "IndexByte"
  | .count => match args with
    | [x, c] => do let l ← bytesOf x; let c ← asByteA c; .ok (.val (.int .i64 (.ofNat (countByte c l))) s)
    | _ => .bad "Count"
  | .cmp => match args with
    | [x, y] => do let a ← bytesOf x; let b ← bytesOf y; .ok (.val (.int .i64 (cmpOf a b)) s)
    | _ => .bad "cmpstring"
  | .clone => match args with
    | [x] => match x with
      | .iface t m => match m with
        | .mapv r => do
          let m ← getMap s (.mapv r)
          .ok (.val (.iface t (.mapv s.next)) (s.new (.map m.1 m.2)))
        | _ => .bad "clone"
      | _ => .bad "clone"
    | _ => .bad "clone"
  | .noZero => match args with
    | [x] => match x with
      | .int k (.ofNat n) => match k with
        | .i64 => extNoZero C s fn n
        | _ => .bad "MakeNoZero"
      | _ => .bad "MakeNoZero"
    | _ => .bad "MakeNoZero"
  | .index _ => .bad "index: no extern"
  | .closed _ _ => .bad "closed: no extern"
  | .as _ => .bad "as: no extern"

noncomputable def callF (C : Ctx) (s : S) (f : FuncId) (args : List AV) : R Nx :=
  match C.F.get f with
  | none => .bad "no function"
  | some fn =>
    match fn.body with
    | some _ => .ok (.enter f args s)
    | none => match extOf f C.X with
      | some e => externCall C s fn e args
      | none => .bad ("extern " ++ fn.name)

noncomputable def methodRow (P : Program) (t : TypeId) (name : String) : Option (FuncId × Bool) :=
  match P.types[t]? with
  | none => none
  | some i =>
    match i.methods.find? (·.name == name) with
    | none => none
    | some m => match m.path.isEmpty with | true => m.func | false => none

noncomputable def callM (C : Ctx) (s : S) (recv : AV) (name : String) (args : List AV) : R Nx :=
  match recv with
  | .iface t v =>
    match methodRow C.P t name with
    | none => .bad ("method " ++ name)
    | some (f, ptrRecv) => do
      match ← under C t, ptrRecv with
      | .pointer _, true => callF C s f (v :: args)
      | .pointer _, false => .bad "method: value receiver behind a pointer"
      | _, false => callF C s f (v :: args)
      | _, true => .bad "method: pointer receiver of a value"
  | _ => .bad "callM"

noncomputable def invokeF (C : Ctx) (s : S) (f : AV) (args : List AV) : R Nx :=
  match f with
  | .fn g first cap =>
    match g with
    | .func g => callF C s g (first ++ args ++ cap)
    | .method name =>
      match first ++ args with
      | r :: rest => callM C s r name rest
      | [] => .bad "method value"
    | .methodOf t name =>
      match first ++ args with
      | r :: rest => do
        match ← under C t with
        | .interface _ => callM C s r name rest
        | _ => callM C s (.iface t r) name rest
      | [] => .bad "method expr"
    | _ => .bad "call: via"
  | .yield l => .ok (.round l args s)
  | _ => .bad "call of what"

noncomputable def minL (k : IntKind) : List AV → Int → R AV
  | [] => fun m => .ok (.int k m)
  | v :: l => fun m => match v with
    | .int _ n => minL k l (match decide (n < m) with | true => n | false => m)
    | _ => .bad "min"
noncomputable def maxL (k : IntKind) : List AV → Int → R AV
  | [] => fun m => .ok (.int k m)
  | v :: l => fun m => match v with
    | .int _ n => maxL k l (match decide (m < n) with | true => n | false => m)
    | _ => .bad "max"

noncomputable def isIntD : TypeDesc → Bool
  | .int _ => true
  | _ => false
/-- what is appended: the cells of a slice or a string; of make(..): zeros -/
noncomputable def appSrc (s : S) (e : TypeId) (sz bytes : Nat) (z : List AV) (x : AV) : Bool → R (Nat × List AV)
  | true => do
    let n ← asIdx x
    guardB (Nat.ble (Nat.mul n bytes) 68719476736 && Nat.ble n 68719476736) "append of make: too long"
    .ok (n, repl z n)
  | false => srcCells s e sz x
noncomputable def biAppend (C : Ctx) (s : S) (argTypes : List TypeId) (args : List AV) : R Nx :=
  match args, argTypes with
  | [base, x], st :: xt :: _ => do
    match ← under C st with
    | .slice e => do
      let i ← ti C e
      let xd ← under C xt
      guardB (!Nat.beq i.size 0) "append: of nothing"
      let z ← zeroOf C e
      guardB (Nat.beq z.length i.size) "append: zero"
      let r ← appSrc s e i.size i.bytes z x (isIntD xd)
      appendTo s e i.size i.bytes base r.1 r.2
    | _ => .bad "append slice"
  | _, _ => .bad "append"
noncomputable def lenOfA (C : Ctx) (s : S) (d : TypeDesc) (x : AV) : R Nat :=
  match d with
  | .string => match x with
    | .str l => .ok l.length
    | _ => .bad "len of a string"
  | .array n _ => .ok n
  | .pointer a => do
    match ← under C a with
    | .array n _ => .ok n
    | _ => .bad "len of a pointer"
  | .slice _ => match x with
    | .nilsl => .ok 0
    | .sl _ _ n _ => .ok n
    | .osl _ _ _ n _ => .ok n
    | _ => .bad "len of a slice"
  | .map _ _ => do
    let m ← getMap s x
    .ok m.1.length
  | _ => .bad "len"
/-- the length of a string that is not known -/
noncomputable def lenSym (d : TypeDesc) (x : AV) : Option AV :=
  match d with
  | .string => match x with
    | .opq k i => match k.str && !k.len with
      | true => some (.opq ⟨k.int, k.str, true, k.lo, k.hi, k.ne⟩ i)
      | false => none
    | _ => none
  | _ => none
noncomputable def biLen (C : Ctx) (s : S) (argTypes : List TypeId) (args : List AV) : R Nx :=
  match args, argTypes with
  | [x], t :: _ => do
    let d ← under C t
    match lenSym d x with
    | some v => .ok (.val v s)
    | none => do
      let n ← lenOfA C s d x
      .ok (.val (.int .i64 (.ofNat n)) s)
  | _, _ => .bad "len"
noncomputable def capOfA (x : AV) : R Nat :=
  match x with
  | .nilsl => .ok 0
  | .sl _ _ _ c => .ok c
  | _ => .bad "cap: open"
noncomputable def biCap (C : Ctx) (s : S) (argTypes : List TypeId) (args : List AV) : R Nx :=
  match args, argTypes with
  | [x], t :: _ => do
    match ← under C t with
    | .slice _ => do
      let n ← capOfA x
      .ok (.val (.int .i64 (.ofNat n)) s)
    | _ => .bad "cap"
  | _, _ => .bad "cap"
noncomputable def copyTo (s : S) (e : TypeId) (sz : Nat) (r : Nat × List AV) (dst : AV) : R Nx :=
  match dst with
  | .nilsl => .ok (.val (.int .i64 0) s)
  | .sl b off len _ => do
    let s' ← wrCells s b off (r.2.take (Nat.mul (Nat.min r.1 len) sz))
    .ok (.val (.int .i64 (.ofNat (Nat.min r.1 len))) s')
  | .osl b _ e0 len sz' => do
    guardB (oOk s b e (Nat.add e0 len) sz sz') "copy size"
    let s' ← wrCells s b (Nat.mul e0 sz') (r.2.take (Nat.mul (Nat.min r.1 len) sz))
    .ok (.val (.int .i64 (.ofNat (Nat.min r.1 len))) s')
  | _ => .bad "copy dst"
noncomputable def biCopy (C : Ctx) (s : S) (argTypes : List TypeId) (args : List AV) : R Nx :=
  match args, argTypes with
  | [dst, src], st :: _ => do
    match ← under C st with
    | .slice e => do
      let i ← ti C e
      let r ← srcCells s e i.size src
      copyTo s e i.size r dst
    | _ => .bad "copy slice"
  | _, _ => .bad "copy"
noncomputable def biDelete (C : Ctx) (s : S) (argTypes : List TypeId) (args : List AV) : R Nx :=
  match args, argTypes with
  | [x, k], t :: _ => do
    match ← under C t with
    | .map kt _ => do
      let d ← under C kt
      let m ← getMap s x
      guardB (keyFits d k m.1) "delete: key"
      match x with
      | .mapv r => .ok (.val (.tup []) ⟨s.h.set r (.map (delK k m.1) m.2), s.next⟩)
      | _ => .ok (.val (.tup []) s)
    | _ => .bad "delete"
  | _, _ => .bad "delete"
noncomputable def clearIn (C : Ctx) (s : S) (e : TypeId) (x : AV) : R Nx :=
  match x with
  | .sl b off len _ => do
    let z ← zeroOf C e
    let s' ← wrCells s b off (repl z len)
    .ok (.val (.tup []) s')
  | .osl b _ e0 len sz => do
    let i ← ti C e
    guardB (oOk s b e (Nat.add e0 len) i.size sz) "clear size"
    let z ← zeroOf C e
    let s' ← wrCells s b (Nat.mul e0 sz) (repl z len)
    .ok (.val (.tup []) s')
  | _ => .bad "clear slice"
noncomputable def biClear (C : Ctx) (s : S) (argTypes : List TypeId) (args : List AV) : R Nx :=
  match args, argTypes with
  | [x], st :: _ => do
    match ← under C st with
    | .slice e => match x with
      | .nilsl => .ok (.val (.tup []) s)
      | x => clearIn C s e x
    | .map _ _ => match x with
      | .nilmap => .ok (.val (.tup []) s)
      | .mapv r => do
        let m ← getMap s (.mapv r)
        .ok (.val (.tup []) ⟨s.h.set r (.map [] m.2), s.next⟩)
      | _ => .bad "clear map"
    | _ => .bad "clear"
  | _, _ => .bad "clear"
noncomputable def strAt (C : Ctx) (s : S) (u : TypeId) (b off n : Nat) : R Nx :=
  match s.h.get b with
  | some (.cells e cs k fz anc false false) => do
    guardB (Nat.ble (Nat.add off n) k && rowAt C.P (fun t => sameLayout C.P C.P.depth t u) C.P.depth e (k / C.P.cellsOf e) off n && Nat.ble n 1099511627776) "String of memory: beyond"
    let l ← getCells cs n off
    let bs ← avBytes l
    .ok (.val (.str bs) ⟨s.h.set b (.cells e cs k (Nat.max fz (Nat.add off n)) anc false false), s.next⟩)
  | _ => .bad "String of memory: block"
noncomputable def biString (C : Ctx) (s : S) (argTypes : List TypeId) (args : List AV) : R Nx :=
  match args, argTypes with
  | [p, n], t :: _ => do
    let n ← asIdx n
    match n with
    | 0 => match p with
      | .nilp => .ok (.val (.str []) s)
      | .ptr _ _ => .ok (.val (.str []) s)
      | _ => .bad "String of memory"
    | m + 1 => match p with
      | .ptr b off => do
        match ← under C t with
        | .pointer u => strAt C s u b off (m + 1)
        | _ => .bad "String of memory: type"
      | _ => .bad "String of memory"
  | _, _ => .bad "String of memory"
noncomputable def biSliceData (C : Ctx) (s : S) (argTypes : List TypeId) (args : List AV) : R Nx :=
  match args with
  | [.nilsl] => .ok (.val .nilp s)
  | [.sl b off _ c] => match Nat.beq c 0 with | true => .bad "SliceData cap 0" | false => .ok (.val (.ptr b off) s)
  | [.osl b _ e0 len sz] =>
    match argTypes, len with
    | st :: _, _ + 1 => do
      match ← under C st with
      | .slice e => do
        let i ← ti C e
        guardB (oOk s b e (Nat.add e0 len) i.size sz) "SliceData open"
        .ok (.val (.ptr b (Nat.mul e0 sz)) s)
      | _ => .bad "SliceData type"
    | _, _ => .bad "SliceData"
  | _ => .bad "SliceData"
noncomputable def biMin (s : S) (args : List AV) : R Nx :=
  match args with
  | .int k n :: l => do let v ← minL k l n; .ok (.val v s)
  | _ => .bad "min"
noncomputable def biMax (s : S) (args : List AV) : R Nx :=
  match args with
  | .int k n :: l => do let v ← maxL k l n; .ok (.val v s)
  | _ => .bad "max"
noncomputable def biPanic (s : S) (args : List AV) : R Nx :=
  match args with
  | [.iface t v] => .ok (.pan (.iface t v) s)
  | _ => .bad "panic"

noncomputable def evBuiltin : Builtin → Ctx → S → List TypeId → List AV → R Nx
  | .append => biAppend
  | .len => biLen
  | .cap => biCap
  | .copy => biCopy
  | .delete => biDelete
  | .clear => biClear
  | .min => fun _ s _ => biMin s
  | .max => fun _ s _ => biMax s
  | .recover => fun _ s _ _ => .ok (.recover s)
  | .panic => fun _ s _ => biPanic s
  | .unsafeString => biString
  | .unsafeSliceData => biSliceData
  | _ => fun _ _ _ _ => .bad "builtin"

noncomputable def getPlaces (C : Ctx) : List Field → R (List (Nat × Nat))
  | [] => .ok []
  | f :: fs => do
    let i ← ti C f.type
    let l ← getPlaces C fs
    .ok ((f.offset, i.size) :: l)

/-! operands -/
noncomputable def evA (C : Ctx) (t : Tr AV) (x : Operand) : R AV :=
  @Operand.rec (fun _ => R AV) (fun d => @Option.rec AV (fun _ => R AV) (.ok (.tup [])) (fun v => noJunk v) (t.get d))
    (fun v => .ok (AV.ofConst v)) (fun g => @Bool.rec (fun _ => R AV) (.bad "global") (.ok (.ptr g 0)) (Nat.blt g C.nG)) (fun f => .ok (.fn (.func f) [] [])) x
noncomputable def evL (C : Ctx) (t : Tr AV) : List Operand → R (List AV)
  | [] => .ok []
  | x :: l => do let v ← evA C t x; let r ← evL C t l; .ok (v :: r)
noncomputable def evO (C : Ctx) (t : Tr AV) : Option Operand → R (Option AV)
  | none => .ok none
  | some x => do let v ← evA C t x; .ok (some v)
noncomputable def evPs (C : Ctx) (t : Tr AV) : List (Nat × Operand) → R (List (Nat × AV))
  | [] => .ok []
  | (i, x) :: l => do let v ← evA C t x; let r ← evPs C t l; .ok ((i, v) :: r)

abbrev OpF := TypeId → Ctx → Tr AV → S → R Nx
noncomputable def opMove (x : Operand) : OpF := fun _ C t s => do let v ← evA C t x; .ok (.val v s)
noncomputable def opPick (c a b : Operand) : OpF := fun _ C t s => do
  let c ← evA C t c
  match c with
  | .bool true => do let v ← evA C t a; .ok (.val v s)
  | .bool false => do let v ← evA C t b; .ok (.val v s)
  | _ => .bad "pick"
noncomputable def opAlloc (e : TypeId) : OpF := fun _ C _ s => do
  let i ← ti C e
  let z ← R.ofOpt "no zero" i.zero
  guardB (Nat.beq z.length i.size) "alloc: size"
  .ok (.val (.ptr s.next 0) (s.new (cellsBlk e z)))
noncomputable def opBox (e : TypeId) (x : Operand) : OpF := fun _ C t s => do
  let v ← evA C t x
  let c ← v.cells
  let i ← ti C e
  guardB (Nat.beq c.length i.size) "box: size"
  .ok (.val (.ptr s.next 0) (s.new (cellsBlk e c)))
noncomputable def opBuild (ty : TypeId) (parts : Array (Nat × Operand)) : OpF := fun _ C t s => do
  let zero ← zeroOf C ty
  let ps ← evPs C t parts.toList
  match ← under C ty with
  | .struct fs => do
    let pl ← getPlaces C fs.toList
    let cs ← fillParts (nth pl) ps zero
    .ok (.val (.agg cs) s)
  | .array _ e => do
    let i ← ti C e
    let cs ← fillParts (fun k => some (Nat.mul k i.size, i.size)) ps zero
    .ok (.val (.agg cs) s)
  | _ => .bad "build"
noncomputable def zeroFor (C : Ctx) (e : TypeId) (n sz : Nat) : R (List AV) :=
  match Nat.beq n 0 with
  | true => .ok []
  | false => do
    let z ← zeroOf C e
    guardB (Nat.beq z.length sz) "zero size"
    .ok z
noncomputable def opBuildSlice (ty : TypeId) (len : Nat) (parts : Array (Nat × Operand)) : OpF := fun _ C t s => do
  match ← under C ty with
  | .slice e => do
    let i ← ti C e
    guardB (Nat.ble (Nat.mul len i.size) 16777216) "buildSlice: too long"
    let zero ← zeroFor C e (Nat.mul len i.size) i.size
    let ps ← evPs C t parts.toList
    let cs ← fillParts (fun k => some (Nat.mul k i.size, i.size)) ps (repl zero len)
    .ok (.val (.sl s.next 0 len len) (s.new (cellsBlk e cs)))
  | _ => .bad "buildSlice"
noncomputable def opLoad (ty : TypeId) (a : Operand) : OpF := fun _ C t s => do let p ← evA C t a; let v ← loadAt C s ty p; .ok (.val v s)
noncomputable def opStore (ty : TypeId) (a x : Operand) : OpF := fun _ C t s => do let p ← evA C t a; let v ← evA C t x; let s' ← storeAt C s ty p v; .ok (.skip s')
noncomputable def opNilCheck (x : Operand) : OpF := fun _ C t s => do
  let v ← evA C t x
  match v with
  | .ptr _ _ => .ok (.val v s)
  | .sl .. => .ok (.val v s)
  | .osl .. => .ok (.val v s)
  | .iface _ _ => .ok (.val v s)
  | .yield _ => .ok (.val v s)
  | .fn g _ _ => match g with
    | .func _ => .ok (.val v s)
    | _ => .bad "nilCheck of a method value"
  | _ => .bad "nil dereference"
noncomputable def opBin (op : BinOp) (ty : TypeId) (x y : Operand) : OpF := fun _ C t s => do
  let a ← evA C t x; let b ← evA C t y; let v ← evBin C s op ty (isConstO x || isConstO y) a b; .ok (.val v s)
noncomputable def opUn (op : UnOp) (x : Operand) : OpF := fun _ C t s => do let a ← evA C t x; let v ← evUn op a; .ok (.val v s)
noncomputable def opConv (src dst : TypeId) (x : Operand) : OpF := fun _ C t s => do let a ← evA C t x; evConv C s src dst a
noncomputable def notIface : TypeDesc → R Unit
  | .interface _ => .bad "makeInterface"
  | _ => .ok ()
noncomputable def opIface (ty : TypeId) (x : Operand) : OpF := fun _ C t s => do
  let d ← under C ty
  notIface d
  let v ← evA C t x
  .ok (.val (.iface ty v) s)
noncomputable def opFunc (fn : Fn) (first cap : Array Operand) : OpF := fun _ C t s => do
  guardB (noYield fn) "makeFunc"
  let a ← evL C t first.toList
  let b ← evL C t cap.toList
  .ok (.val (.fn fn a b) s)
noncomputable def opMap (ty : TypeId) (r : Option Operand) : OpF := fun _ C t s =>
  match r with
  | none => .ok (.val (.mapv s.next) (s.new (.map [] 0)))
  | some x => do
    match ← under C ty with
    | .map _ _ => do
      let v ← evA C t x
      let _ ← asInt v
      .ok (.val (.mapv s.next) (s.new (.map [] 0)))
    | _ => .bad "makeMap"
noncomputable def opMakeSlice (ty : TypeId) (l c : Operand) : OpF := fun _ C t s => do
  match ← under C ty with
  | .slice e => do
    let l ← evA C t l
    let l ← asIdx l
    let c ← evA C t c
    let c ← asIdx c
    let i ← ti C e
    guardB (Nat.ble l c && Nat.ble (Nat.mul c i.bytes) 1099511627776 && Nat.ble c 1099511627776) "makeSlice bounds"
    let z ← zeroFor C e (Nat.mul c i.size) i.size
    .ok (.val (.sl s.next 0 l c) (s.new (cellsBlk e (repl z c))))
  | _ => .bad "makeSlice"
noncomputable def opSlice (ty : TypeId) (x : Operand) (lo hi mx : Option Operand) : OpF := fun _ C t s => do
  let v ← evA C t x
  let a ← evO C t lo
  let b ← evO C t hi
  let c ← evO C t mx
  let r ← sliceOp C s ty v a b c
  .ok (.val r s)
noncomputable def opFieldAddr (ty : TypeId) (x : Operand) (f : Nat) : OpF := fun _ C t s => do
  match ← under C ty with
  | .struct fs => do
    let fd ← R.ofOpt "fieldAddr field" (nth fs.toList f)
    let i ← ti C fd.type
    guardB (!Nat.beq i.size 0) "fieldAddr: size 0"
    let v ← evA C t x
    match v with
    | .ptr b off => .ok (.val (.ptr b (Nat.add off fd.offset)) s)
    | _ => .bad "fieldAddr ptr"
  | _ => .bad "fieldAddr"
noncomputable def opField (ty : TypeId) (x : Operand) (f : Nat) : OpF := fun _ C t s => do
  match ← under C ty with
  | .struct fs => do
    let fd ← R.ofOpt "field" (nth fs.toList f)
    let v ← evA C t x
    match v with
    | .agg cs => do let r ← partOf C fd.type cs fd.offset; .ok (.val r s)
    | _ => .bad "field agg"
  | _ => .bad "field"
noncomputable def opIndexAddr (ty : TypeId) (x ix : Operand) : OpF := fun _ C t s => do
  let i ← evA C t ix
  let i ← asIdx i
  let v ← evA C t x
  let d ← under C ty
  match v with
  | .ptr b off => match d with
    | .array n e => match Nat.blt i n with
      | true => do let e ← ti C e; .ok (.val (.ptr b (Nat.add off (Nat.mul i e.size))) s)
      | false => .bad "index array"
    | _ => .bad "indexAddr ptr"
  | .sl b off len _ => match d with
    | .slice e => match Nat.blt i len with
      | true => do let e ← ti C e; .ok (.val (.ptr b (Nat.add off (Nat.mul i e.size))) s)
      | false => .bad "index slice"
    | _ => .bad "indexAddr slice"
  | .osl b _ e0 len sz => match d with
    | .slice et => match Nat.blt i len with
      | true => do
        let e ← ti C et
        guardB (oOk s b et (Nat.add e0 len) e.size sz) "index size"
        .ok (.val (.ptr b (Nat.mul (Nat.add e0 i) sz)) s)
      | false => .bad "index oslice"
    | _ => .bad "indexAddr oslice"
  | _ => .bad "indexAddr"
noncomputable def opIndex (ty : TypeId) (x ix : Operand) : OpF := fun _ C t s => do
  let i ← evA C t ix
  let i ← asIdx i
  let v ← evA C t x
  match v with
  | .str l => do
    match ← under C ty with
    | .string => match nth l i with
      | some b => .ok (.val (.int .u8 (.ofNat b.toNat)) s)
      | none => .bad "index string"
    | _ => .bad "index string type"
  | .agg cs => do
    match ← under C ty with
    | .array n e => match Nat.blt i n with
      | true => do let j ← ti C e; let r ← partOf C e cs (Nat.mul i j.size); .ok (.val r s)
      | false => .bad "index agg"
    | _ => .bad "index agg type"
  | _ => .bad "index"
noncomputable def withOk (ok b : Bool) (v : AV) : AV :=
  match ok with
  | true => .tup [v, .bool b]
  | false => v
/-- is a text that is not known surely none of the keys? -/
noncomputable def allNe (k : Know) : List ME → Bool
  | [] => true
  | e :: es => match e.k with
    | .str s => match klHasS s k.ne with
      | true => allNe k es
      | false => false
    | _ => false
noncomputable def absentK (d : TypeDesc) (k : AV) (es : List ME) : Bool :=
  match d with
  | .string => match k with
    | .opq k _ => k.str && !k.len && allNe k es
    | _ => false
  | _ => false
noncomputable def opLookup (ty : TypeId) (x k : Operand) (ok : Bool) : OpF := fun _ C t s => do
  match ← under C ty with
  | .map kt e => do
    let d ← under C kt
    let m ← evA C t x
    let m ← getMap s m
    let k ← evA C t k
    match absentK d k m.1 with
    | true => do
      let v ← zeroVal C e
      .ok (.val (withOk ok false v) s)
    | false => do
      guardB (keyFits d k m.1) "lookup: key"
      match findK k m.1 with
      | some e => .ok (.val (withOk ok true e.v) s)
      | none => do
        let v ← zeroVal C e
        .ok (.val (withOk ok false v) s)
  | _ => .bad "lookup"
noncomputable def putK (s : S) (r : Nat) (k v : AV) (m : List ME × Nat) : S :=
  match findK k m.1 with
  | some _ => ⟨s.h.set r (.map (setK k v m.1) m.2), s.next⟩
  | none => ⟨s.h.set r (.map (m.1 ++ [⟨k, v, m.2⟩]) (Nat.add m.2 1)), s.next⟩
noncomputable def opMapUpdate (ty : TypeId) (m k x : Operand) : OpF := fun _ C t s => do
  match ← under C ty with
  | .map kt _ => do
    let d ← under C kt
    let mv ← evA C t m
    match mv with
    | .mapv r => do
      let m ← getMap s (.mapv r)
      let k ← evA C t k
      let x ← evA C t x
      guardB (keyFits d k m.1) "update: key"
      .ok (.skip (putK s r k x m))
    | _ => .bad "mapUpdate"
  | _ => .bad "mapUpdate"
noncomputable def opMapEntry (ty : TypeId) (m k : Operand) : OpF := fun _ C t s => do
  match ← under C ty with
  | .map kt et => do
    let d ← under C kt
    let mv ← evA C t m
    match mv with
    | .mapv r => do
      let m ← getMap s (.mapv r)
      let k ← evA C t k
      guardB (keyFits d k m.1) "entry: key"
      match findK k m.1 with
      | some e => .ok (.val (.tup [e.v, .int .i64 (.ofNat e.born)]) ⟨s.h.set r (.map (setK k e.v m.1) m.2), s.next⟩)
      | none => do
        let v ← zeroVal C et
        .ok (.val (.tup [v, .int .i64 (.ofNat m.2)]) ⟨s.h.set r (.map (m.1 ++ [⟨k, v, m.2⟩]) (Nat.add m.2 1)), s.next⟩)
    | _ => .bad "mapEntry"
  | _ => .bad "mapEntry"
noncomputable def opEntryStore (m b x : Operand) : OpF := fun _ C t s => do
  let mv ← evA C t m
  match mv with
  | .mapv r => do
    let m ← getMap s (.mapv r)
    let b ← evA C t b
    let b ← asIdx b
    let x ← evA C t x
    match findB b m.1 with
    | some _ => .ok (.skip ⟨s.h.set r (.map (setB b x m.1) m.2), s.next⟩)
    | none => .bad "entryStore"
  | _ => .bad "entryStore"
noncomputable def rangeOf (s : S) (d : TypeDesc) (v : AV) : R Blk :=
  match d with
  | .string => match v with
    | .str l => .ok (.siter l 0)
    | _ => .bad "range"
  | .map _ _ => match v with
    | .nilmap => .ok (.miter none 0 [] 0)
    | .mapv r => do
      let m ← getMap s (.mapv r)
      .ok (.miter (some r) m.2 [] m.2)
    | _ => .bad "range"
  | _ => .bad "range"
noncomputable def opRange (ty : TypeId) (x : Operand) : OpF := fun _ C t s => do
  let v ← evA C t x
  let d ← under C ty
  let b ← rangeOf s d v
  .ok (.val (.ptr s.next 0) (s.new b))
noncomputable def stepIter (s : S) (r m since : Nat) (seen : List Nat) (clock : Nat) (e : ME) : R Nx :=
  .ok (.val (.tup [.bool true, e.k, e.v]) ⟨s.h.set r (.miter (some m) since (e.born :: seen) clock), s.next⟩)
noncomputable def stepStr (s : S) (r : Nat) (l : List UInt8) (pos : Nat) (c : Nat × Nat) : R Nx :=
  .ok (.val (.tup [.bool true, .int .i64 (.ofNat pos), .int .i32 (.ofNat c.1)]) ⟨s.h.set r (.siter l (Nat.add pos c.2)), s.next⟩)
noncomputable def allBelow (n : Nat) : List ME → Bool
  | [] => true
  | e :: es => match Nat.blt e.born n with
    | true => allBelow n es
    | false => false
noncomputable def nextMap (s : S) (r m since : Nat) (seen : List Nat) (es : List ME) (clock : Nat) : R Nx :=
  match leftOf seen es with
  | [] => .ok (.val (.tup [.bool false]) s)
  | [e] => stepIter s r m since seen clock e
  | l => .ask l.length fun i => match nth l i with
    | some x => stepIter s r m since seen clock x
    | none => .bad "map range"
noncomputable def nextOf (s : S) (r : Nat) (isStr : Bool) : R Nx :=
  match s.h.get r with
  | some (.siter l pos) => match isStr with
    | true => match Nat.blt pos l.length with
      | true => stepStr s r l pos (Utf8.decode ⟨⟨l⟩⟩ pos)
      | false => .ok (.val (.tup [.bool false]) s)
    | false => .bad "next"
  | some (.miter none _ _ _) => match isStr with
    | false => .ok (.val (.tup [.bool false]) s)
    | true => .bad "next"
  | some (.miter (some m) since seen last) => match isStr with
    | false => do
      let mm ← getMap s (.mapv m)
      guardB (allBelow last mm.1 && allBelow since mm.1) "map range: insertion"
      nextMap s r m since seen mm.1 mm.2
    | true => .bad "next"
  | _ => .bad "next"
noncomputable def opNext (it : Operand) (isStr : Bool) : OpF := fun _ C t s => do
  let v ← evA C t it
  match v with
  | .ptr r off => match off with
    | 0 => nextOf s r isStr
    | _ + 1 => .bad "next iter"
  | _ => .bad "next iter"
noncomputable def entryOf (s : S) (r : Nat) : R AV :=
  match s.h.get r with
  | some (.miter (some m) _ (b :: _) last) => do
    let mm ← getMap s (.mapv m)
    guardB (Nat.beq mm.2 last) "entry: insertion"
    match findB b mm.1 with
    | some e => .ok (.tup [e.k, e.v])
    | none => .bad "entry: removed"
  | _ => .bad "entry iter"
noncomputable def opEntry (it : Operand) : OpF := fun _ C t s => do
  let v ← evA C t it
  match v with
  | .ptr r off => match off with
    | 0 => do
      let x ← entryOf s r
      .ok (.val x s)
    | _ + 1 => .bad "entry"
  | _ => .bad "entry"
noncomputable def opTA (x : Operand) (asserted : TypeId) (ok : Bool) : OpF := fun _ C t s => do let v ← evA C t x; let r ← evTA C v asserted ok; .ok (.val r s)
noncomputable def opExtract (x : Operand) (i : Nat) : OpF := fun _ C t s => do
  let v ← evA C t x
  match v with
  | .tup l => do let r ← R.ofOpt "extract" (nth l i); .ok (.val r s)
  | _ => .bad "extract"
noncomputable def opCall (c : Call) : OpF := fun _ C t s => do
  let args ← evL C t c.args.toList
  match c.callee with
  | .builtin b => evBuiltin b C s c.argTypes.toList args
  | .value f => do let f ← evA C t f; invokeF C s f args
  | .invoke r name => do let r ← evA C t r; callM C s r name args
noncomputable def opDefer (c : Call) : OpF := fun _ C t s => do
  let args ← evL C t c.args.toList
  match c.callee with
  | .value f => do
    let f ← evA C t f
    match f with
    | .fn g a b => .ok (.defer { target := .fn g a b, args } s)
    | _ => .bad "defer of what"
  | _ => .bad "defer of a builtin or method"
noncomputable def opPanic (x : Operand) : OpF := fun _ C t s => do
  let v ← evA C t x
  match v with
  | .iface t v => .ok (.pan (.iface t v) s)
  | _ => .bad "panic nil"

noncomputable def opBad : OpF := fun _ _ _ _ => .bad "op"
noncomputable def evOp (o : Op) : OpF :=
  @Op.rec (fun _ => OpF)
    opMove opMove opPick opAlloc opBox opBuild opBuildSlice opMapUpdate opLoad opStore (fun _ => opBad) (fun _ => opBad) opNilCheck
    (fun op t x y _ => opBin op t x y) (fun op _ x => opUn op x) opConv (fun _ _ => opBad) opIface opFunc opMap (fun _ _ => opBad) opMakeSlice opSlice opFieldAddr opField
    opIndexAddr opIndex opLookup opMapUpdate opMapEntry (fun _ m b x => opEntryStore m b x) opRange opNext opEntry (fun x _ a ok => opTA x a ok) opExtract opCall
    (fun _ => opBad) opDefer opPanic (fun _ _ => opBad) (fun _ _ _ => opBad) (fun _ _ => opBad) o

end Go.Proofs.YtabknehmohoemaaGreatDoor.Abs

namespace Go.Proofs.YtabknehmohoemaaGreatDoor.Abs
open Go

/-! plans: in which order a region that draws its order is carried out here, and why any other order comes to the same -/
inductive PI where
  | act (i : Nat) | ev (i : Nat) | re (i : Nat) | al (i : Nat) | on (i : Nat)
  deriving Inhabited
inductive PS where
  | act (i : Nat) (o : Oper) | ev (i : Nat) (o : Oper) | re (i : Nat) (o : Oper) | al (i : Nat) (o : Oper) | on (i : Nat)
  deriving Inhabited
inductive PK where
  | act | ev | al
  deriving Inhabited

noncomputable def anyEdge (e : Edge) : Bool :=
  match e.ground with
  | .textOnly _ => false
  | .gcOnly _ => false
  | _ => true
noncomputable def bit (i : Nat) : Nat := Nat.shiftLeft 1 i
noncomputable def has (m i : Nat) : Bool := Nat.beq (Nat.land (Nat.shiftRight m i) 1) 1
noncomputable def sub (a b : Nat) : Bool := Nat.beq (Nat.lor a b) b
noncomputable def apartM (a b : Nat) : Bool := Nat.beq (Nat.land a b) 0

noncomputable def nthN : List Nat → Nat → Nat
  | [] => fun _ => 0
  | x :: l => fun i => match i with
    | 0 => x
    | n + 1 => nthN l n

/-- what the edges of an operation ask for -/
noncomputable def needM (M : List Nat) : List Edge → Nat
  | [] => 0
  | e :: l => match anyEdge e with
    | true => Nat.lor (Nat.lor (bit e.on) (nthN M e.on)) (needM M l)
    | false => needM M l
noncomputable def masksFrom : List Oper → List Nat → List Nat
  | [] => fun acc => acc
  | o :: l => fun acc => masksFrom l (acc ++ [needM acc o.after.toList])
noncomputable def opM : List Operand → Nat
  | [] => 0
  | x :: l => match x with
    | .tmp t => Nat.lor (bit t) (opM l)
    | _ => opM l
noncomputable def dstM (o : Oper) : Nat :=
  match o.dst with
  | some d => bit d
  | none => 0
noncomputable def guardM (ops : List Oper) (o : Oper) : Nat :=
  match o.guard with
  | some (g, _) => match nth ops g with
    | some p => dstM p
    | none => 0
  | none => 0
/-- the temporaries that an operation reads -/
noncomputable def lookM (ops : List Oper) (o : Oper) : Nat := Nat.lor (opM o.op.operands.toList) (guardM ops o)

noncomputable def evBi : Builtin → Bool
  | .len => true
  | .cap => true
  | .min => true
  | .max => true
  | _ => false
/-- operations that change nothing -/
noncomputable def evCls : Op → Bool
  | .move _ => true
  | .pick _ _ _ => true
  | .build _ _ => true
  | .load _ _ => true
  | .nilCheck _ => true
  | .binOp _ _ _ _ _ => true
  | .unOp _ _ _ => true
  | .convert _ _ _ => true
  | .makeInterface _ _ => true
  | .makeFunc _ _ _ => true
  | .slice _ _ _ _ _ => true
  | .fieldAddr _ _ _ => true
  | .field _ _ _ => true
  | .indexAddr _ _ _ => true
  | .index _ _ _ => true
  | .lookup _ _ _ _ => true
  | .entry _ => true
  | .typeAssert _ _ _ _ => true
  | .extract _ _ => true
  | .call c => match c.callee with
    | .builtin b => evBi b
    | _ => false
  | _ => false
/-- operations that make a block -/
noncomputable def alCls : Op → Bool
  | .alloc _ => true
  | .box _ _ => true
  | .buildSlice _ _ _ => true
  | .makeMap _ r => match r with
    | none => true
    | some _ => false
  | _ => false

/-- one operation, as the plan sees it -/
structure PO where
  i : Nat
  before : Nat
  look : Nat
  dst : Nat
  kind : PK
  deriving Inhabited

noncomputable def rawKind (o : Op) : PK :=
  match evCls o with
  | true => .ev
  | false => match alCls o with
    | true => .al
    | false => .act
noncomputable def posOf (ops : List Oper) (M : List Nat) : List Oper → Nat → List PO
  | [] => fun _ => []
  | o :: l => fun i => ⟨i, nthN M i, lookM ops o, dstM o, rawKind o.op⟩ :: posOf ops M l (Nat.add i 1)
/-- does nobody else name what this one makes, but those that wait for it -/
noncomputable def freshIn (x : PO) : List PO → Bool
  | [] => true
  | y :: l => match Nat.beq x.i y.i || apartM x.dst (Nat.lor y.look y.dst) || (has y.before x.i && apartM x.dst y.dst) with
    | true => freshIn x l
    | false => false
noncomputable def settleKinds (all : List PO) : List PO → List PO
  | [] => []
  | x :: l => (match x.kind with
    | .act => x
    | _ => match freshIn x all with
      | true => x
      | false => ⟨x.i, x.before, x.look, x.dst, .act⟩) :: settleKinds all l
noncomputable def actsM : List PO → Nat
  | [] => 0
  | x :: l => match x.kind with
    | .act => Nat.lor (bit x.i) (actsM l)
    | _ => actsM l
/-- the floats of a phase: those whose acts are the ones done -/
noncomputable def phaseOf (acts done : Nat) : List PO → List PI
  | [] => []
  | x :: l => match x.kind with
    | .act => phaseOf acts done l
    | .ev => match Nat.beq (Nat.land x.before acts) done with
      | true => .ev x.i :: phaseOf acts done l
      | false => phaseOf acts done l
    | .al => match Nat.beq (Nat.land x.before acts) done with
      | true => .al x.i :: phaseOf acts done l
      | false => phaseOf acts done l
noncomputable def hasAl : List PI → Bool
  | [] => false
  | x :: l => match x with
    | .al _ => true
    | _ => hasAl l
/-- the values to be looked at anew: of the floats that came with fewer acts, and need not be ahead of the act; where blocks are made, of all -/
noncomputable def reOf (acts done ahead : Nat) (anew : Bool) : List PO → List PI
  | [] => []
  | x :: l => match x.kind with
    | .ev => match !has ahead x.i && sub (Nat.land x.before acts) done && (anew || !Nat.beq (Nat.land x.before acts) done) with
      | true => .re x.i :: reOf acts done ahead anew l
      | false => reOf acts done ahead anew l
    | _ => reOf acts done ahead anew l
noncomputable def onOf (before onDone : Nat) : List PO → List PI
  | [] => []
  | x :: l => match x.kind with
    | .al => match has before x.i && !has onDone x.i with
      | true => .on x.i :: onOf before onDone l
      | false => onOf before onDone l
    | _ => onOf before onDone l
noncomputable def phase (all : List PO) (acts done ahead : Nat) (first : Bool) : List PI :=
  let f := phaseOf acts done all
  f ++ (match first && !hasAl f with
    | true => []
    | false => reOf acts done ahead (hasAl f) all)
noncomputable def phases (all : List PO) (acts n : Nat) : List PO → Nat → Nat → List PI
  | [] => fun _done onDone => onOf (Nat.sub (bit n) 1) onDone all
  | x :: l => fun done onDone => match x.kind with
    | .act => onOf x.before onDone all ++ (.act x.i :: (phase all acts (Nat.lor done (bit x.i)) x.before false ++ phases all acts n l (Nat.lor done (bit x.i)) (Nat.lor onDone x.before)))
    | _ => phases all acts n l done onDone
noncomputable def posAll (ops : List Oper) : List PO := posOf ops (masksFrom ops []) ops 0
noncomputable def planWith (n : Nat) (all iter : List PO) : List PI := phase all (actsM all) 0 0 true ++ phases all (actsM all) n iter 0 0
/-- a plan: one order; or one whose last two acts, stores, come in either order -/
inductive PlanR where
  | one (p : List PI)
  | two (pre : List PI) (x y : Nat) (ra rb : List Nat)
  deriving Inhabited
noncomputable def addBefore (i m : Nat) : List PO → List PO
  | [] => []
  | x :: l => (match Nat.beq x.i i with
    | true => ⟨x.i, Nat.lor x.before m, x.look, x.dst, x.kind⟩
    | false => x) :: addBefore i m l
noncomputable def dropPO (i : Nat) : List PO → List PO
  | [] => []
  | x :: l => match Nat.beq x.i i with
    | true => l
    | false => x :: dropPO i l
noncomputable def actList : List PO → List PO
  | [] => []
  | x :: l => match x.kind with
    | .act => x :: actList l
    | _ => actList l
noncomputable def lastTwo : List PO → Option (PO × PO)
  | [] => none
  | x :: l => match l with
    | [y] => some (x, y)
    | l => lastTwo l
noncomputable def resOnly : List PI → Option (List Nat)
  | [] => none
  | p :: l => match p with
    | .re i => (resOnly l).map fun q => i :: q
    | .act _ => match l with
      | [] => some []
      | _ => none
    | _ => none
noncomputable def splitAct (x : Nat) : List PI → Option (List PI × List PI)
  | [] => none
  | p :: l => match p with
    | .act a => match Nat.beq a x with
      | true => some ([], l)
      | false => (splitAct x l).map fun q => (p :: q.1, q.2)
    | p => (splitAct x l).map fun q => (p :: q.1, q.2)
noncomputable def planTwo (n : Nat) (all : List PO) (x y : PO) : PlanR :=
  let allA := addBefore y.i (Nat.lor (bit x.i) x.before) all
  let allB := addBefore x.i (Nat.lor (bit y.i) y.before) all
  match splitAct x.i (planWith n allA allA), splitAct y.i (planWith n allB (dropPO x.i allB ++ [⟨x.i, Nat.lor x.before (Nat.lor (bit y.i) y.before), x.look, x.dst, x.kind⟩])) with
  | some (pre, ta), some (_, tb) => match resOnly ta, resOnly tb with
    | some ra, some rb => .two pre x.i y.i ra rb
    | _, _ => .one []
  | _, _ => .one []
noncomputable def planOf (ops : List Oper) : PlanR :=
  let all := settleKinds (posAll ops) (posAll ops)
  match lastTwo (actList all) with
  | none => .one (planWith ops.length all all)
  | some (x, y) => match has y.before x.i with
    | true => .one (planWith ops.length all all)
    | false => planTwo ops.length all x y

/-! what is asked of a plan -/
structure PSt where
  /-- what has been done, what of it are acts, values, blocks; the blocks that lie in the heap -/
  done : Nat
  acts : Nat
  evs : Nat
  als : Nat
  ons : Nat
  /-- the values that must be looked at anew; the blocks that are laid ahead of the next act; the acts of the last one -/
  stale : Nat
  run : Nat
  last : Nat
  fl : List PO
  deriving Inhabited

/-- a later act x ahead of which the floats need not have come -/
noncomputable def apartAct (x : PO) : List PO → Bool
  | [] => true
  | y :: l => match has x.before y.i || (apartM x.dst (Nat.lor y.look y.dst) && apartM x.look y.dst) with
    | true => apartAct x l
    | false => false
noncomputable def apartFl (x : PO) : List PO → Bool
  | [] => true
  | y :: l => match apartM x.dst (Nat.lor y.look y.dst) && (has x.before y.i || apartM x.look y.dst) with
    | true => apartFl x l
    | false => false
noncomputable def okAct (s : PSt) (x : PO) : Bool :=
  !has s.done x.i && sub x.before s.done && sub s.acts x.before && sub s.run x.before && Nat.beq s.stale 0 && apartAct x s.fl
noncomputable def okFl (s : PSt) (x : PO) : Bool :=
  !has s.done x.i && sub x.before s.done && sub s.acts x.before && Nat.beq s.run 0 && apartM x.dst x.look && apartFl x s.fl
noncomputable def minus (a b : Nat) : Nat := Nat.xor (Nat.lor a b) b

noncomputable def poGet : List PO → Nat → Option PO
  | [] => fun _ => none
  | x :: l => fun i => match i with
    | 0 => some x
    | n + 1 => poGet l n
noncomputable def okSteps (all : List PO) (n : Nat) : List PI → PSt → Bool
  | [] => fun s => Nat.beq s.done (Nat.sub (bit n) 1) && Nat.beq s.ons s.als && Nat.beq s.stale 0
  | p :: l => fun s => match p with
    | .act i => match poGet all i with
      | none => false
      | some x => okAct s x && okSteps all n l ⟨Nat.lor s.done (bit i), Nat.lor s.acts (bit i), s.evs, s.als, s.ons, minus s.evs x.before, 0, x.before, s.fl⟩
    | .ev i => match poGet all i with
      | none => false
      | some x => okFl s x && (match x.kind with | .ev => true | _ => false) && okSteps all n l ⟨Nat.lor s.done (bit i), s.acts, Nat.lor s.evs (bit i), s.als, s.ons, s.stale, 0, s.last, x :: s.fl⟩
    | .al i => match poGet all i with
      | none => false
      | some x => okFl s x && (match x.kind with | .al => true | _ => false) && okSteps all n l ⟨Nat.lor s.done (bit i), s.acts, s.evs, Nat.lor s.als (bit i), s.ons, minus s.evs s.last, 0, s.last, x :: s.fl⟩
    | .re i => has s.evs i && Nat.beq s.run 0 && okSteps all n l ⟨s.done, s.acts, s.evs, s.als, s.ons, minus s.stale (bit i), 0, s.last, s.fl⟩
    | .on i => has s.als i && !has s.ons i && Nat.beq s.stale 0 && okSteps all n l ⟨s.done, s.acts, s.evs, s.als, Nat.lor s.ons (bit i), 0, Nat.lor s.run (bit i), s.last, s.fl⟩
noncomputable def below : List PO → Bool
  | [] => true
  | x :: l => match Nat.blt x.before (bit x.i) with
    | true => below l
    | false => false
noncomputable def okPlan (all : List PO) (n : Nat) (plan : List PI) : Bool := okSteps all n plan ⟨0, 0, 0, 0, 0, 0, 0, 0, []⟩
noncomputable def tailOf (x y : Nat) (ra : List Nat) : List PI := .act x :: (ra.map .re ++ [.act y])
noncomputable def okTwo (all : List PO) (n x y : Nat) (ra rb : List Nat) (pre : List PI) : Bool :=
  match poGet all x, poGet all y with
  | some px, some py => !Nat.beq x y && okPlan (addBefore y (Nat.lor (bit x) px.before) all) n (pre ++ tailOf x y ra) && okPlan (addBefore x (Nat.lor (bit y) py.before) all) n (pre ++ tailOf y x rb)
  | _, _ => false
noncomputable def planOk (ops : List Oper) (p : PlanR) : Bool :=
  below (posAll ops) && (match p with
    | .one plan => okPlan (posAll ops) ops.length plan
    | .two pre x y ra rb => okTwo (posAll ops) ops.length x y ra rb pre)
/-- a plan with its operations -/
noncomputable def linkOne (ops : List Oper) : PI → Option PS
  | .act i => (nth ops i).map (.act i)
  | .ev i => (nth ops i).map (.ev i)
  | .re i => (nth ops i).map (.re i)
  | .al i => (nth ops i).map (.al i)
  | .on i => some (.on i)
noncomputable def link (ops : List Oper) : List PI → List PS
  | [] => []
  | p :: l => match linkOne ops p with
    | some x => x :: link ops l
    | none => link ops l

/-! values that are surely the same -/
noncomputable def kindEq (a b : IntKind) : Bool := decide (a = b)
noncomputable def intEq (a b : Int) : Bool := decide (a = b)
noncomputable def klsEq : List KL → List KL → Bool
  | [] => fun y => match y with
    | [] => true
    | _ :: _ => false
  | a :: x => fun y => match y with
    | [] => false
    | b :: y => match a with
      | .int n => match b with
        | .int m => intEq n m && klsEq x y
        | .str _ => false
      | .str s => match b with
        | .int _ => false
        | .str t => bytesEq s t && klsEq x y
noncomputable def optEq (a b : Option Nat) : Bool :=
  match a with
  | none => match b with
    | none => true
    | some _ => false
  | some n => match b with
    | none => false
    | some m => Nat.beq n m
noncomputable def knowEq (a b : Know) : Bool := a.int == b.int && a.str == b.str && a.len == b.len && Nat.beq a.lo b.lo && optEq a.hi b.hi && klsEq a.ne b.ne
noncomputable def rawEq (a b : Value) : Bool :=
  match a, b with
  | .pointer (some x), .pointer (some y) => Nat.beq x.block y.block && Nat.beq x.off y.off && x.spot.isNone && y.spot.isNone
  | _, _ => false
mutual
noncomputable def avEq : AV → AV → Bool
  | .int k n, .int k' n' => kindEq k k' && intEq n n'
  | .bool a, .bool b => a == b
  | .str a, .str b => bytesEq a b
  | .ptr a i, .ptr b j => Nat.beq a b && Nat.beq i j
  | .nilp, .nilp => true
  | .sl b o l c, .sl b' o' l' c' => Nat.beq b b' && Nat.beq o o' && Nat.beq l l' && Nat.beq c c'
  | .osl b p e l z, .osl b' p' e' l' z' => Nat.beq b b' && Nat.beq p p' && Nat.beq e e' && Nat.beq l l' && Nat.beq z z'
  | .nilsl, .nilsl => true
  | .mapv r, .mapv r' => Nat.beq r r'
  | .nilmap, .nilmap => true
  | .fn (.func f) a b, .fn (.func g) a' b' => Nat.beq f g && avEqs a a' && avEqs b b'
  | .nilfn, .nilfn => true
  | .iface t v, .iface t' v' => Nat.beq t t' && avEq v v'
  | .nili, .nili => true
  | .opq k i, .opq k' j => knowEq k k' && Nat.beq i j
  | .raw a, .raw b => rawEq a b
  | .agg a, .agg b => avEqs a b
  | .tup a, .tup b => avEqs a b
  | _, _ => false
noncomputable def avEqs : List AV → List AV → Bool
  | [], [] => true
  | a :: x, b :: y => avEq a b && avEqs x y
  | _, _ => false
end

/-! what is evaluated without a change -/
noncomputable def nxVal (s : S) : Nx → R AV
  | .val v s' => match Nat.beq s'.next s.next with
    | true => .ok v
    | false => .bad "float: makes a block"
  | _ => .bad "float: no value"
noncomputable def evQ (o : Oper) (C : Ctx) (t : Tr AV) (s : S) : R AV := (evOp o.op o.type C t s).bind (nxVal s)

/-! blocks that are made ahead of their place -/
inductive AK where
  | ptr | sl (n : Nat) | map
  deriving Inhabited
noncomputable def mkA : AK → Nat → AV
  | .ptr => fun id => .ptr id 0
  | .sl n => fun id => .sl id 0 n n
  | .map => fun id => .mapv id
noncomputable def alAlloc (e : TypeId) (C : Ctx) : R (AK × Blk) := do
  let i ← ti C e
  let z ← R.ofOpt "no zero" i.zero
  guardB (Nat.beq z.length i.size) "alloc: size"
  .ok (.ptr, cellsBlk e z)
noncomputable def alBox (e : TypeId) (x : Operand) (C : Ctx) (t : Tr AV) : R (AK × Blk) := do
  let v ← evA C t x
  let c ← v.cells
  let i ← ti C e
  guardB (Nat.beq c.length i.size) "box: size"
  .ok (.ptr, cellsBlk e c)
noncomputable def alBuildSlice (ty : TypeId) (len : Nat) (parts : Array (Nat × Operand)) (C : Ctx) (t : Tr AV) : R (AK × Blk) := do
  match ← under C ty with
  | .slice e => do
    let i ← ti C e
    guardB (Nat.ble (Nat.mul len i.size) 16777216) "buildSlice: too long"
    let zero ← zeroFor C e (Nat.mul len i.size) i.size
    let ps ← evPs C t parts.toList
    let cs ← fillParts (fun k => some (Nat.mul k i.size, i.size)) ps (repl zero len)
    .ok (.sl len, cellsBlk e cs)
  | _ => .bad "buildSlice"
noncomputable def aF (o : Op) (C : Ctx) (t : Tr AV) : R (AK × Blk) :=
  match o with
  | .alloc e => alAlloc e C
  | .box e x => alBox e x C t
  | .buildSlice ty n ps => alBuildSlice ty n ps C t
  | .makeMap _ r => match r with
    | none => .ok (.map, .map [] 0)
    | some _ => .bad "make: size"
  | _ => .bad "no block is made"
end Go.Proofs.YtabknehmohoemaaGreatDoor.Abs

namespace Go.Proofs.YtabknehmohoemaaGreatDoor.Abs
open Go

inductive AItem where
  | code (c : Code)
  | inBlock (id : Nat)
  | inLoop (body : Code)
  | inScope (body : Code)
  | inRange (l : Nat)
  | endRange (l : Nat)
  | beginRound
  deriving Inhabited

structure PE where
  v : AV
  recovered : Bool
  deriving Inhabited

inductive AMode where
  | run | ret
  | pan (chain : List PE)
  deriving Inhabited

structure FI where
  fn : FuncId
  nt : Nat
  kind : CallKind
  roundOf : Option Nat
  deriving Inhabited

inductive Res where
  | ret (v : AV)
  | pan (chain : List PE)
  deriving Inhabited

structure Out where
  res : Res
  ctx : Option (List PE)
  s : S
  deriving Inhabited

/-- run a frame to its end -/
abbrev Rec := FI → Tr AV → List AItem → List ADf → AMode → Option (List PE) → S → R Out

noncomputable def exitA (id : Nat) : List AItem → Option (List AItem)
  | [] => none
  | x :: k => match x with
    | .inBlock id' => match Nat.beq id' id with | true => some k | false => exitA id k
    | _ => exitA id k
noncomputable def gotoA (l : Nat) : List AItem → Option (List AItem)
  | [] => none
  | x :: k => match x with
    | .inScope body => match findLabel body l with
      | some rest => some (.code rest :: .inScope body :: k)
      | none => gotoA l k
    | _ => gotoA l k

noncomputable def dstOf (ops : Array Oper) (j : Nat) : Option Tmp :=
  match ops[j]? with
  | some o => o.dst
  | none => none
noncomputable def gBool (want : Bool) (v : AV) : R Bool :=
  match v with
  | .bool b => .ok (match b, want with | true, true => true | false, false => true | _, _ => false)
  | .junk => .bad "junk guard"
  | .raw _ => .bad "raw guard"
  | .opq _ _ => .bad "guard: opaque"
  | _ => .ok false
noncomputable def wantedA (ops : Array Oper) (g : Option (Nat × Bool)) (t : Tr AV) : R Bool :=
  @Option.rec (Nat × Bool) (fun _ => R Bool) (.ok true)
    (fun p => @Option.rec Tmp (fun _ => R Bool) (.ok false) (fun d => @Option.rec AV (fun _ => R Bool) (.ok false) (gBool p.2) (t.get d)) (dstOf ops p.1)) g

noncomputable def put (nt : Nat) (t : Tr AV) (d : Option Tmp) (v : AV) : Tr AV :=
  @Option.rec Tmp (fun _ => Tr AV) t (fun d => @Bool.rec (fun _ => Tr AV) t (t.set d v) (Nat.blt d nt)) d

noncomputable def raiseC (ch : List PE) : AMode → List PE
  | .pan c => ch ++ c
  | _ => ch

noncomputable def enterA (C : Ctx) (rec : Rec) (f : FuncId) (args : List AV) (kind : CallKind) (ctx : Option (List PE)) (s : S) : R Out :=
  match C.F.get f with
  | none => .bad "enter"
  | some fn => match fn.body with
    | none => .bad "enter: no body"
    | some c => match Nat.ble args.length fn.ntmps with
      | false => .bad "enter: args"
      | true => rec ⟨f, fn.ntmps, kind, none⟩ (Tr.ofList args) [.code c] [] .run ctx s

noncomputable def getLoop (s : S) (l : Nat) : R (LoopState × Option Code × FuncId × Nat × Tr AV × List Tmp × Code × Code × Nat) :=
  match s.h.get l with
  | some (.loop a b c n d e f g h) => .ok (a, b, c, n, d, e, f, g, h)
  | _ => .bad "no loop"

noncomputable def setArgs (nt : Nat) : List Tmp → List AV → Tr AV → R (Tr AV)
  | [] => fun a t => match a with | [] => .ok t | _ => .bad "yield args"
  | p :: ps => fun a t => match a with | [] => .bad "yield args" | x :: xs => setArgs nt ps xs (put nt t (some p) x)

/-- a call of a function that looks for one text in another: what is proved of it once is taken -/
noncomputable def indexA (C : Ctx) (s : S) (g : Nat) (args : List AV) : R Out :=
  match args with
  | [x, y] => do
    let a ← bytesOf x
    let b ← bytesOf y
    match s.h.get g with
    | some (.cells _ cs n _ _ _ _) => match cs.get 0 with
      | some v => match v with
        | .opq k _ => do
          guardB (k.int && !k.len && Nat.blt g C.nG && Nat.ble 1 n && Nat.blt a.length 4294967281) "index: too long"
          .ok ⟨.ret (.int .i64 (indexL b a 0)), none, s⟩
        | _ => .bad "index: no int"
      | none => .bad "index: no cell"
    | _ => .bad "index: no variable"
  | _ => .bad "index: arguments"
/-- a call without arguments that is proved to return true and to leave what was there as it was -/
noncomputable def closedA (C : Ctx) (s : S) (g t : Nat) (args : List AV) : R Out :=
  match args with
  | [] =>
    match s.h.get g with
    | some (.cells e cs n _ _ _ _) => match cs.get 0 with
      | some v => match v with
        | .opq k _ => do
          guardB (k.int && !k.len && Nat.blt g C.nG && Nat.ble 1 n && Nat.beq e t) "closed: the variable"
          .ok ⟨.ret (.bool true), none, s⟩
        | _ => .bad "closed: no int"
      | none => .bad "closed: no cell"
    | _ => .bad "closed: no variable"
  | _ :: _ => .bad "closed: arguments"
/-! errors.As, at a struct whose type is the target's -/
noncomputable def isHandle (x : AsE) (v : Value) : Bool :=
  match v with
  | .pointer (some a) => Nat.beq a.block x.hb && Nat.beq a.off x.he && a.spot.isNone
  | _ => false
noncomputable def errKnown (C : Ctx) (s : S) (x : AsE) : Bool :=
  match s.h.get x.g with
  | some (.cells _ cs n _ _ _ _) => match cs.get 0 with
    | some (.iface r (.agg [.raw v])) => Nat.blt x.g C.nG && Nat.ble 1 n && Nat.beq r x.tR && isHandle x v
    | _ => false
  | _ => false
noncomputable def placeFor (s : S) (k off n : Nat) : Bool :=
  match s.h.get k with
  | some (.cells _ _ m fz _ st _) => !st && Nat.ble (Nat.add off n) m && Nat.ble fz off
  | _ => false
noncomputable def asA (C : Ctx) (s : S) (x : AsE) (args : List AV) : R Out :=
  match args with
  | [.iface ta (.agg cs), .iface tb (.ptr k off)] => do
    guardB (Nat.beq ta x.tF && Nat.beq tb x.tP && Nat.beq cs.length x.n && errKnown C s x && placeFor s k off cs.length && allOne cs) "as: what"
    let s' ← wrCells s k off cs
    .ok ⟨.ret (.bool true), none, s'⟩
  | _ => .bad "as: arguments"
/-! calls of which it is known what they read and what they leave -/
noncomputable def isJunkA : AV → Bool
  | .junk => true
  | _ => false
noncomputable def cellsHold (cs : Tr AV) : List AV → Nat → Bool
  | [] => fun _ => true
  | v :: l => fun i => match isJunkA v with
    | true => cellsHold cs l (Nat.add i 1)
    | false => match cs.get i with
      | some u => match avEq u v with
        | true => cellsHold cs l (Nat.add i 1)
        | false => false
      | none => false
noncomputable def mesEq : List ME → List ME → Bool
  | [] => fun y => match y with
    | [] => true
    | _ :: _ => false
  | a :: x => fun y => match y with
    | [] => false
    | b :: y => avEq a.k b.k && avEq a.v b.v && Nat.beq a.born b.born && mesEq x y
noncomputable def blkHold (b : Blk) (m : MB) : Bool :=
  match b with
  | .cells e cs n fz _ st sg => match m with
    | .cells e' l fz' st' sg' => Nat.beq e e' && Nat.beq n l.length && Nat.beq fz fz' && (st == st') && (sg == sg') && cellsHold cs l 0
    | .map _ _ => false
  | .map es c => match m with
    | .map es' c' => Nat.beq c c' && mesEq es es'
    | .cells _ _ _ _ _ => false
  | _ => false
noncomputable def noneIn (ids : List Nat) : List Nat → Bool
  | [] => true
  | a :: l => match hasN a ids with
    | true => false
    | false => noneIn ids l
noncomputable def ancL : Blk → List Nat
  | .cells _ _ _ _ anc _ _ => anc
  | _ => []
noncomputable def liveMB : MB → Bool
  | .cells _ _ _ st _ => !st
  | .map _ _ => true
noncomputable def preOk (h : Tr Blk) (ids : List Nat) : List (Nat × MB) → Bool
  | [] => true
  | x :: l => match h.get x.1 with
    | some b => match blkHold b x.2 && noneIn ids (ancL b) with
      | true => preOk h ids l
      | false => false
    | none => false
noncomputable def postOk (h : Tr Blk) : List (Nat × MB) → Bool
  | [] => true
  | x :: l => match h.get x.1 with
    | some b => match blkHold b x.2 && liveMB x.2 with
      | true => postOk h l
      | false => false
    | none => false
noncomputable def ancAt (h0 : Tr Blk) (i : Nat) : List Nat :=
  match h0.get i with
  | some b => ancL b
  | none => []
noncomputable def dropPre (h0 : Tr Blk) : List (Nat × MB) → Tr Blk → Tr Blk
  | [] => fun h => h
  | x :: l => fun h => match liveMB x.2 with
    | true => dropPre h0 l ((delAll (ancAt h0 x.1) h).del x.1)
    | false => dropPre h0 l h
noncomputable def memoS (s : S) (m : Memo) : S := ⟨setPairs m.post (dropPre s.h m.pre s.h), m.last⟩
noncomputable def idsOf : List (Nat × MB) → List Nat
  | [] => []
  | x :: l => x.1 :: idsOf l
noncomputable def memoA (s : S) (m : Memo) (args : List AV) : R Out :=
  match avEqs args m.args && preOk s.h (idsOf m.pre) m.pre with
  | true => .ok ⟨.ret m.res, none, memoS s m⟩
  | false => .bad "memo"
noncomputable def memoOf (f next : Nat) : List (FuncId × Memo) → Option Memo
  | [] => none
  | x :: l => match Nat.beq x.1 f && Nat.beq x.2.next next with
    | true => some x.2
    | false => memoOf f next l
/-- a run that comes to what is claimed of a call -/
noncomputable def memoHolds (m : Memo) (o : Out) : Bool :=
  match o.res with
  | .ret v => avEq v m.res && Nat.ble o.s.next m.last && postOk o.s.h m.post
  | .pan _ => false
/-- a call made by an operation: what it comes to -/
noncomputable def callX (C : Ctx) (rec : Rec) (f : FuncId) (args : List AV) (s : S) : R Out :=
  match extOf f C.X with
  | none => enterA C rec f args .normal none s
  | some e => match e with
    | .index g => indexA C s g args
    | .closed g t => closedA C s g t args
    | .as x => asA C s x args
    | _ => enterA C rec f args .normal none s
noncomputable def callA (C : Ctx) (rec : Rec) (f : FuncId) (args : List AV) (s : S) : R Out :=
  match memoOf f s.next C.M with
  | some m => memoA s m args
  | none => callX C rec f args s
noncomputable def roundA (C : Ctx) (rec : Rec) (l : Nat) (args : List AV) (s : S) : R Out := do
  let r ← getLoop s l
  match r with
  | (_, _, fn, nt, tmps, params, assign, body, _) => do
    let t ← setArgs nt params args tmps
    let _ ← R.ofOpt "round: function" (C.F.get fn)
    rec ⟨fn, nt, .normal, some l⟩ t [.code assign, .beginRound, .code body] [] .run none s

/-- a region's end -/
inductive RG where
  | fin (t : Tr AV) (ds : List ADf) (ctx : Option (List PE)) (s : S)
  | pan (ch : List PE) (t : Tr AV) (ds : List ADf) (ctx : Option (List PE)) (s : S)
  deriving Inhabited

noncomputable def undefA : AV := .tup []

noncomputable def deferA (fi : FI) (d : AD) (ds : List ADf) (s : S) : R (List ADf × S) :=
  match fi.roundOf with
  | none => .ok (.call d :: ds, s)
  | some l => do
    let r ← getLoop s l
    match r with
    | (_, _, _, _, _, _, _, _, b) =>
      match s.h.get b with
      | some (.defd (some l)) => .ok (ds, ⟨s.h.set b (.defd (some (d :: l))), s.next⟩)
      | _ => .bad "defer in a round"
noncomputable def recoverA (fi : FI) (ctx : Option (List PE)) : R (AV × Option (List PE)) :=
  match fi.roundOf with
  | some _ => .bad "recover in a round"
  | none =>
    match fi.kind with
    | .deferred => match ctx with
      | some ({ v, recovered := false } :: older) => .ok (v, some ({ v, recovered := true } :: older))
      | _ => .ok (.nili, ctx)
    | .normal => .ok (.nili, ctx)
    | _ => .bad "recover"

abbrev RK := Tr AV → List ADf → Option (List PE) → S → R RG
noncomputable def backR (nt : Nat) (d : Option Tmp) (k : RK) (t : Tr AV) (ds : List ADf) (ctx : Option (List PE)) (o : Out) : R RG :=
  @Out.rec (fun _ => R RG) (fun res _ s => @Res.rec (fun _ => R RG) (fun v => k (put nt t d v) ds ctx s) (fun ch => .ok (.pan ch t ds ctx s)) res) o
noncomputable def regEnter (C : Ctx) (rec : Rec) (nt : Nat) (d : Option Tmp) (k : RK) (t : Tr AV) (ds : List ADf) (ctx : Option (List PE)) (f : FuncId) (args : List AV) (s : S) : R RG :=
  (callA C rec f args s).bind (backR nt d k t ds ctx)
noncomputable def regRound (C : Ctx) (rec : Rec) (nt : Nat) (d : Option Tmp) (k : RK) (t : Tr AV) (ds : List ADf) (ctx : Option (List PE)) (l : Nat) (args : List AV) (s : S) : R RG :=
  (roundA C rec l args s).bind (backR nt d k t ds ctx)
noncomputable def regDefer (fi : FI) (nt : Nat) (d : Option Tmp) (k : RK) (t : Tr AV) (ds : List ADf) (ctx : Option (List PE)) (x : AD) (s : S) : R RG :=
  (deferA fi x ds s).bind fun r => k (put nt t d undefA) r.1 ctx r.2
noncomputable def regRecover (fi : FI) (nt : Nat) (d : Option Tmp) (k : RK) (t : Tr AV) (ds : List ADf) (ctx : Option (List PE)) (s : S) : R RG :=
  (recoverA fi ctx).bind fun r => k (put nt t d r.1) ds r.2 s
noncomputable def regNx (C : Ctx) (rec : Rec) (nt : Nat) (fi : FI) (d : Option Tmp) (k : RK) (t : Tr AV) (ds : List ADf) (ctx : Option (List PE)) (x : Nx) : R RG :=
  @Nx.rec (fun _ => R RG) (fun v s => k (put nt t d v) ds ctx s) (fun s => k (put nt t d undefA) ds ctx s) (regEnter C rec nt d k t ds ctx) (regRound C rec nt d k t ds ctx)
    (fun _ _ => .bad "defer") (regRecover fi nt d k t ds ctx) (fun v s => .ok (.pan [⟨v, false⟩] t ds ctx s)) x
noncomputable def deferOf (o : Op) : Option Call :=
  match o with
  | .defer c => some c
  | _ => none
noncomputable def opDeferA (c : Call) (C : Ctx) (t : Tr AV) : R AD := do
  let args ← evL C t c.args.toList
  match c.callee with
  | .value f => do
    let f ← evA C t f
    match f with
    | .fn g a b => .ok { target := .fn g a b, args }
    | _ => .bad "defer of what"
  | _ => .bad "defer of a builtin or method"
noncomputable def regOp (C : Ctx) (rec : Rec) (fi : FI) (nt : Nat) (k : RK) (d : Option Tmp) (op : Op) (ty : TypeId) (t : Tr AV) (ds : List ADf) (ctx : Option (List PE)) (s : S) : R RG :=
  @Option.rec Call (fun _ => R RG) ((evOp op ty C t s).bind (regNx C rec nt fi d k t ds ctx)) (fun c => (opDeferA c C t).bind fun x => regDefer fi nt d k t ds ctx x s) (deferOf op)
noncomputable def regOper (C : Ctx) (rec : Rec) (fi : FI) (nt : Nat) (k : RK) (d : Option Tmp) (op : Op) (ty : TypeId) (t : Tr AV) (ds : List ADf) (ctx : Option (List PE)) (s : S) (b : Bool) : R RG :=
  @Bool.rec (fun _ => R RG) (k (put nt t d undefA) ds ctx s) (regOp C rec fi nt k d op ty t ds ctx s) b
noncomputable def regOne (C : Ctx) (rec : Rec) (fi : FI) (ops : Array Oper) (k : RK) (o : Oper) : RK :=
  @Oper.rec (fun _ => RK) (fun d op ty _ _ g t ds ctx s => (wantedA ops g t).bind (regOper C rec fi fi.nt k d op ty t ds ctx s)) o
/-- the operations of a region in the order of the text -/
noncomputable def regRun (C : Ctx) (rec : Rec) (fi : FI) (ops : Array Oper) (l : List Oper) : RK :=
  @List.rec Oper (fun _ => RK) (fun t ds ctx s => .ok (.fin t ds ctx s)) (fun o _ ih => regOne C rec fi ops ih o) l

noncomputable def leaveF (rec : Rec) (fi : FI) (t : Tr AV) (ds : List ADf) (ctx : Option (List PE)) (s : S) (jump : Option Code) : R Out :=
  match fi.roundOf with
  | none => match jump with
    | none => rec fi t [] ds .ret ctx s
    | some .ret => rec fi t [] ds .ret ctx s
    | _ => .bad "leave"
  | some l => do
    let r ← getLoop s l
    match r with
    | (_, _, a, n, b, c, d, e, f) =>
      .ok ⟨.ret (.bool jump.isNone), ctx, ⟨s.h.set l (.loop (match jump with | none => .ready | some _ => .done) jump a n b c d e f), s.next⟩⟩

noncomputable def backF (rec : Rec) (fi : FI) (t : Tr AV) (k : List AItem) (ds : List ADf) (ctx : Option (List PE)) (l : Nat) (o : Out) : R Out :=
  match o.res with
  | .ret _ => rec fi t (.endRange l :: k) ds .run ctx o.s
  | .pan ch => rec fi t [] ds (.pan ch) ctx o.s

noncomputable def rangeF (C : Ctx) (rec : Rec) (fi : FI) (t : Tr AV) (k : List AItem) (ds : List ADf) (ctx : Option (List PE)) (f : Operand) (params : Array Tmp) (assign body : Code) (s : S) : R Out := do
  let fv ← evA C t f
  match fi.roundOf with
  | some l => do
    let r ← getLoop s l
    match r with
    | (_, _, _, _, _, _, _, _, d) => do
      match ← invokeF C (s.new (.loop .ready none fi.fn fi.nt t params.toList assign body d)) fv [.yield s.next] with
      | .enter f args s' => do let o ← callA C rec f args s'; backF rec fi t k ds ctx s.next o
      | _ => .bad "rangeFunc"
  | none => do
    let s1 := s.new (.defd (some []))
    match ← invokeF C (s1.new (.loop .ready none fi.fn fi.nt t params.toList assign body s.next)) fv [.yield s1.next] with
    | .enter f args s' => do let o ← callA C rec f args s'; backF rec fi t k (.collected s.next :: ds) ctx s1.next o
    | _ => .bad "rangeFunc"

noncomputable def regionF (_C : Ctx) (rec : Rec) (fi : FI) (k : List AItem) (r : RG) : R Out :=
  match r with
  | .fin t ds ctx s => rec fi t k ds .run ctx s
  | .pan ch t ds ctx s => rec fi t [] ds (.pan ch) ctx s

/-! regions that draw their order, by a plan -/
noncomputable def flOper (o : Oper) (C : Ctx) (t : Tr AV) (s : S) (b : Bool) : R AV :=
  @Bool.rec (fun _ => R AV) (.ok undefA) (evQ o C t s) b
noncomputable def evF (ops : Array Oper) (o : Oper) (C : Ctx) (t : Tr AV) (s : S) : R AV := (wantedA ops o.guard t).bind (flOper o C t s)
noncomputable def sameTmp (nt : Nat) (t : Tr AV) (d : Option Tmp) (v : AV) : Bool :=
  match d with
  | none => true
  | some d => match Nat.blt d nt with
    | true => match t.get d with
      | some u => avEq u v
      | none => false
    | false => true
abbrev Pend := List (Nat × (Nat × Blk))
noncomputable def pendGet (i : Nat) : Pend → Option (Nat × Blk)
  | [] => none
  | p :: l => match Nat.beq p.1 i with
    | true => some p.2
    | false => pendGet i l
abbrev DK := Pend → RK
/-- an answer that is not asked for -/
noncomputable def R.det {α : Type} (r : R α) : R α := @R.rec α (fun _ => R α) (fun a => .ok a) (fun w => .bad w) (fun _ _ _ => .bad "ask") r
noncomputable def dAlOper (o : Oper) (i nt : Nat) (k : DK) (C : Ctx) (pe : Pend) (t : Tr AV) (ds : List ADf) (ctx : Option (List PE)) (s : S) (b : Bool) : R RG :=
  @Bool.rec (fun _ => R RG) (k pe (put nt t o.dst undefA) ds ctx s)
    ((R.det (aF o.op C t)).bind fun r => k ((i, (s.next, r.2)) :: pe) (put nt t o.dst (mkA r.1 s.next)) ds ctx ⟨s.h, Nat.add s.next 1⟩) b
noncomputable def dOn (i : Nat) (k : DK) : DK := fun pe t ds ctx s =>
  match pendGet i pe with
  | none => k pe t ds ctx s
  | some p => k pe t ds ctx ⟨s.h.set p.1 p.2, s.next⟩
noncomputable def dStep (C : Ctx) (rec : Rec) (fi : FI) (ops : Array Oper) (x : PS) (k : DK) : DK :=
  @PS.rec (fun _ => DK)
    (fun _ o pe => regOne C rec fi ops (k pe) o)
    (fun _ o pe t ds ctx s => (R.det (evF ops o C t s)).bind fun v => k pe (put fi.nt t o.dst v) ds ctx s)
    (fun _ o pe t ds ctx s => (R.det (evF ops o C t s)).bind fun v => @Bool.rec (fun _ => R RG) (.bad "float: another value") (k pe t ds ctx s) (sameTmp fi.nt t o.dst v))
    (fun i o pe t ds ctx s => (R.det (wantedA ops o.guard t)).bind (dAlOper o i fi.nt k C pe t ds ctx s))
    (fun i => dOn i k) x
noncomputable def dRunK (C : Ctx) (rec : Rec) (fi : FI) (ops : Array Oper) (kf : DK) (l : List PS) : DK :=
  @List.rec PS (fun _ => DK) kf (fun x _ ih => dStep C rec fi ops x ih) l
noncomputable def dFin : DK := fun _ t ds ctx s => .ok (.fin t ds ctx s)
noncomputable def dRun (C : Ctx) (rec : Rec) (fi : FI) (ops : Array Oper) (l : List PS) : DK := dRunK C rec fi ops dFin l
/-! two stores, in either order -/
noncomputable def storeBlk (o : Oper) (C : Ctx) (t : Tr AV) : R Nat :=
  match o.op with
  | .store _ a _ => do
    let p ← evA C t a
    match p with
    | .ptr b _ => .ok b
    | _ => .bad "two stores: no address"
  | _ => .bad "two stores: no store"
noncomputable def storeQ (ops : Array Oper) (o : Oper) (C : Ctx) (t : Tr AV) (s : S) : R S :=
  match o.dst with
  | some _ => .bad "two stores: a store's value"
  | none => do
    let b ← R.det (wantedA ops o.guard t)
    match b with
    | false => .bad "two stores: guarded"
    | true => match o.op with
      | .store ty a x => do
        let p ← evA C t a
        let v ← evA C t x
        storeAt C s ty p v
      | _ => .bad "two stores: no store"
noncomputable def reAll (ops : Array Oper) (nt : Nat) (C : Ctx) (t : Tr AV) (s : S) : List Nat → R Unit
  | [] => .ok ()
  | i :: l => match nth ops.toList i with
    | none => .bad "two stores: no operation"
    | some o => do
      let v ← R.det (evF ops o C t s)
      match sameTmp nt t o.dst v with
      | true => reAll ops nt C t s l
      | false => .bad "two stores: another value"
noncomputable def ancOf (s : S) (b : Nat) : R (List Nat) :=
  match s.h.get b with
  | some (.cells _ _ _ _ anc _ _) => .ok anc
  | _ => .bad "two stores: no cells"
noncomputable def dTwo (C : Ctx) (fi : FI) (ops : Array Oper) (ox oy : Oper) (ra rb : List Nat) : DK := fun _ t ds ctx s => do
  let bx ← R.det (storeBlk ox C t)
  let by' ← R.det (storeBlk oy C t)
  let ax ← R.det (ancOf s bx)
  let ay ← R.det (ancOf s by')
  guardB (!Nat.beq bx by' && !hasN by' ax && !hasN bx ay) "two stores: the same place"
  let sx ← R.det (storeQ ops ox C t s)
  let _ ← R.det (reAll ops fi.nt C t sx ra)
  let sxy ← R.det (storeQ ops oy C t sx)
  let sy ← R.det (storeQ ops oy C t s)
  let _ ← R.det (reAll ops fi.nt C t sy rb)
  let _ ← R.det (storeQ ops ox C t sy)
  .ok (.fin t ds ctx sxy)
/-- what a panic leaves of the temporaries of a plan's floats -/
noncomputable def junkPS (nt : Nat) (t : Tr AV) : List PS → Tr AV
  | [] => t
  | x :: l => match x with
    | .ev _ o => put nt (junkPS nt t l) o.dst .junk
    | .al _ o => put nt (junkPS nt t l) o.dst .junk
    | _ => junkPS nt t l
noncomputable def dEnd (nt : Nat) (l : List PS) (r : RG) : R RG :=
  @RG.rec (fun _ => R RG) (fun t ds ctx s => .ok (.fin t ds ctx s)) (fun ch t ds ctx s => .ok (.pan ch (junkPS nt t l) ds ctx s)) r
noncomputable def dGo (C : Ctx) (rec : Rec) (fi : FI) (ops : Array Oper) (p : PlanR) : RK := fun t ds ctx s =>
  match p with
  | .one plan => (dRun C rec fi ops (link ops.toList plan) [] t ds ctx s).bind (dEnd fi.nt (link ops.toList plan))
  | .two pre x y ra rb => match nth ops.toList x, nth ops.toList y with
    | some ox, some oy => (dRunK C rec fi ops (dTwo C fi ops ox oy ra rb) (link ops.toList pre) [] t ds ctx s).bind (dEnd fi.nt (link ops.toList pre))
    | _, _ => .bad "no plan: two"
noncomputable def dPlan (C : Ctx) (rec : Rec) (fi : FI) (ops : Array Oper) (plan : PlanR) : RK := fun t ds ctx s =>
  @Bool.rec (fun _ => R RG) (.bad "no plan") (dGo C rec fi ops plan t ds ctx s) (planOk ops.toList plan)
noncomputable def dregRun (C : Ctx) (rec : Rec) (fi : FI) (ops : Array Oper) (t : Tr AV) (ds : List ADf) (ctx : Option (List PE)) (s : S) : R RG :=
  dPlan C rec fi ops (planOf ops.toList) t ds ctx s

abbrev CK := List AItem → Ctx → Rec → FI → Tr AV → List ADf → Option (List PE) → S → R Out
noncomputable def cRet : CK := fun _ _ rec fi t ds ctx s => leaveF rec fi t ds ctx s (some .ret)
noncomputable def cSkip : CK := fun k _ rec fi t ds ctx s => rec fi t k ds .run ctx s
noncomputable def cSeq (a b : Code) : CK := fun k _ rec fi t ds ctx s => rec fi t (.code a :: .code b :: k) ds .run ctx s
noncomputable def cCond (c : Operand) (a b : Code) : CK := fun k C rec fi t ds ctx s =>
  (evA C t c).bind fun v => match v with
    | .bool x => rec fi t (.code (match x with | true => a | false => b) :: k) ds .run ctx s
    | _ => .bad "cond"
noncomputable def cBlock (id : Nat) (body : Code) : CK := fun k _ rec fi t ds ctx s => rec fi t (.code body :: .inBlock id :: k) ds .run ctx s
noncomputable def cLoop (body : Code) : CK := fun k _ rec fi t ds ctx s => rec fi t (.code body :: .inLoop body :: k) ds .run ctx s
noncomputable def cScope (body : Code) : CK := fun k _ rec fi t ds ctx s => rec fi t (.code body :: .inScope body :: k) ds .run ctx s
noncomputable def cExit (id : Nat) : CK := fun k _ rec fi t ds ctx s =>
  match exitA id k with
  | some k => rec fi t k ds .run ctx s
  | none => leaveF rec fi t ds ctx s (some (.exit id))
noncomputable def cGoto (l : Nat) : CK := fun k _ rec fi t ds ctx s =>
  match gotoA l k with
  | some k => rec fi t k ds .run ctx s
  | none => leaveF rec fi t ds ctx s (some (.goto l))
noncomputable def cRegion (ops : Array Oper) (draw : Bool) : CK := fun k C rec fi t ds ctx s =>
  match draw with
  | false => (regRun C rec fi ops ops.toList t ds ctx s).bind (regionF C rec fi k)
  | true => (dregRun C rec fi ops t ds ctx s).bind (regionF C rec fi k)
noncomputable def cRange (f : Operand) (params : Array Tmp) (assign body : Code) : CK := fun k C rec fi t ds ctx s => rangeF C rec fi t k ds ctx f params assign body s
noncomputable def codeF (c : Code) : CK :=
  @Code.rec (fun _ => CK) cSkip (fun _ ops draw => cRegion ops draw) (fun a b _ _ => cSeq a b) (fun c a b _ _ => cCond c a b) (fun id b _ => cBlock id b) (fun b _ => cLoop b)
    (fun f p a b _ _ => cRange f p a b) cExit (fun b _ => cScope b) (fun _ => cSkip) cGoto cRet (fun why _ _ _ _ _ _ _ _ => .bad why) c

noncomputable def iEnd (l : Nat) : CK := fun k _ rec fi t ds ctx s => do
    let r ← getLoop s l
    match r with
    | (st, pend, a, n, b, c, d, e, f) =>
      match st with
      | .busy => .bad "endRange: busy"
      | _ => rec fi t ((match pend with | some c => [.code c] | none => []) ++ k) ds .run ctx ⟨s.h.set l (.loop .exhausted pend a n b c d e f), s.next⟩
noncomputable def iBegin : CK := fun k _ rec fi t ds ctx s =>
    match fi.roundOf with
    | none => .bad "beginRound"
    | some l => do
      let r ← getLoop s l
      match r with
      | (st, pend, a, n, b, c, d, e, f) =>
        match st with
        | .ready => rec fi t k ds .run ctx ⟨s.h.set l (.loop .busy pend a n b c d e f), s.next⟩
        | _ => .bad "beginRound: not ready"
noncomputable def itemF (x : AItem) : CK :=
  @AItem.rec (fun _ => CK) codeF (fun _ => cSkip) cLoop (fun _ => cSkip) (fun _ _ _ _ _ _ _ _ _ => .bad "inRange") iEnd iBegin x

noncomputable def resultV (C : Ctx) (s : S) (t : Tr AV) (r : ResultVar) : R AV :=
  match r with
  | .tmp d => evA C t (.tmp d)
  | .cell a ty => do let p ← evA C t (.tmp a); loadAt C s ty p
noncomputable def resultL (C : Ctx) (s : S) (t : Tr AV) : List ResultVar → R (List AV)
  | [] => .ok []
  | r :: l => do
    let v ← resultV C s t r
    let vs ← resultL C s t l
    .ok (v :: vs)
noncomputable def oneOrTup : List AV → AV
  | [v] => v
  | vs => .tup vs
noncomputable def resultsA (C : Ctx) (s : S) (fi : FI) (t : Tr AV) : R AV :=
  match C.F.get fi.fn with
  | none => .bad "results: fn"
  | some fn => do let vs ← resultL C s t fn.results.toList; .ok (oneOrTup vs)

noncomputable def modeCtx : AMode → Option (List PE)
  | .pan c => some c
  | _ => none

/-- what a deferred call leaves of its frame's mode -/
noncomputable def afterDefer (o : Out) : AMode :=
  match o.ctx with
  | some c => .pan c
  | none => .ret
noncomputable def settleA : AMode → AMode
  | .pan (p :: older) => match p.recovered with
    | true => .ret
    | false => .pan (p :: older)
  | m => m

noncomputable def deferF (C : Ctx) (rec : Rec) (fi : FI) (t : Tr AV) (mode : AMode) (ctx : Option (List PE)) (s : S) : ADf → List ADf → R Out
  | .collected r => fun ds =>
    match s.h.get r with
    | some (.defd (some l)) => rec fi t [] (l.map .call ++ ds) mode ctx ⟨s.h.set r (.defd none), s.next⟩
    | _ => .bad "collected"
  | .call d => fun ds => do
    match ← invokeF C s d.target d.args with
    | .enter f args s => do
      let o ← enterA C rec f args .deferred (modeCtx mode) s
      match o.res with
      | .ret _ => rec fi t [] ds (settleA (afterDefer o)) ctx o.s
      | .pan ch => rec fi t [] ds (.pan (raiseC ch (afterDefer o))) ctx o.s
    | _ => .bad "deferred: other"

noncomputable def bRun (C : Ctx) (rec : Rec) (fi : FI) (t : Tr AV) (todo : List AItem) (ds : List ADf) (ctx : Option (List PE)) (s : S) : R Out :=
  @List.rec AItem (fun _ => R Out) (leaveF rec fi t ds ctx s none) (fun x k _ => itemF x k C rec fi t ds ctx s) todo
noncomputable def bRet (C : Ctx) (rec : Rec) (fi : FI) (t : Tr AV) (ds : List ADf) (ctx : Option (List PE)) (s : S) : R Out :=
  match fi.roundOf with
  | some _ => .bad "a round that returns"
  | none => match ds with
    | [] => (resultsA C s fi t).bind fun v => .ok ⟨.ret v, ctx, s⟩
    | d :: ds => deferF C rec fi t .ret ctx s d ds
noncomputable def bPan (C : Ctx) (rec : Rec) (fi : FI) (t : Tr AV) (ds : List ADf) (ctx : Option (List PE)) (s : S) (chain : List PE) : R Out :=
  match ds with
  | [] => .ok ⟨.pan chain, ctx, s⟩
  | d :: ds => deferF C rec fi t (.pan chain) ctx s d ds
noncomputable def bodyF (C : Ctx) (rec : Rec) (fi : FI) (t : Tr AV) (todo : List AItem) (ds : List ADf) (mode : AMode) (ctx : Option (List PE)) (s : S) : R Out :=
  @AMode.rec (fun _ => R Out) (bRun C rec fi t todo ds ctx s) (bRet C rec fi t ds ctx s) (bPan C rec fi t ds ctx s) mode
noncomputable def runF (C : Ctx) (n : Nat) : Rec :=
  @Nat.rec (fun _ => Rec) (fun _ _ _ _ _ _ _ => .bad "fuel") (fun _ ih => bodyF C ih) n

end Go.Proofs.YtabknehmohoemaaGreatDoor.Abs
