/- Part 1 of an abstract machine that evaluates programs of the model in the kernel. Conditions: those of each theorem. -/
import Derived.Calls
import Derived.Laws.Cells
import Derived.Laws.Entries
import Derived.Laws.Strings
import Derived.Laws.StructEq
import Derived.Laws.World
import Derived.Lib.AtoiAll
import Derived.Lib.Bytealg
import Derived.Lib.Index
import Derived.Lib.IndexMore
import Derived.Lib.ItoaNum
import Derived.WideLaws
import GoSem.Claims
import GoSem.Step
noncomputable section
set_option linter.unusedVariables false
set_option linter.unusedSimpArgs false
namespace Go.Proofs.YtokipodjggomfaaGreatDoor
theorem ae.{u}:type_of%@Option.some.inj.{u}:=@Option.some.inj
theorem aD.{u}:type_of%@Option.some.injEq.{u}:=@Option.some.injEq
theorem aM:type_of%@Bool.and_eq_true:=@Bool.and_eq_true
theorem bk.{u,v}:type_of%@Option.map_eq_some_iff.{u,v}:=@Option.map_eq_some_iff
theorem bj:type_of%@Nat.eq_of_beq_eq_true:=@Nat.eq_of_beq_eq_true
theorem bw:type_of%@Result.andThen_ok:=@Result.andThen_ok
theorem bn.{u,v}:type_of%@Option.bind_some.{u,v}:=@Option.bind_some
theorem bQ.{u}:type_of%@List.mem_cons_of_mem.{u}:=@List.mem_cons_of_mem
theorem cV.{u,v}:type_of%@Option.bind_eq_some_iff.{u,v}:=@Option.bind_eq_some_iff
theorem bB.{u}:type_of%@List.mem_cons_self.{u}:=@List.mem_cons_self
theorem bZ:type_of%@Nat.le_of_ble_eq_true:=@Nat.le_of_ble_eq_true
theorem aS:type_of%@Sem.run_bind:=@Sem.run_bind
theorem cg.{u}:type_of%@List.length_append.{u}:=@List.length_append
theorem dj.{u}:type_of%@List.getElem?_cons_zero.{u}:=@List.getElem?_cons_zero
theorem b7:type_of%@of_decide_eq_true:=@of_decide_eq_true
theorem cN:type_of%@Int.ofNat_eq_natCast:=@Int.ofNat_eq_natCast
theorem dV.{u}:type_of%@List.getElem?_eq_getElem.{u}:=@List.getElem?_eq_getElem
theorem bE:type_of%@Sem.run_pure:=@Sem.run_pure
theorem cD.{u}:type_of%@List.length_cons.{u}:=@List.length_cons
theorem bD:type_of%@Nat.le_refl:=@Nat.le_refl
theorem fb.{u}:type_of%@Array.getElem?_eq_getElem.{u}:=@Array.getElem?_eq_getElem
theorem bu.{u}:type_of%@exists_imp.{u}:=@exists_imp
theorem c8.{u}:type_of%@List.length_take.{u}:=@List.length_take
theorem cM.{u,v}:type_of%@Option.map_some.{u,v}:=@Option.map_some
theorem av.{u}:type_of%@if_neg.{u}:=@if_neg
theorem c7.{u}:type_of%@List.length_nil.{u}:=@List.length_nil
theorem cB.{u,v}:type_of%@Prod.mk.injEq.{u,v}:=@Prod.mk.injEq
theorem fK:type_of%@Int.eq_ofNat_of_zero_le:=@Int.eq_ofNat_of_zero_le
theorem cC.{u}:type_of%@List.mem_cons.{u}:=@List.mem_cons
theorem gp.{u}:type_of%@List.take_of_length_le.{u}:=@List.take_of_length_le
theorem br.{u}:type_of%@if_false.{u}:=@if_false
theorem fa:type_of%@Bool.false_eq_true:=@Bool.false_eq_true
theorem aJ.{u}:type_of%@if_pos.{u}:=@if_pos
theorem eV.{u}:type_of%@List.length_drop.{u}:=@List.length_drop
theorem bc.{u}:type_of%@if_true.{u}:=@if_true
theorem dE:type_of%@step_lone_go:=@step_lone_go
theorem bq:type_of%@and_imp:=@and_imp
theorem fJ.{u}:type_of%@List.not_mem_nil.{u}:=@List.not_mem_nil
theorem ed:type_of%@Nat.lt_or_ge:=@Nat.lt_or_ge
theorem oh.{u}:type_of%@Array.getD_eq_getD_getElem?.{u}:=@Array.getD_eq_getD_getElem?
theorem my.{u}:type_of%@List.getElem?_eq_some_iff.{u}:=@List.getElem?_eq_some_iff
theorem fH.{u}:type_of%@List.nil_append.{u}:=@List.nil_append
theorem eD:type_of%@Nat.zero_add:=@Nat.zero_add
theorem ki.{u}:type_of%@List.length_singleton.{u}:=@List.length_singleton
theorem eh:type_of%@Nat.add_mul:=@Nat.add_mul
theorem iH:type_of%@of_decide_eq_false:=@of_decide_eq_false
theorem im:type_of%@Bool.not_eq_true':=@Bool.not_eq_true'
theorem hE.{u}:type_of%@Option.getD_some.{u}:=@Option.getD_some
theorem og.{u}:type_of%@List.getElem?_cons_succ.{u}:=@List.getElem?_cons_succ
theorem kZ:type_of%@Nat.mul_le_mul_right:=@Nat.mul_le_mul_right
theorem mx.{u}:type_of%@List.getElem?_toArray.{u}:=@List.getElem?_toArray
theorem hD:type_of%@UInt8.toNat_inj:=@UInt8.toNat_inj
theorem il:type_of%@Bool.or_eq_true:=@Bool.or_eq_true
theorem kY:type_of%@Nat.lt_of_lt_of_le:=@Nat.lt_of_lt_of_le
theorem kh.{u,v}:type_of%@List.getElem?_map.{u,v}:=@List.getElem?_map
theorem oe:type_of%@Bool.and_eq_true_iff:=@Bool.and_eq_true_iff
theorem vx.{u}:type_of%@Array.getElem?_setIfInBounds.{u}:=@Array.getElem?_setIfInBounds
theorem kW:type_of%@not_true_eq_false:=@not_true_eq_false
theorem kg.{u}:type_of%@List.cons_append.{u}:=@List.cons_append
theorem pA.{u}:type_of%@List.getElem?_append.{u}:=@List.getElem?_append
theorem mw.{u}:type_of%@List.append_assoc.{u}:=@List.append_assoc
theorem gE:type_of%@Nat.ne_of_lt:=@Nat.ne_of_lt
theorem od:type_of%@Int.natCast_nonneg:=@Int.natCast_nonneg
theorem mv:type_of%@Nat.mod_eq_of_lt:=@Nat.mod_eq_of_lt
theorem kV:type_of%@Value.int.injEq:=@Value.int.injEq
theorem kR.{u}:type_of%@List.mem_append.{u}:=@List.mem_append
theorem pz:type_of%@Int.add_sub_cancel:=@Int.add_sub_cancel
theorem tY:type_of%@Nat.mul_add_mod_of_lt:=@Nat.mul_add_mod_of_lt
theorem pq:type_of%@not_false_eq_true:=@not_false_eq_true
theorem po:type_of%@Classical.not_not:=@Classical.not_not
theorem iG:type_of%@Nat.le_trans:=@Nat.le_trans
theorem iF:type_of%@Nat.add_zero:=@Nat.add_zero
theorem vw.{u}:type_of%@List.drop_eq_nil_of_le.{u}:=@List.drop_eq_nil_of_le
theorem kf:type_of%@Nat.add_assoc:=@Nat.add_assoc
theorem rD:type_of%@Int.sub_add_cancel:=@Int.sub_add_cancel
theorem dt.{u}:type_of%@Ne.symm.{u}:=@Ne.symm
theorem pk.{u}:type_of%@List.take_length.{u}:=@List.take_length
theorem rC:type_of%@decide_eq_true_eq:=@decide_eq_true_eq
theorem kP.{u,v}:type_of%@List.map_cons.{u,v}:=@List.map_cons
theorem CD.{u}:type_of%@List.getElem?_append_right.{u}:=@List.getElem?_append_right
theorem CC.{u}:type_of%@Array.getElem?_append_left.{u}:=@Array.getElem?_append_left
theorem tX.{u}:type_of%@List.getElem?_drop.{u}:=@List.getElem?_drop
theorem pj.{u}:type_of%@List.cons.injEq.{u}:=@List.cons.injEq
theorem oc.{u}:type_of%@List.take_zero.{u}:=@List.take_zero
theorem oa.{u}:type_of%@List.drop_zero.{u}:=@List.drop_zero
theorem FN.{u}:type_of%@List.eq_nil_of_length_eq_zero.{u}:=@List.eq_nil_of_length_eq_zero
theorem tW:type_of%@Int.toNat_natCast:=@Int.toNat_natCast
theorem fp:type_of%@true_and:=@true_and
theorem vv:type_of%@Value.string.injEq:=@Value.string.injEq
theorem vu.{u}:type_of%@List.getElem?_take.{u}:=@List.getElem?_take
theorem fo.{u,v}:type_of%@congrArg.{u,v}:=@congrArg
theorem fm:type_of%@or_false:=@or_false
theorem mr:type_of%@Nat.zero_mul:=@Nat.zero_mul
theorem FM:type_of%@Nat.le_of_mul_le_mul_right:=@Nat.le_of_mul_le_mul_right
theorem fG:type_of%@and_true:=@and_true
theorem hx:type_of%@and_assoc:=@and_assoc
theorem eI:type_of%@trivial:=@trivial
theorem y9.{u}:type_of%@Array.length_toList.{u}:=@Array.length_toList
theorem vt.{u}:type_of%@List.take_add_one.{u}:=@List.take_add_one
theorem AM.{u}:type_of%@List.drop_eq_getElem_cons.{u}:=@List.drop_eq_getElem_cons
theorem AL.{u}:type_of%@List.getElem?_append_left.{u}:=@List.getElem?_append_left
theorem mY:type_of%@Int.toNat_zero:=@Int.toNat_zero
theorem w5.{u}:type_of%@Array.getElem?_toList.{u}:=@Array.getElem?_toList
theorem w4:type_of%@Nat.ble_eq_true_of_le:=@Nat.ble_eq_true_of_le
theorem uc:type_of%@Nat.pos_of_ne_zero:=@Nat.pos_of_ne_zero
theorem qP.{u}:type_of%@List.all_eq_true.{u}:=@List.all_eq_true
theorem EZ.{u}:type_of%@List.drop_append_of_le_length.{u}:=@List.drop_append_of_le_length
theorem wZ.{u}:type_of%@List.mem_append_left.{u}:=@List.mem_append_left
theorem qO:type_of%@Nat.not_lt_zero:=@Nat.not_lt_zero
theorem qN:type_of%@decide_eq_false:=@decide_eq_false
theorem EY:type_of%@Classical.em:=@Classical.em
theorem EX:type_of%@Bool.and_self:=@Bool.and_self
theorem mX:type_of%@Int.ofNat.inj:=@Int.ofNat.inj
theorem oO.{u,v}:type_of%@List.map_nil.{u,v}:=@List.map_nil
theorem oN:type_of%@Nat.min_self:=@Nat.min_self
theorem mW:type_of%@run_program:=@run_program
theorem mV.{u}:type_of%@List.mem_of_getElem?.{u}:=@List.mem_of_getElem?
theorem k8.{u,v}:type_of%@List.length_map.{u,v}:=@List.length_map
theorem AJ.{u}:type_of%@Array.size_append.{u}:=@Array.size_append
theorem ub.{u,v}:type_of%@Prod.mk.inj.{u,v}:=@Prod.mk.inj
theorem wY:type_of%@Nat.zero_le:=@Nat.zero_le
theorem mU:type_of%@Value.bool.injEq:=@Value.bool.injEq
theorem mT:type_of%@Nat.mul_mod_left:=@Nat.mul_mod_left
theorem wX:type_of%@and_false:=@and_false
theorem wW:type_of%@Calls.mono:=@Calls.mono
theorem jk:type_of%@false_and:=@false_and
end Go.Proofs.YtokipodjggomfaaGreatDoor
namespace Go.Proofs.YtokipodjggomfaaGreatDoor.Abs
inductive Tr(α:Type)where
 |nil
 |node (v:Option α) (l r:Tr α)
 deriving Inhabited
def Tr.get {α:Type} (t:Tr α):Nat->Option α:=
 @Tr.rec α (λ_=>Nat->Option α) (λ_=>none)
  (λv _ _ a b i=>@Nat.rec (λ_=>Option α) v (λn _=>@Bool.rec (λ_=>Option α) (b (Nat.div n 2)) (a (Nat.div n 2)) (Nat.beq (Nat.mod n 2) 0)) i) t
def Tr.Nj {α:Type} (x:Option α) (f:Nat):Nat->Tr α->Tr α:=
 @Nat.rec (λ_=>Nat->Tr α->Tr α) (λ_ t=>t)
  (λ_ up i t=>@Nat.rec (λ_=>Tr α)
    (@Tr.rec α (λ_=>Tr α) (.node x .nil .nil) (λ_ l r _ _=>.node x l r) t)
    (λn _=>@Bool.rec (λ_=>Tr α)
      (@Tr.rec α (λ_=>Tr α) (.node none .nil (up (Nat.div n 2) .nil)) (λv l r _ _=>.node v l (up (Nat.div n 2) r)) t)
      (@Tr.rec α (λ_=>Tr α) (.node none (up (Nat.div n 2) .nil) .nil) (λv l r _ _=>.node v (up (Nat.div n 2) l) r) t)
      (Nat.beq (Nat.mod n 2) 0)) i) f
def Tr.set {α:Type} (t:Tr α) (i:Nat) (x:α):Tr α:=Tr.Nj (some x) (Nat.add i 1) i t
def Tr.del {α:Type} (t:Tr α) (i:Nat):Tr α:=Tr.Nj none (Nat.add i 1) i t
def Tr.lg {α:Type}:List α->Nat->Tr α->Tr α
 | []=>λ_ t=>t
 |x::xs=>λi t=>Tr.lg xs (Nat.add i 1) (t.set i x)
def Tr.ofList {α:Type} (l:List α):Tr α:=Tr.lg l 0 .nil
inductive Kd where
 |any
 |int (k:IntKind)
 |bool
 |str
 |sl (t:TypeId)
 |ptr (t:TypeId) (i:Nat)
 |WI
 deriving Inhabited
inductive Vn where
 |bin (op:BinOp)
 |un (op:UnOp)
 |conv (k:IntKind)
 |len
 |idx
 |sub
 |ite
 |el
 |off (n:Nat)
 |ld (n:Nat)
 |isNil
 |tk (g:Nat)
 |sn
 |at(g k:Nat)
 |nl (P:List Kd)
 |ns (t:TypeId) (g:Nat)
 |zs (P:List Kd) (szs:List Nat)
 |up (g k:Nat)
 |sb
 |bs
 |cat
 deriving Inhabited
inductive SE where
 |var (i:Nat)
 |int (k:IntKind) (n:Int)
 |bool (b:Bool)
 |str (s:List UInt8)
 |a1 (o:Vn) (x:SE)
 |a2 (o:Vn) (x y:SE)
 |a3 (o:Vn) (x y z:SE)
 deriving Inhabited
inductive Dt where
 |val (v:Value)
 |sl (v:Value) (t:TypeId) (g:Nat) (J:List Dt)
 |pt (v:Value) (t:TypeId) (g:Nat) (J:List Dt) (i k:Nat)
 |ls (P:List Kd) (J:List Dt)
 deriving Inhabited
def Dt.v:Dt->Value
 | .val v=>v
 | .sl v _ _ _=>v
 | .pt v _ _ _ _ _=>v
 | .ls _ _=>.tuple ⟨[]⟩
inductive Fact where
 |tr (e:SE)
 |fl (e:SE)
 |inr (i n:SE)
 |rel (nm:String) (neg:Bool) (p:List Dt->Prop) (args:List SE)
 deriving Inhabited
def LM(l:List Dt):Prop:=∃k n m,l=[.val (.int k n),.val (.int .i64 m)]/\¬(0<=n/\n<m)
def v7(l:List Dt):Prop:=∃k n k' m q,l=[.val (.int k n),.val (.int k' m),.val (.int .i64 q)]/\¬(0<=n/\n<=m/\m<=q)
def GJ(g:Nat)(l:List Dt):Prop:=∃P J k n,l=[.ls P J,.val (.int k n)]/\¬(0<=n/\n.toNat*g+g<=J.length)
def OG(g bytes a:Nat)(l:List Dt):Prop:=∃P J n,l=[.ls P J,.val (.int .i64 n)]/\¬(0<=n/\n.toNat*g<=J.length/\(n.toNat+a)*bytes<=68719476736/\n.toNat+a<=68719476736)
inductive AV where
 |int (k:IntKind) (n:Int)
 |bool (b:Bool)
 |str (s:List UInt8)
 |ptr (b off:Nat)
 |uH
 |sl (b off len cap:Nat)
 |qY (b pre e0 len g:Nat)
 |dq
 |qf (r:Nat)
 |ko
 |fn (f:Fn) (first captured:List AV)
 |yield (l:Nat)
 |vd
 |iface (t:TypeId) (v:AV)
 |qc
 |agg (cs:List AV)
 |ji (vs:List AV)
 |fO
 |raw (v:Value)
 |cE (k:Kd) (e:SE)
 |iI (b:Nat) (n c:SE)
 |jn (b:Nat) (i:SE) (g k:Nat)
 deriving Inhabited
def lD:Fn->Bool
 | .yield _=>false
 |_=>true
mutual
def AV.ofConst:Value->AV
 | .int k n=>.int k n
 | .bool b=>.bool b
 | .string s=>.str s.data.toList
 | .pointer none=>.uH
 | .slice none 0 0=>.dq
 | .map none=>.ko
 | .nilFunc=>.vd
 | .func f ⟨[]⟩ ⟨[]⟩=>match lD f with|true=>.fn f [] []|false=>.raw (.func f #[] #[])
 | .nilIface=>.qc
 | .iface t v=>.iface t (AV.ofConst v)
 | .agg ⟨l⟩=>.agg (AV.qb l)
 | .tuple ⟨l⟩=>.ji (AV.qb l)
 |v=>.raw v
def AV.qb:List Value->List AV
 | []=>[]
 |v::l=>AV.ofConst v::AV.qb l
end
structure AD where
 target:AV
 args:List AV
 deriving Inhabited
inductive jh where
 |call (d:AD)
 |collected (r:Nat)
 deriving Inhabited
structure ME where
 k:AV
 v:AV
 born:Nat
 deriving Inhabited
inductive gn where
 |cells (elem:TypeId) (cs:Tr AV) (n fz:Nat) (gU:List Nat) (gV sg:Bool)
 |map (J:List ME) (clock:Nat)
 |Uo (m:Option Nat) (since:Nat) (seen:List Nat) (last:Nat)
 |a5x (s:List UInt8) (pos:Nat)
 |fV (ds:Option (List AD))
 |loop (st:LoopState) (pending:Option Code) (fn:FuncId) (nt:Nat) (tmps:Tr AV) (params:List Tmp) (assign body:Code) (defers:Nat)
 |vec (elem:TypeId) (e:SE)
 |Ie (elem:TypeId) (k:IntKind) (zs:List Int)
 deriving Inhabited
structure S where
 h:Tr gn
 next:Nat
 pc:List Fact
 deriving Inhabited
inductive R(α:Type)where
 |ok (a:α)
 |bad (Ya:String)
 |ask (n:Nat) (k:Nat->R α)
 |must (pc:List Fact) (k:R α)
 deriving Inhabited
def R.bind {α j:Type} (r:R α) (f:α->R j):R j:=
 @R.rec α (λ_=>R j) f (λw=>.bad w) (λn _ a=>.ask n a) (λpc _ a=>.must pc a) r
instance:Monad R where
 pure:=.ok
 bind:=R.bind
def R.yn {α:Type} (Ya:String):Option α->R α
 |some a=>.ok a
 |none=>.bad Ya
def cq(b:Bool)(Ya:String):R Unit:=
 match b with
 |true=>.ok ()
 |false=>.bad Ya
structure TI where
 desc:TypeDesc
 size:Nat
 bytes:Nat
 zero:Option (List AV)
 agg:Bool
 zv:Option AV
 deriving Inhabited
def a0t:TypeDesc->Bool
 | .struct _=>true
 | .array _ _=>true
 |_=>false
def Ey(types:Array TypeInfo)(i:TypeInfo):TI:=
 let u:TypeDesc:=match i.desc with
  | .named _ u=>((types[u]?).map (·.desc)).getD .invalid
  |d=>d
 { desc:=u,size:=i.size,bytes:=i.bytes,zero:=i.zero.map λz=>AV.qb z.cells.toList,agg:=a0t u,zv:=i.zero.map AV.ofConst }
inductive Ext where
 |BI|indexByte
 |index (g:Nat)
def sb:List Nat->List UInt8
 | []=>[]
 |n::l=>UInt8.ofNat n::sb l
inductive MB where
 |cells (elem:TypeId) (cs:List AV) (fz:Nat) (gV sg:Bool)
 |map (J:List ME) (clock:Nat)
 deriving Inhabited
def MB.aO:MB->gn
 | .cells e cs fz st sg=>.cells e (Tr.ofList cs) cs.length fz [] st sg
 | .map J c=>.map J c
inductive cw where
 |code (c:Code)
 |inBlock (id:Nat)
 |inLoop (body:Code)
 |inScope (body:Code)
 |rf (l:Nat)
 |lI (l:Nat)
 |beginRound
 deriving Inhabited
inductive CB where
 |cells (elem:TypeId) (cs:List AV) (fz:Nat) (gV sg:Bool)
 |fV (ds:List AD)
 |loop (st:LoopState) (pe:Option Code) (fn:FuncId) (nt:Nat) (tmps:List (Nat×AV)) (params:List Tmp) (assign body:Code) (defers:Nat)
 |vec (elem:TypeId) (e:SE)
 |Ie (elem:TypeId) (k:IntKind) (zs:List Int)
 |map (J:List ME) (clock:Nat)
 deriving Inhabited
structure ee where
 res:AV
 post:List (Nat×CB)
 facts:List Fact
 m:Nat
 gv:Bool:=false
 deriving Inhabited
structure bX where
 fn:FuncId
 nt:Nat
 round:Option Nat
 t:List (Nat×AV)
 todo:List cw
 n:Nat
 pre:List (Nat×CB)
 facts:List Fact
 outs:List ee
 deriving Inhabited
structure Ctx where
 P:Program
 T:Tr TI
 F:Tr Func
 nG:Nat
 eqT:Nat->Bool
 X:List (FuncId×Ext)
 K:List bX
 L:List bX
 deriving Inhabited
def iD(P:Program)(eqT:Nat->Bool)(X:List (FuncId×Ext))(K:List bX:=[])(L:List bX:=[]):Ctx:={ P,T:=Tr.ofList (P.types.toList.map (Ey P.types)),F:=Tr.ofList P.funcs.toList,nG:=P.globals.size,eqT,X,K,L }
def ti(C:Ctx)(t:TypeId):R TI:=R.yn "no type" (C.T.get t)
def under(C:Ctx)(t:TypeId):R TypeDesc:=do let i <-ti C t;.ok i.desc
def zeroOf(C:Ctx)(t:TypeId):R (List AV):=do let i <-ti C t;R.yn "no zero" i.zero
def qL(C:Ctx)(t:TypeId):R AV:=do let i <-ti C t;R.yn "no zero value" i.zv
def S.new (s:S) (b:gn):S:=⟨s.h.set s.next b,Nat.add s.next 1,s.pc⟩
def AV.cells:AV->R (List AV)
 | .agg cs=>.ok cs
 | .fO=>.bad ""
 | .raw v=>match v with
   | .agg _=>.bad ""
   |v=>.ok [.raw v]
 |v=>.ok [v]
def wi(v:AV):R AV:=
 @AV.rec (λ_=>R AV) (λ_=>Unit) (λ_ _=>.ok v) (λ_=>.ok v) (λ_=>.ok v) (λ_ _=>.ok v) (.ok v) (λ_ _ _ _=>.ok v) (λ_ _ _ _ _=>.ok v) (.ok v) (λ_=>.ok v) (.ok v)
  (λ_ _ _ _ _=>.ok v) (λ_=>.ok v) (.ok v) (λ_ _ _=>.ok v) (.ok v) (λ_ _=>.ok v) (λ_ _=>.ok v) (.bad "") (λ_=>.ok v) (λ_ _=>.ok v) (λ_ _ _=>.ok v) (λ_ _ _ _=>.ok v) () (λ_ _ _ _=>()) v
def nR(cs:Tr AV):Nat->Nat->R (List AV)
 |0=>λ_=>.ok []
 |k+1=>λoff=>
  match cs.get off with
  |some v=>do let v <-wi v;let l <-nR cs k (Nat.add off 1);.ok (v::l)
  |none=>.bad ""
def uw(s:S)(b off k:Nat):R (List AV):=
 match s.h.get b with
 |some (.cells _ cs n _ _ _ _)=>
  match Nat.ble (Nat.add off k) n with
  |true=>nR cs k off
  |false=>.bad ""
 |_=>.bad ""
def BC:Bool->List AV->R AV
 |true=>λl=>.ok (.agg l)
 |false=>λl=>match l with
  | [v]=>.ok v
  |_=>.bad ""
def ic(elem:TypeId)(cs:List AV):gn:=.cells elem (Tr.ofList cs) cs.length 0 [] false false
def oq:List Nat->Tr gn->Tr gn
 | []=>λh=>h
 |a::l=>λh=>oq l (h.del a)
def a7b:AV->Bool
 | .agg _=>false
 | .ji _=>false
 | .fO=>false
 | .raw v=>match v with
   | .agg _=>false
   | .tuple _=>false
   |_=>true
 |_=>true
def ou:List AV->Bool
 | []=>true
 |v::l=>match a7b v with
  |true=>ou l
  |false=>false
def jm(s:S)(b off:Nat)(vs:List AV):R S:=
 match vs with
 | []=>.ok s
 |v::a=>
  match s.h.get b with
  |some (.cells elem cs n fz gU gV sg)=>
   match !gV&&Nat.ble (Nat.add off (v::a).length) n&&Nat.ble fz off&&ou (v::a)with
   |true=>.ok ⟨(oq gU s.h).set b (.cells elem (Tr.lg (v::a) off cs) n fz [] false sg),s.next,s.pc⟩
   |false=>.bad ""
  |_=>.bad ""
def th(a b:IntKind):Bool:=decide (a=b)
def r8(a b:Kd):Bool:=
 match a with
 | .any=>match b with| .any=>true|_=>false
 | .int x=>match b with| .int y=>th x y|_=>false
 | .bool=>match b with| .bool=>true|_=>false
 | .str=>match b with| .str=>true|_=>false
 | .sl x=>match b with| .sl y=>Nat.beq x y|_=>false
 | .ptr x i=>match b with| .ptr y j=>Nat.beq x y&&Nat.beq i j|_=>false
 | .WI=>match b with| .WI=>true|_=>false
def Es:AV->Kd
 | .int k _=>.int k
 | .bool _=>.bool
 | .str _=>.str
 | .cE k _=>k
 |_=>.any
def ea:AV->SE
 | .int k n=>.int k n
 | .bool b=>.bool b
 | .str s=>.str s
 | .cE _ e=>e
 |_=>.bool true
def aaY(C:Ctx)(t:TypeId):Kd:=
 match C.T.get t with
 |some i=>match i.desc with
  | .int k=>.int k
  | .bool=>.bool
  | .string=>.str
  | .slice e=>.sl e
  |_=>.any
 |none=>.any
def Pl(C:Ctx):List TypeId->List Kd
 | []=>[]
 |t::l=>aaY C t::Pl C l
def aA(C:Ctx)(t:TypeId):List Kd:=
 match C.P.cellTypes C.P.depth t with
 |some l=>Pl C l
 |none=>[]
def Md(e:SE):Nat->List Kd->Nat->R (List AV)
 |0=>λ_ _=>.ok []
 |n+1=>λP m=>match P with
  | []=>.bad ""
  |k::P=>do
   let l <-Md e n P (Nat.add m 1)
   .ok (.cE k (.a1 (.ld m) e)::l)
def M4(e i:SE)(g:Nat):Nat->List Kd->Nat->R (List AV)
 |0=>λ_ _=>.ok []
 |n+1=>λP m=>match P with
  | []=>.bad ""
  |k::P=>do
   let l <-M4 e i g n P (Nat.add m 1)
   .ok (.cE k (.a2 (.at g m) e i)::l)
def L7(C:Ctx)(s:S)(t:TypeId)(b:Nat)(i:SE)(g k:Nat):R AV:=
 match s.h.get b with
 |some (.vec el e)=>do
  let j <-ti C t
  cq (Nat.beq g (aA C el).length) "load: size"
  .must (.rel "" false (GJ g) [e,i]::s.pc) ((M4 e i g (match j.agg with|true=>j.size|false=>1) ((aA C el).drop k) k).bind λl=>BC j.agg l)
 |_=>.bad ""
def loadAt(C:Ctx)(s:S)(t:TypeId):AV->R AV
 | .cE k e=>match k with
   | .ptr u j=>do
     let i <-ti C t
     let l <-Md e (match i.agg with|true=>i.size|false=>1) ((aA C u).drop j) 0
     BC i.agg l
   |_=>.bad ""
 | .ptr b off=>do
   let i <-ti C t
   let l <-uw s b off (match i.agg with|true=>i.size|false=>1)
   BC i.agg l
 | .jn b i g k=>L7 C s t b i g k
 |_=>.bad ""
def eB:List UInt8->List UInt8->Bool
 | []=>λy=>match y with| []=>true|_=>false
 |a::x=>λy=>match y with
  | []=>false
  |b::y=>match Nat.beq a.toNat b.toNat with|true=>eB x y|false=>false
def iEq(a b:Int):Bool:=decide (a=b)
def acL(a b:BinOp):Bool:=decide (a=b)
def acp(a b:UnOp):Bool:=decide (a=b)
def oI:List Kd->List Kd->Bool
 | []=>λy=>match y with| []=>true|_::_=>false
 |a::x=>λy=>match y with
  | []=>false
  |b::y=>r8 a b&&oI x y
def Qv:Kd->Bool
 | .int _=>true
 | .bool=>true
 | .str=>true
 | .sl _=>true
 |_=>false
def L3:List Nat->List Nat->Bool
 | []=>λy=>match y with| []=>true|_::_=>false
 |a::x=>λy=>match y with
  | []=>false
  |b::y=>Nat.beq a b&&L3 x y
def NK(a b:Vn):Bool:=
 match a with
 | .bin x=>match b with| .bin y=>acL x y|_=>false
 | .un x=>match b with| .un y=>acp x y|_=>false
 | .conv x=>match b with| .conv y=>th x y|_=>false
 | .len=>match b with| .len=>true|_=>false
 | .idx=>match b with| .idx=>true|_=>false
 | .sub=>match b with| .sub=>true|_=>false
 | .ite=>match b with| .ite=>true|_=>false
 | .el=>match b with| .el=>true|_=>false
 | .off x=>match b with| .off y=>Nat.beq x y|_=>false
 | .ld x=>match b with| .ld y=>Nat.beq x y|_=>false
 | .isNil=>match b with| .isNil=>true|_=>false
 | .tk x=>match b with| .tk y=>Nat.beq x y|_=>false
 | .sn=>match b with| .sn=>true|_=>false
 | .at x y=>match b with| .at c d=>Nat.beq x c&&Nat.beq y d|_=>false
 | .nl x=>match b with| .nl y=>oI x y|_=>false
 | .ns x y=>match b with| .ns c d=>Nat.beq x c&&Nat.beq y d|_=>false
 | .zs x y=>match b with| .zs c d=>oI x c&&L3 y d|_=>false
 | .up x y=>match b with| .up c d=>Nat.beq x c&&Nat.beq y d|_=>false
 | .sb=>match b with| .sb=>true|_=>false
 | .bs=>match b with| .bs=>true|_=>false
 | .cat=>match b with| .cat=>true|_=>false
def db:SE->SE->Bool
 | .var i=>λb=>match b with| .var j=>Nat.beq i j|_=>false
 | .int k n=>λb=>match b with| .int k' m=>th k k'&&iEq n m|_=>false
 | .bool x=>λb=>match b with| .bool y=>x==y|_=>false
 | .str x=>λb=>match b with| .str y=>eB x y|_=>false
 | .a1 o x=>λb=>match b with| .a1 T a=>NK o T&&db x a|_=>false
 | .a2 o x y=>λb=>match b with| .a2 T a c=>NK o T&&db x a&&db y c|_=>false
 | .a3 o x y z=>λb=>match b with| .a3 T a c d=>NK o T&&db x a&&db y c&&db z d|_=>false
def seK(C:Ctx)(k:Kd)(v:AV):Option SE:=
 match v with
 | .dq=>match k with
   | .sl t=>some (.a1 (.ns t (aA C t).length) (.bool true))
   |_=>none
 |v=>match r8 (Es v) k && !r8 k .any with
  |true=>some (ea v)
  |false=>none
def sW(C:Ctx)(a:List Kd):List AV->List Kd->SE->Option SE
 | []=>λ_ e=>some e
 |v::l=>λP e=>match P with
  | []=>match a with
    | []=>none
    |q::P=>match seK C q v with
     |some x=>sW C a l P (.a2 .sn e x)
     |none=>none
  |q::P=>match seK C q v with
   |some x=>sW C a l P (.a2 .sn e x)
   |none=>none
def qG:SE->List SE->SE×List SE
 | .a2 o x y=>λacc=>match o with
   | .sn=>qG x (y::acc)
   |o=>(.a2 o x y,acc)
 | .var i=>λacc=>(.var i,acc)
 | .int k n=>λacc=>(.int k n,acc)
 | .bool b=>λacc=>(.bool b,acc)
 | .str s=>λacc=>(.str s,acc)
 | .a1 o x=>λacc=>(.a1 o x,acc)
 | .a3 o x y z=>λacc=>(.a3 o x y z,acc)
def rV(a:List Kd):List SE->List Kd->List AV
 | []=>λ_=>[]
 |x::l=>λP=>match P with
  | []=>match a with
    | []=>[]
    |q::P=>.cE q x::rV a l P
  |q::P=>.cE q x::rV a l P
def Yk(e:SE):Option (Nat×SE):=
 match e with
 | .a2 o _ n=>match o with
   | .tk g=>some (g,n)
   |_=>none
 |_=>none
def nth{α:Type}:List α->Nat->Option α
 | []=>λ_=>none
 |x::l=>λi=>match i with
  |0=>some x
  |n+1=>nth l n
def jL(C:Ctx)(s:S)(b:Nat)(i:SE)(g k:Nat)(c:List AV):R S:=
 match s.h.get b with
 |some (.vec el y)=>match Yk (qG y []).1 with
  |none=>.bad ""
  |some p=>match(Nat.beq p.1 g&&db p.2 i)&&(Nat.beq g (aA C el).length&&(!Nat.beq g 0&&(Nat.ble (Nat.add k c.length) (qG y []).2.length&&ou c)))with
   |false=>.bad ""
   |true=>match sW C (aA C el) ((rV (aA C el) (qG y []).2 (aA C el)).take k++c++(rV (aA C el) (qG y []).2 (aA C el)).drop (Nat.add k c.length)) (aA C el) (qG y []).1 with
    |some a=>.ok ⟨s.h.set b (.vec el a),s.next,s.pc⟩
    |none=>.bad ""
 |_=>.bad ""
def storeAt(C:Ctx)(s:S)(t:TypeId)(a v:AV):R S:=
 match a with
 | .ptr b off=>do
   let i <-ti C t
   let c <-v.cells
   match Nat.beq c.length i.size with
   |true=>jm s b off c
   |false=>.bad ""
 | .jn b k g q=>do
   let i <-ti C t
   let c <-v.cells
   match Nat.beq c.length i.size with
   |true=>jL C s b k g q c
   |false=>.bad ""
 |_=>.bad ""
def mJ(place:Nat->Option (Nat×Nat)):List (Nat×AV)->List AV->R (List AV)
 | []=>λcells=>.ok cells
 |(i,v)::rest=>λcells=>
  match place i with
  |none=>.bad ""
  |some (off,size)=>do
   let c <-v.cells
   match Nat.beq c.length size&&Nat.ble (Nat.add off size) cells.length with
   |true=>mJ place rest (cells.take off++c++cells.drop (Nat.add off size))
   |false=>.bad ""
def asInt:AV->R Int
 | .int _ n=>.ok n
 |_=>.bad ""
def Ei:AV->R Nat
 | .int _ (.ofNat n)=>.ok n
 |_=>.bad ""
def N7(zero:List AV):Nat->List AV
 |0=>[]
 |n+1=>zero++N7 zero n
inductive Nx where
 |val (v:AV) (s:S)
 |skip (s:S)
 |enter (f:FuncId) (args:List AV) (s:S)
 |round (l:Nat) (args:List AV) (s:S)
 |defer (d:AD) (s:S)
 |recover (s:S)
 |gv (v:AV) (s:S)
 deriving Inhabited
def lL:List UInt8->List UInt8->Bool
 | []=>λy=>match y with| []=>false|_=>true
 |a::x=>λy=>match y with
  | []=>false
  |b::y=>match Nat.blt a.toNat b.toNat with
   |true=>true
   |false=>match Nat.beq a.toNat b.toNat with|true=>lL x y|false=>false
def bM:BinOp->IntKind->Int->Int->R AV
 | .add=>λk x y=>.ok (.int k (k.wrap (x+y)))
 | .sub=>λk x y=>.ok (.int k (k.wrap (x-y)))
 | .mul=>λk x y=>.ok (.int k (k.wrap (x*y)))
 | .quo=>λk x y=>match decide (y=0)with|true=>.bad "" |false=>.ok (.int k (k.wrap (x.tdiv y)))
 | .rem=>λk x y=>match decide (y=0)with|true=>.bad "" |false=>.ok (.int k (x.tmod y))
 | .and=>λk x y=>.ok (.int k (k.wrap (BitVec.ofInt k.bits x &&& BitVec.ofInt k.bits y).toNat))
 | .or=>λk x y=>.ok (.int k (k.wrap (BitVec.ofInt k.bits x |||BitVec.ofInt k.bits y).toNat))
 | .xor=>λk x y=>.ok (.int k (k.wrap (BitVec.ofInt k.bits x ^^^ BitVec.ofInt k.bits y).toNat))
 | .andNot=>λk x y=>.ok (.int k (k.wrap (BitVec.ofInt k.bits x &&& ~~~ BitVec.ofInt k.bits y).toNat))
 | .eql=>λ_ x y=>.ok (.bool (decide (x=y)))
 | .neq=>λ_ x y=>.ok (.bool (!decide (x=y)))
 | .lss=>λ_ x y=>.ok (.bool (decide (x<y)))
 | .leq=>λ_ x y=>.ok (.bool (decide (x<=y)))
 | .gtr=>λ_ x y=>.ok (.bool (decide (y<x)))
 | .geq=>λ_ x y=>.ok (.bool (decide (y<=x)))
 |_=>λ_ _ _=>.bad ""
def oS(op:BinOp)(k:IntKind)(x y:Int):R AV:=
 match decide (y<0)with
 |true=>.bad ""
 |false=>
  match op with
  | .shl=>.ok (.int k (k.wrap (x*2^(min y.toNat k.bits))))
  | .shr=>.ok (.int k (x.fdiv (2^(min y.toNat k.bits))))
  |_=>.bad ""
def mb:BinOp->List UInt8->List UInt8->R AV
 | .add=>λx y=>match Nat.ble (Nat.add x.length y.length) 1099511627776 with|true=>.ok (.str (x++y))|false=>.bad ""
 | .eql=>λx y=>.ok (.bool (eB x y))
 | .neq=>λx y=>.ok (.bool (!eB x y))
 | .lss=>λx y=>.ok (.bool (lL x y))
 | .leq=>λx y=>.ok (.bool (lL x y||eB x y))
 | .gtr=>λx y=>.ok (.bool (!(lL x y||eB x y)))
 | .geq=>λx y=>.ok (.bool (!lL x y))
 |_=>λ_ _=>.bad ""
def isRef:AV->Bool
 | .uH=>true
 | .ptr _ _=>true
 | .qc=>true
 | .iface _ _=>true
 |_=>false
def St(C:Ctx)(s:S):Nat->TypeId->AV->AV->R Bool
 |0=>λ_ _ _=>.bad ""
 |d+1=>λt x y=>do
  match <-under C t with
  | .int _=>match x,y with
    | .int k a,.int k' b=>match decide (k=k')with|true=>.ok (decide (a=b))|false=>.bad ""
    |_,_=>.bad ""
  | .pointer e=>match x,y with
    | .uH,.uH=>.ok true
    | .ptr _ _,.uH=>.ok false
    | .ptr a i,.ptr b j=>do
      let f <-ti C e
      cq (!Nat.beq f.size 0) "eq: pointers to nothing"
      match Nat.beq a b with
      |true=>.ok (Nat.beq i j)
      |false=>.bad ""
    |_,_=>.bad ""
  | .interface _=>match x,y with
    | .qc,.qc=>.ok true
    | .iface _ _,.qc=>.ok false
    | .iface c g,.iface ty h=>
      match Nat.beq c ty with
      |false=>.bad ""
      |true=>
       match C.P.types[c]? with
       |some i=>match i.comparable with
        |true=>St C s d c g h
        |false=>.bad ""
       |none=>.bad ""
    |_,_=>.bad ""
  |_=>.bad ""
def bS:BinOp->Bool
 | .shl=>true
 | .shr=>true
 |_=>false
def dm:Operand->Bool
 | .const _=>true
 |_=>false
def HD(c:Bool)(x y:AV):R Unit:=
 match x,y with
 | .qc,.qc=>cq c "eq: two nils"
 |_,_=>.ok ()
def abv(C:Ctx)(s:S)(op:BinOp)(t:TypeId)(c:Bool)(x y:AV):R AV:=
 match op with
 | .eql=>do HD c x y;let r <-St C s 100 t x y;.ok (.bool r)
 | .neq=>do HD c x y;let r <-St C s 100 t x y;.ok (.bool (!r))
 |_=>.bad ""
def qp(C:Ctx)(s:S)(op:BinOp)(t:TypeId)(c:Bool)(x y:AV):R AV:=
 match x,y with
 | .int k a,.int k' b=>
   match bS op with
   |true=>oS op k a b
   |false=>match decide (k=k')with|true=>bM op k a b|false=>.bad ""
 | .str a,.str b=>mb op a b
 |x,y=>match isRef x&&isRef y with|true=>abv C s op t c x y|false=>.bad ""
def oJ:BinOp->Bool
 | .eql=>true
 | .neq=>true
 | .lss=>true
 | .leq=>true
 | .gtr=>true
 | .geq=>true
 |_=>false
def qk(e:SE):List Fact->Option Bool
 | []=>none
 |f::l=>match f with
  | .tr x=>match db x e with
    |true=>some true
    |false=>qk e l
  | .fl x=>match db x e with
    |true=>some false
    |false=>qk e l
  | .inr _ _=>qk e l
  | .rel _ _ _ _=>qk e l
abbrev Qn:=Option Int×Option Int
def D0(a:Option Int)(n:Int):Option Int:=
 match a with
 |none=>some n
 |some m=>match decide (m<n)with|true=>some n|false=>some m
def D2(a:Option Int)(n:Int):Option Int:=
 match a with
 |none=>some n
 |some m=>match decide (n<m)with|true=>some n|false=>some m
def isO(a:Option Int)(c:Int):Bool:=
 match a with
 |none=>false
 |some m=>decide (m=c)
def La(c:Int)(x:Qn):Qn:=
 (match isO x.1 c with|true=>some (c+1)|false=>x.1,match isO x.2 c with|true=>some (c-1)|false=>x.2)
def ab7(op:BinOp)(b:Bool)(c:Int)(x:Qn):Qn:=
 match op with
 | .eql=>match b with|true=>(D0 x.1 c,D2 x.2 c)|false=>La c x
 | .neq=>match b with|false=>(D0 x.1 c,D2 x.2 c)|true=>La c x
 | .lss=>match b with|true=>(x.1,D2 x.2 (c-1))|false=>(D0 x.1 c,x.2)
 | .leq=>match b with|true=>(x.1,D2 x.2 c)|false=>(D0 x.1 (c+1),x.2)
 | .gtr=>match b with|true=>(D0 x.1 (c+1),x.2)|false=>(x.1,D2 x.2 c)
 | .geq=>match b with|true=>(D0 x.1 c,x.2)|false=>(x.1,D2 x.2 (c-1))
 |_=>x
def Mw:BinOp->BinOp
 | .lss=>.gtr
 | .leq=>.geq
 | .gtr=>.lss
 | .geq=>.leq
 |op=>op
def qm:BinOp->Bool
 | .eql=>true| .neq=>true| .lss=>true| .leq=>true| .gtr=>true| .geq=>true|_=>false
def Jb(e:SE):Option (BinOp×SE×IntKind×Int):=
 match e with
 | .a2 o x y=>match o with
   | .bin op=>match qm op with
     |false=>none
     |true=>match y with
      | .int k c=>some (op,x,k,c)
      |_=>match x with
       | .int k c=>some (Mw op,y,k,c)
       |_=>none
   |_=>none
 |_=>none
def An(x:SE)(k:IntKind)(e:SE)(b:Bool)(m:Qn):Qn:=
 match Jb e with
 |some (op,y,k',c)=>match th k k'&&db x y with
  |true=>ab7 op b c m
  |false=>m
 |none=>m
def qy(x:SE)(k:IntKind):List Fact->Qn->Qn
 | []=>λm=>m
 |f::l=>λm=>match f with
  | .tr e=>An x k e true (qy x k l m)
  | .fl e=>An x k e false (qy x k l m)
  |_=>qy x k l m
def Mm:SE->Bool
 | .a1 o _=>match o with| .len=>true|_=>false
 |_=>false
def J3(a:Option Int)(n:Int):Bool:=match a with|some m=>decide (m<=n)|none=>false
def Mu(a:Option Int)(n:Int):Bool:=match a with|some m=>decide (n<=m)|none=>false
def yX(op:BinOp)(c:Int)(m:Qn):Option Bool:=
 match op with
 | .eql=>match Mu m.1 (c+1)||J3 m.2 (c-1)with|true=>some false|false=>match Mu m.1 c&&J3 m.2 c with|true=>some true|false=>none
 | .neq=>match Mu m.1 (c+1)||J3 m.2 (c-1)with|true=>some true|false=>match Mu m.1 c&&J3 m.2 c with|true=>some false|false=>none
 | .lss=>match J3 m.2 (c-1)with|true=>some true|false=>match Mu m.1 c with|true=>some false|false=>none
 | .leq=>match J3 m.2 c with|true=>some true|false=>match Mu m.1 (c+1)with|true=>some false|false=>none
 | .gtr=>match Mu m.1 (c+1)with|true=>some true|false=>match J3 m.2 c with|true=>some false|false=>none
 | .geq=>match Mu m.1 c with|true=>some true|false=>match J3 m.2 (c-1)with|true=>some false|false=>none
 |_=>none
def Ra(e:SE)(pc:List Fact):Option (Int×Int):=
 match qy e .i64 pc (none,none)with
 |(a,b)=>match a with
  |some l=>match b with
   |some h=>some (l,h)
   |none=>none
  |none=>none
def a9d(a b:Option (Int×Int)):Option (Int×Int):=
 match a with
 |some (l,h)=>match b with
  |some (O,h')=>match decide (-4611686018427387904<=l+O)&&decide (h+h'<=4611686018427387904)with
   |true=>some (l+O,h+h')
   |false=>none
  |none=>none
 |none=>none
def a6P(a b:Option (Int×Int)):Option (Int×Int):=
 match a with
 |some (l,h)=>match b with
  |some (O,h')=>match decide (-4611686018427387904<=l-h')&&decide (h-O<=4611686018427387904)with
   |true=>some (l-h',h-O)
   |false=>none
  |none=>none
 |none=>none
def rJ(pc:List Fact):SE->Option (Int×Int)
 | .int k n=>match k with
   | .i64=>match decide (-4611686018427387904<=n)&&decide (n<=4611686018427387904)with
     |true=>some (n,n)
     |false=>none
   |_=>none
 | .a2 o x y=>match Ra (.a2 o x y) pc with
   |some r=>some r
   |none=>match o with
    | .bin op=>match op with
      | .add=>a9d (rJ pc x) (rJ pc y)
      | .sub=>a6P (rJ pc x) (rJ pc y)
      |_=>none
    |_=>none
 | .var i=>Ra (.var i) pc
 | .a1 o x=>Ra (.a1 o x) pc
 | .a3 o x y z=>Ra (.a3 o x y z) pc
 |_=>none
def inR(e:SE)(lo V:Int)(pc:List Fact):Bool:=
 match rJ pc e with
 |some (l,h)=>decide (lo<=l)&&decide (h<=V)
 |none=>false
def a6O(op:BinOp)(x:SE)(k:IntKind)(c:Int)(pc:List Fact):Option Bool:=
 match th k .i64 with
 |true=>match rJ pc x with
  |some (l,h)=>yX op c (some l,some h)
  |none=>none
 |false=>none
def Ri(e:SE)(pc:List Fact):Option Bool:=
 match e with
 | .a2 o x y=>match o with
   | .bin op=>match qm op with
     |true=>match rJ pc x with
      |some (l,h)=>match rJ pc y with
       |some (O,h')=>yX op 0 (some (l-h'),some (h-O))
       |none=>none
      |none=>none
     |false=>none
   |_=>none
 |_=>none
def M1(e:SE)(pc:List Fact):Option Bool:=
 match Jb e with
 |some (op,x,k,c)=>match yX op c (qy x k pc (match Mm x with|true=>(some 0,none)|false=>(none,none)))with
  |some b=>some b
  |none=>a6O op x k c pc
 |none=>Ri e pc
def PH(e:SE):Option (Bool×SE×SE):=
 match e with
 | .a2 o x y=>match o with
   | .bin op=>match op with
     | .eql=>some (true,x,y)
     | .neq=>some (false,x,y)
     |_=>none
   |_=>none
 |_=>none
def Dw(a b:Bool):Bool:=
 match a with
 |true=>b
 |false=> !b
def Dl(x y e:SE)(b:Bool):Option Bool:=
 match PH e with
 |some (p,u,v)=>match(db u x&&db v y)||(db u y&&db v x)with
  |true=>some (Dw p b)
  |false=>none
 |none=>none
def lH(x y:SE):List Fact->Option Bool
 | []=>none
 |f::l=>match f with
  | .tr e=>match Dl x y e true with
    |some b=>some b
    |none=>lH x y l
  | .fl e=>match Dl x y e false with
    |some b=>some b
    |none=>lH x y l
  | .inr _ _=>lH x y l
  | .rel _ _ _ _=>lH x y l
def BM(x y:SE):Option (List UInt8×SE):=
 match x with
 | .str s=>some (s,y)
 |_=>match y with
  | .str s=>some (s,x)
  |_=>none
def a0a(e:SE):Option (List UInt8×SE):=
 match PH e with
 |some (p,u,v)=>(match p with
  |true=>BM u v
  |false=>none)
 |none=>none
def G9(s:List UInt8)(z:SE):List Fact->Bool
 | []=>false
 |f::l=>match f with
  | .tr e=>(match a0a e with
    |some (F,a)=>(match db a z && !eB F s with
     |true=>true
     |false=>G9 s z l)
    |none=>G9 s z l)
  |_=>G9 s z l
def By(x y:SE)(pc:List Fact):Bool:=
 match BM x y with
 |some (s,z)=>G9 s z pc
 |none=>false
def UT(e:SE)(pc:List Fact):Option Bool:=
 match PH e with
 |some (p,x,y)=>match db x y with
  |true=>some p
  |false=>match lH x y pc with
   |some b=>some (Dw p b)
   |none=>match By x y pc with
    |true=>some (Dw p false)
    |false=>none
 |none=>none
def YM(e:SE):Option Bool:=
 match e with
 | .a2 o x y=>match o with
   | .bin op=>match db x y with
     |true=>(match op with
      | .lss=>some false
      | .gtr=>some false
      |_=>none)
     |false=>none
   |_=>none
 |_=>none
def q0(e:SE)(pc:List Fact):Option Bool:=
 match qk e pc with
 |some b=>some b
 |none=>match M1 e pc with
  |some b=>some b
  |none=>match UT e pc with
   |some b=>some b
   |none=>YM e
def O1(e:SE):Option SE:=
 match e with
 | .a1 o x=>match o with
   | .un u=>match u with
     | .not=>some x
     |_=>none
   |_=>none
 |_=>none
def xE(e:SE)(pc:List Fact):Option Bool:=
 match O1 e with
 |some x=>match q0 x pc with
  |some b=>some (!b)
  |none=>none
 |none=>q0 e pc
def U6(s:S)(e:SE):AV:=
 match xE e s.pc with
 |some b=>.bool b
 |none=>.cE .bool e
def C9(e:SE):Bool:=
 match e with
 | .int _ n=>(match n with| .ofNat _=>true| .negSucc _=>false)
 |_=>false
def J1(pc:List Fact)(e:SE):Option Nat:=
 match(qy (.a1 .len e) .i64 pc (some 0,none)).2 with
 |some m=>some m.toNat
 |none=>none
def ve(pc:List Fact):SE->Option Nat
 | .str s=>some s.length
 | .a2 o x y=>(match o with
   | .bin op=>(match op with
     | .add=>(match ve pc x with
       |some a=>(match ve pc y with
        |some b=>some (Nat.add a b)
        |none=>none)
       |none=>none)
     |_=>J1 pc (.a2 o x y))
   |_=>J1 pc (.a2 o x y))
 | .a3 o x y z=>(match o with
   | .sub=>ve pc x
   |_=>J1 pc (.a3 o x y z))
 |e=>J1 pc e
def Mx(pc:List Fact)(x y:SE):Bool:=
 match ve pc x with
 |some a=>(match ve pc y with
  |some b=>Nat.ble (Nat.add a b) 1099511627776
  |none=>false)
 |none=>false
def Mb(e:SE):Option Int:=
 match e with
 | .int k n=>match k with
   | .i64=>some n
   |_=>none
 |_=>none
def Pc(e:SE):SE×Int:=
 match e with
 | .a2 o x y=>match o with
   | .bin op=>match op with
     | .add=>match Mb y with
       |some n=>(x,n)
       |none=>(e,0)
     | .sub=>match Mb y with
       |some n=>(x, -n)
       |none=>(e,0)
     |_=>(e,0)
   |_=>(e,0)
 |_=>(e,0)
def Nz(x:SE)(k:Int):SE:=
 match k with
 | .ofNat n=>match n with
   |0=>x
   |n+1=>.a2 (.bin .add) x (.int .i64 (.ofNat (n+1)))
 | .negSucc n=>.a2 (.bin .sub) x (.int .i64 (.ofNat (n+1)))
def Q0(k:Int):Bool:=decide (-1073741824<=k)&&decide (k<=1073741824)
def a3C(s:S)(op:BinOp)(x:SE)(c:Int):Option AV:=
 match Pc x with
 |(b,k)=>match inR b (-1152921504606846976) 1152921504606846976 s.pc&&(Q0 k&&Q0 c)with
  |false=>none
  |true=>match op with
   | .add=>some (.cE (.int .i64) (Nz b (k+c)))
   | .sub=>some (.cE (.int .i64) (Nz b (k-c)))
   |_=>none
def a3B(s:S)(op:BinOp)(x y:SE):Option AV:=
 match Mb y with
 |some c=>a3C s op x c
 |none=>match Mb x with
  |some c=>match op with
   | .add=>a3C s .add y c
   |_=>none
  |none=>none
def Mk(e:SE):Bool:=
 match e with
 | .int _ n=>(match n with
   | .ofNat m=>Nat.blt 0 m
   | .negSucc _=>false)
 |_=>false
def Ty(s:S)(op:BinOp)(k k':IntKind)(x y:SE):R AV:=
 match bS op with
 |true=>(match C9 y with
  |true=>.ok (.cE (.int k) (.a2 (.bin op) x y))
  |false=>.bad "")
 |false=>match decide (k=k')with
  |false=>.bad ""
  |true=>match oJ op with
   |true=>.ok (U6 s (.a2 (.bin op) x y))
   |false=>match op with
    | .quo=>(match Mk y with
      |true=>.ok (.cE (.int k) (.a2 (.bin op) x y))
      |false=>.bad "")
    | .rem=>(match Mk y with
      |true=>.ok (.cE (.int k) (.a2 (.bin op) x y))
      |false=>.bad "")
    |op=>.ok (.cE (.int k) (.a2 (.bin op) x y))
def Yq(s:S)(op:BinOp)(k k':IntKind)(x y:SE):R AV:=
 match a3B s op x y with
 |some v=>.ok v
 |none=>Ty s op k k' x y
def Yp(s:S)(op:BinOp)(x y:SE):R AV:=
 match oJ op with
 |true=>.ok (U6 s (.a2 (.bin op) x y))
 |false=>match op with
  | .add=>(match Mx s.pc x y with
    |true=>.ok (.cE .str (.a2 (.bin op) x y))
    |false=>.bad "")
  |_=>.bad ""
def UO(s:S)(op:BinOp)(x y:AV):R AV:=
 match Es x with
 | .int k=>match Es y with
   | .int k'=>Yq s op k k' (ea x) (ea y)
   |_=>.bad ""
 | .str=>match Es y with
   | .str=>Yp s op (ea x) (ea y)
   |_=>.bad ""
 |_=>.bad ""
def a0T(C:Ctx)(s:S)(op:BinOp)(t:TypeId)(c:Bool)(x y:AV):R AV:=
 match x with
 | .cE _ _=>UO s op x y
 |x=>match y with
  | .cE _ _=>UO s op x y
  |y=>qp C s op t c x y
def uM(i n:SE):List Fact->Bool
 | []=>false
 |f::l=>match f with
  | .inr a b=>match db a i&&db b n with
    |true=>true
    |false=>uM i n l
  |_=>uM i n l
def Hp(i:SE):List Fact->Bool
 | []=>false
 |f::l=>match f with
  | .inr a _=>match db a i with
    |true=>true
    |false=>Hp i l
  |_=>Hp i l
def Z6(e:SE):Option (SE×SE):=
 match e with
 | .a2 o x y=>match o with
   | .bin op=>match op with
     | .lss=>some (x,y)
     |_=>none
   |_=>none
 |_=>none
def Lf(m n:SE)(pc:List Fact):Bool:=
 match db m n with
 |true=>true
 |false=>match lH m n pc with
  |some b=>b
  |none=>false
def BX(i n:SE)(pc:List Fact):List Fact->Bool
 | []=>false
 |f::l=>match f with
  | .tr e=>match Z6 e with
    |some (a,m)=>match db a i&&Lf m n pc with
     |true=>true
     |false=>BX i n pc l
    |none=>BX i n pc l
  |_=>BX i n pc l
def Z8(i:SE)(pc:List Fact):Bool:=
 match Hp i pc with
 |true=>true
 |false=>match C9 i with
  |true=>true
  |false=>Mu (qy i .i64 pc (none,none)).1 0
def iW(i n:SE)(pc:List Fact):Bool:=
 match uM i n pc with
 |true=>true
 |false=>BX i n pc pc&&Z8 i pc
def UJ(e:SE)(n:Nat)(pc:List Fact):Bool:=
 match xE (.a2 (.bin .geq) e (.int .i64 (.ofNat n))) pc with
 |some b=>b
 |none=>false
def uL(x:SE)(pc:List Fact):Bool:=J3 (qy (.a1 .len x) .i64 pc (some 0,none)).2 4611686018427387904
def ry(e:SE):Option (SE×Nat):=
 match e with
 | .a2 o x y=>match o with
   | .bin op=>match op with
     | .add=>match y with
       | .int k n=>match k with
         | .i64=>match n with
           | .ofNat m=>some (x,m)
           | .negSucc _=>none
         |_=>none
       |_=>none
     |_=>none
   |_=>none
 |_=>none
def C3(i n:SE):List Fact->Bool
 | []=>false
 |f::l=>match f with
  | .fl e=>match db e (.a2 (.bin .geq) i n)with
    |true=>true
    |false=>C3 i n l
  |_=>C3 i n l
def nT(i:SE)(d:Nat)(n:SE):List Fact->Bool
 | []=>false
 |f::l=>match f with
  | .fl e=>(match e with
    | .a2 o a m=>match o with
      | .bin op=>match op with
        | .gtr=>match ry a with
          |some (j,c)=>(match db j i&&(db m n&&(Nat.blt d c&&Nat.blt c 1000000))with
           |true=>true
           |false=>nT i d n l)
          |none=>nT i d n l
        |_=>nT i d n l
      |_=>nT i d n l
    |_=>nT i d n l)
  | .tr e=>(match e with
    | .a2 o a m=>match o with
      | .bin op=>match op with
        | .leq=>match ry a with
          |some (j,c)=>(match db j i&&(db m n&&(Nat.blt d c&&Nat.blt c 1000000))with
           |true=>true
           |false=>nT i d n l)
          |none=>nT i d n l
        |_=>nT i d n l
      |_=>nT i d n l
    |_=>nT i d n l)
  |_=>nT i d n l
def N3(x i:SE)(n:Nat)(a b:SE):Bool:=
 db a (.a2 (.bin .sub) (.a1 .len x) i)&&(match b with
  | .int k m=>th k .i64&&(match m with| .ofNat c=>Nat.ble n c| .negSucc _=>false)
  |_=>false)
def YZ(x i:SE)(n:Nat)(f:Fact):Bool:=
 match f with
 | .tr e=>(match e with
   | .a2 o a b=>(match o with
     | .bin op=>(match op with
       | .geq=>N3 x i n a b
       |_=>false)
     |_=>false)
   |_=>false)
 | .fl e=>(match e with
   | .a2 o a b=>(match o with
     | .bin op=>(match op with
       | .lss=>N3 x i n a b
       |_=>false)
     |_=>false)
   |_=>false)
 |_=>false
def qV(x i:SE)(n:Nat):List Fact->Bool
 | []=>false
 |f::l=>match YZ x i n f with
  |true=>true
  |false=>qV x i n l
def wM(x:SE)(pc:List Fact)(i:SE):Bool:=
 BX i (.a1 .len x) pc pc||(C3 i (.a1 .len x) pc||(uL x pc&&(nT i 0 (.a1 .len x) pc||qV x i 1 pc)))
def Hj(x:SE)(pc:List Fact)(l:SE):Bool:=
 iW l (.a2 (.bin .add) (.a1 .len x) (.int .i64 (.ofNat 1))) pc||(iW l (.a1 .len x) pc||(iW l (.a2 (.bin .add) (.a1 .len x) (.int .i64 (.ofNat 2))) pc&&(qV x l 0 pc&&uL x pc)))
def rh(x:SE)(pc:List Fact):Nat->SE->Bool
 |0=>λl=>Hj x pc l
 |f+1=>λl=>match Hj x pc l with
  |true=>true
  |false=>match ry l with
   |some (y,n)=>rh x pc f y&&(((Nat.beq n 1&&wM x pc y)||(UJ (.a1 .len (.a3 .sub x y (.a1 .len x))) n pc||qV x y n pc))&&uL x pc)
   |none=>false
def Ps(x:SE)(pc:List Fact)(i:SE):Bool:=
 match iW i (.a1 .len x) pc with
 |true=>true
 |false=>match rh x pc 4 i&&wM x pc i with
  |true=>true
  |false=>match ry i with
   |some (j,d)=>uL x pc&&(rh x pc 4 j&&nT j d (.a1 .len x) pc)
   |none=>false
def BS(e:SE):Bool:=
 match e with
 | .int _ n=>(match n with
   | .ofNat m=>Nat.beq m 0
   | .negSucc _=>false)
 |_=>false
def Ka(l h:SE):List Fact->Bool
 | []=>false
 |f::r=>match f with
  | .tr e=>match db e (.a2 (.bin .leq) l h)with
    |true=>true
    |false=>Ka l h r
  |_=>Ka l h r
def a0g(l h:SE)(pc:List Fact):Bool:=Ka l h pc||db l h
def leK(x:SE)(pc:List Fact)(l:SE):Nat->SE->Bool
 |0=>λh=>a0g l h pc
 |f+1=>λh=>match a0g l h pc with
  |true=>true
  |false=>match ry h with
   |some (y,n)=>leK x pc l f y&&(Nat.blt n 1000000&&(uL x pc&&rh x pc 4 y))
   |none=>false
def SG(x:SE)(pc:List Fact)(l h:SE):Bool:=
 match ry h with
 |some (y,n)=>db y l&&(uL x pc&&((Nat.beq n 1&&Ps x pc l)||(qV x l n pc&&rh x pc 4 l)))
 |none=>false
def SF(x:SE)(pc:List Fact)(l h:SE):Bool:=
 match h with
 | .int k n=>(match k with
   | .i64=>match n with
     | .ofNat m=>BS l&&UJ (.a1 .len x) m pc
     | .negSucc _=>false
   |_=>false)
 |_=>rh x pc 4 h&&(BS l||(leK x pc l 4 h&&rh x pc 4 l))
def BV(e:SE):Bool:=
 match e with
 | .a2 o x _=>(match o with
   | .at g k=>Nat.beq g 1&&(Nat.beq k 0&&(match x with
     | .a1 p _=>(match p with| .sb=>true|_=>false)
     |_=>false))
   | .idx=>true
   |_=>false)
 |_=>false
def nib(e:SE):Bool:=
 match e with
 | .a2 o x y=>(match o with
   | .bin op=>(match op with
     | .shr=>BV x&&(match y with
       | .int _ n=>(match n with| .ofNat m=>Nat.beq m 4| .negSucc _=>false)
       |_=>false)
     | .quo=>BV x&&(match y with
       | .int k n=>th k .u8&&(match n with| .ofNat m=>Nat.beq m 16| .negSucc _=>false)
       |_=>false)
     | .rem=>BV x&&(match y with
       | .int k n=>th k .u8&&(match n with| .ofNat m=>Nat.beq m 16| .negSucc _=>false)
       |_=>false)
     | .and=>(match y with
       | .int k n=>th k .u8&&(match n with| .ofNat m=>Nat.beq m 15| .negSucc _=>false)
       |_=>false)
     |_=>false)
   |_=>false)
 |_=>false
def SC(x l h:SE):Bool:=
 match x with
 | .str s=>Nat.beq s.length 16&&(nib l&&db h (.a2 (.bin .add) l (.int .u8 (.ofNat 1))))
 |_=>false
def SW(e:SE):Option (SE×SE):=
 match e with
 | .a2 o x y=>match o with
   | .bin op=>match op with
     | .add=>match y with
       | .a1 p z=>match p with
         | .len=>some (x,z)
         |_=>none
       |_=>none
     |_=>none
   |_=>none
 |_=>none
def DF(b:Bool)(e:SE)(pc:List Fact):Bool:=
 match qk e pc with
 |some c=>match b with
  |true=>c
  |false=> !c
 |none=>false
def MG(x:SE)(pc:List Fact)(l h:SE):Bool:=
 match SW h with
 |some (y,z)=>db y l&&(DF true (.a2 (.bin .geq) (.a2 (.bin .sub) (.a1 .len x) l) (.a1 .len z)) pc||DF false (.a2 (.bin .lss) (.a2 (.bin .sub) (.a1 .len x) l) (.a1 .len z)) pc)&&(uL x pc&&rh x pc 4 l)
 |none=>false
def U3(x:SE)(pc:List Fact)(l h:SE):Bool:=
 match db h (.a1 .len x)with
 |true=>rh x pc 4 l
 |false=>match SG x pc l h with
  |true=>true
  |false=>match SF x pc l h with
   |true=>true
   |false=>match MG x pc l h with
    |true=>true
    |false=>SC x l h
def S.add (s:S) (f:Fact):S:=⟨s.h,s.next,f::s.pc⟩
def Dh(s:S)(e:SE):R (Bool×S):=
 match q0 e s.pc with
 |some b=>.ok (b,s)
 |none=>.ask 2 λi=>match i with
  |0=>.ok (true,s.add (.tr e))
  |_+1=>.ok (false,s.add (.fl e))
def Kc(s:S)(e:SE):R (Bool×S):=
 match O1 e with
 |some x=>(Dh s x).bind λr=>.ok (!r.1,r.2)
 |none=>Dh s e
def a4a(op:UnOp)(x:AV):R AV:=
 match op,x with
 | .neg,.cE (.int k) e=>.ok (.cE (.int k) (.a1 (.un .neg) e))
 | .neg,.int k n=>bM .sub k 0 n
 | .not,.bool b=>.ok (.bool (!b))
 |_,_=>.bad ""
def nE:List UInt8->List AV
 | []=>[]
 |b::l=>.int .u8 (.ofNat b.toNat)::nE l
def u9:List AV->R (List UInt8)
 | []=>.ok []
 |v::l=>
  match v with
  | .int .u8 (.ofNat n)=>do let r <-u9 l;.ok (UInt8.ofNat n::r)
  |_=>.bad ""
def RM(s:S)(b:Nat)(e:TypeId):Nat:=
 match s.h.get b with
 |some (.cells el _ k _ _ _ _)=>match Nat.beq el e with
  |true=>k
  |false=>0
 |_=>0
def oOk(s:S)(b:Nat)(e:TypeId)(n g E0:Nat):Bool:=Nat.beq g E0 && !Nat.beq g 0&&Nat.ble (Nat.mul n g) (RM s b e)
def vE(s:S)(e:TypeId)(g:Nat):AV->R (Nat×List AV)
 | .dq=>.ok (0,[])
 | .str l=>match Nat.beq g 1 with
   |true=>.ok (l.length,nE l)
   |false=>.bad ""
 | .sl b off len _=>do let c <-uw s b off (Nat.mul len g);.ok (len,c)
 | .qY b _ e0 len E0=>do
   cq (oOk s b e (Nat.add e0 len) g E0) "src size"
   let c <-uw s b (Nat.mul e0 g) (Nat.mul len g)
   .ok (len,c)
 |_=>.bad ""
def Dr(s:S)(e:TypeId)(g bytes n:Nat)(all:List AV):R Nx:=do
 cq (Nat.ble (Nat.mul n bytes) 68719476736&&Nat.ble n 68719476736&&Nat.beq all.length (Nat.mul n g)) "append: too long"
 .ok (.val (.qY s.next 0 0 n g) (s.new (ic e all)))
def a1L(s:S)(e:TypeId)(g bytes b off len cap n:Nat)(new:List AV):R Nx:=
 match Nat.ble (Nat.add len n) cap with
 |true=>do
  let F <-jm s b (Nat.add off (Nat.mul len g)) new
  .ok (.val (.sl b off (Nat.add len n) cap) F)
 |false=>do
  let p0 <-uw s b off (Nat.mul len g)
  Dr s e g bytes (Nat.add len n) (p0++new)
def ab8(s:S)(g b pre e0 len n:Nat)(new:List AV):R Nx:=do
 let F <-jm s b (Nat.mul (Nat.add e0 len) g) new
 .ok (.val (.qY b pre e0 (Nat.add len n) g) F)
def SU(s:S)(e:TypeId)(g bytes b e0 len n:Nat)(cs:Tr AV)(k fz:Nat)(gU:List Nat)(sg:Bool)(new:List AV):R Nx:=do
 cq (Nat.beq (Nat.mul (Nat.add e0 len) g) k&&Nat.ble (Nat.mul (Nat.add len n) bytes) 68719476736&&Nat.ble (Nat.add len n) 68719476736&&Nat.beq new.length (Nat.mul n g)&&Nat.ble fz k&&ou new) "append: between"
 let p0 <-nR cs (Nat.mul len g) (Nat.mul e0 g)
 .ok (.val (.qY s.next 0 0 (Nat.add len n) g)
   ⟨(s.h.set b (.cells e cs k fz gU true sg)).set s.next
     (.cells e (Tr.ofList (p0++new)) (Nat.mul (Nat.add len n) g) (Nat.sub fz (Nat.mul e0 g)) (b::gU) false sg),
     Nat.add s.next 1,s.pc⟩)
def H2(s:S)(e:TypeId)(g bytes b pre e0 len n:Nat)(new:List AV):R Nx:=
 match s.h.get b with
 |some (.cells el cs k fz gU false sg)=>do
  cq (Nat.beq el e) "append type"
  match Nat.ble (Nat.mul (Nat.add (Nat.add e0 len) n) g) k with
  |true=>ab8 s g b pre e0 len n new
  |false=>SU s e g bytes b e0 len n cs k fz gU sg new
 |_=>.bad ""
def SR(C:Ctx)(s:S)(e:TypeId)(g bytes b:Nat)(n:SE)(a:Nat)(new:List AV):R Nx:=
 match s.h.get b with
 |some (.vec el x)=>do
  cq (Nat.beq el e&&(Nat.beq g (aA C e).length&&(Nat.beq new.length (Nat.mul a g)&&(!Nat.beq a 0&&(!Nat.beq g 0&&ou new))))) "append: cells"
  match sW C (aA C e) new (aA C e) (.a2 (.tk g) x n)with
  |some y=>.must (.rel "" false (OG g bytes a) [x,n]::s.pc) (.ok (.val (.iI s.next (.a2 (.bin .add) n (.int .i64 (.ofNat a))) (.var (Nat.add s.next 1))) ⟨(s.h.del b).set s.next (.vec e y),Nat.add (Nat.add s.next 1) 1,.inr n (.a2 (.bin .add) n (.int .i64 (.ofNat a)))::s.pc⟩))
  |none=>.bad ""
 |_=>.bad ""
def a1J(C:Ctx)(s:S)(e:TypeId)(g bytes:Nat)(base:AV)(n:Nat)(new:List AV):R Nx:=
 match base with
 | .dq=>
   match n with
   |0=>.bad ""
   |m+1=>Dr s e g bytes (m+1) new
 | .sl b off len cap=>a1L s e g bytes b off len cap n new
 | .qY b pre e0 len E0=>
   match n with
   |0=>.bad ""
   |m+1=>
    match Nat.beq g E0 with
    |true=>H2 s e g bytes b pre e0 len (m+1) new
    |false=>.bad ""
 | .iI b k _=>SR C s e g bytes b k n new
 |_=>.bad ""
def LQ:Option AV->R (Option Nat)
 |none=>.ok none
 |some v=>do let n <-Ei v;.ok (some n)
def inB(a h m c:Nat)(V b:Option Nat):Bool:=Nat.ble m c&&Nat.ble h m&&Nat.ble a h&&(V.isSome||b.isNone)
def Fb(m a off g:Nat):Nat:=
 match Nat.beq m a with
 |true=>off
 |false=>Nat.add off (Nat.mul a g)
def a2z(C:Ctx)(e:TypeId)(b off len cap:Nat)(lo V a:Option Nat):R AV:=do
 let i <-ti C e
 cq (inB (lo.getD 0) (V.getD len) (a.getD cap) cap V a) "slice bounds"
 .ok (.sl b (Fb (a.getD cap) (lo.getD 0) off i.size) (Nat.sub (V.getD len) (lo.getD 0)) (Nat.sub (a.getD cap) (lo.getD 0)))
def YJ(C:Ctx)(s:S)(e:TypeId)(b pre e0 len g:Nat)(lo V a:Option Nat):R AV:=do
 let i <-ti C e
 match a with
 |none=>do
  cq (oOk s b e (Nat.add e0 (V.getD len)) i.size g&&Nat.ble (lo.getD 0) (V.getD len)) "oslice bounds"
  match lo.getD 0 with
  |0=>.ok (.qY b pre e0 (V.getD len) g)
  |_+1=>.bad ""
 |some _=>.bad ""
def zJ:Kd->Bool
 | .int _=>true
 |_=>false
def Hi:AV->Bool
 | .cE _ _=>true
 |_=>false
def F5(b:Option AV)(d:SE):R SE:=
 match b with
 |none=>.ok d
 |some v=>match zJ (Es v)with
  |true=>.ok (ea v)
  |false=>.bad ""
def Ml:Option AV->Bool
 |some v=>Hi v
 |none=>false
def QQ(s:S)(d:TypeDesc)(x:AV)(lo V a:Option AV):R AV:=
 match d with
 | .string=>match Es x with
   | .str=>match a with
     |some _=>.bad ""
     |none=>do
      let l <-F5 lo (.int .i64 0)
      let h <-F5 V (.a1 .len (ea x))
      match U3 (ea x) s.pc l h with
      |true=>.ok (.cE .str (.a3 .sub (ea x) l h))
      |false=>.must (.rel "" false v7 [l,h,.a1 .len (ea x)]::s.pc) (.ok (.cE .str (.a3 .sub (ea x) l h)))
   |_=>.bad ""
 |_=>.bad ""
def K7(C:Ctx)(s:S)(t:TypeId)(x:AV)(lo V a:Option AV):R AV:=
 match Hi x||Ml lo||Ml V with
 |true=>do
  let d <-under C t
  QQ s d x lo V a
 |false=>do
  let lo <-LQ lo
  let V <-LQ V
  let a <-LQ a
  let d <-under C t
  match x with
  | .str l=>
    match d with
    | .string=>do
      cq (inB (lo.getD 0) (V.getD l.length) l.length l.length V a&&a.isNone) "slice string bounds"
      .ok (.str ((l.take (V.getD l.length)).drop (lo.getD 0)))
    |_=>.bad ""
  | .sl b off len cap=>
    match d with
    | .slice e=>a2z C e b off len cap lo V a
    |_=>.bad ""
  | .qY b pre e0 len g=>
    match d with
    | .slice e=>YJ C s e b pre e0 len g lo V a
    |_=>.bad ""
  |_=>.bad ""
def S4:Option AV->Bool
 |none=>true
 |some v=>match v with
  | .int _ n=>decide (n=0)
  |_=>false
def SB(C:Ctx)(s:S)(d:TypeDesc)(b:Nat)(n c:SE)(lo V a:Option AV):R AV:=
 match d with
 | .slice e=>do
   let _ <-ti C e
   match a with
   |some _=>.bad ""
   |none=>match S4 lo with
    |false=>.bad ""
    |true=>match V with
     |none=>.ok (.iI b n c)
     |some h=>match r8 (Es h) (.int .i64)with
      |false=>.bad ""
      |true=>.must (.rel "" false v7 [.int .i64 0,ea h,n]::s.pc) (.ok (.iI b (ea h) c))
 |_=>.bad ""
def NN(C:Ctx)(s:S)(t:TypeId)(x:AV)(lo V a:Option AV):R AV:=
 match x with
 | .iI b n c=>do
   let d <-under C t
   SB C s d b n c lo V a
 |x=>K7 C s t x lo V a
def mj(a b:AV):Bool:=
 match a,b with
 | .int _ x,.int _ y=>decide (x=y)
 | .str x,.str y=>eB x y
 | .bool x,.bool y=>x==y
 |_,_=>false
def keyOf(d:TypeDesc)(v:AV):Bool:=
 match d,v with
 | .int k,.int k' _=>decide (k=k')
 | .string,.str _=>true
 | .bool,.bool _=>true
 |_,_=>false
def a7G(d:TypeDesc):List ME->Bool
 | []=>true
 |e::_=>keyOf d e.k
def vg(k:AV):List ME->Option ME
 | []=>none
 |e::J=>match mj k e.k with
  |true=>some e
  |false=>vg k J
def NU(k v:AV):List ME->List ME
 | []=>[]
 |e::J=>match mj k e.k with
  |true=>⟨k,v,e.born⟩::J
  |false=>e::NU k v J
def a4m(k:AV):List ME->List ME
 | []=>[]
 |e::J=>match mj k e.k with
  |true=>J
  |false=>e::a4m k J
def uR(k:Nat):List Nat->Bool
 | []=>false
 |e::J=>match Nat.beq k e with
  |true=>true
  |false=>uR k J
def Sn(s:S):AV->R (List ME×Nat)
 | .ko=>.ok ([],0)
 | .qf r=>match s.h.get r with
   |some (.map J c)=>.ok (J,c)
   |_=>.bad ""
 |_=>.bad ""
def xF(d:TypeDesc)(k:AV)(J:List ME):Bool:=keyOf d k&&a7G d J
def MJ(C:Ctx)(s:S)(e:TypeId)(l:List UInt8):R Nx:=do
 let i <-ti C e
 match i.desc with
 | .int .u8=>do
   cq (Nat.beq i.size 1) "conv: byte size"
   .ok (.val (.qY s.next 0 0 l.length 1) (s.new (.cells e (Tr.ofList (nE l)) l.length 0 [] false true)))
 |_=>.bad ""
def xL(C:Ctx)(s:S)(e:TypeId)(x:AV):R Nx:=do
 let i <-ti C e
 match i.desc with
 | .int .u8=>do
   cq (Nat.beq i.size 1) "conv: byte size"
   let r <-vE s e i.size x
   let bs <-u9 r.2
   .ok (.val (.str bs) s)
 |_=>.bad ""
def LL(g:Nat)(l:List Dt):Prop:=∃P J n,l=[.ls P J,.val (.int .i64 n)]/\¬(0<=n/\n.toNat*g<=J.length)
def MI(C:Ctx)(s:S)(e:TypeId)(x:SE):R Nx:=do
 let i <-ti C e
 match i.desc with
 | .int .u8=>do
   cq (Nat.beq i.size 1&&oI (aA C e) [.int .u8]) "conv: byte size"
   .ok (.val (.iI s.next (.a1 .len x) (.var (Nat.add s.next 1))) ⟨s.h.set s.next (.vec e (.a1 .sb x)),Nat.add (Nat.add s.next 1) 1,s.pc⟩)
 |_=>.bad ""
def MH(C:Ctx)(s:S)(e:TypeId)(b:Nat)(n:SE):R Nx:=do
 let i <-ti C e
 match i.desc with
 | .int .u8=>
   match s.h.get b with
   |some (.vec el v)=>do
    cq (Nat.beq i.size 1&&(Nat.beq el e&&oI (aA C e) [.int .u8])) "conv: bytes"
    .must (.rel "" false (LL 1) [v,n]::s.pc) (.ok (.val (.cE .str (.a1 .bs (.a2 (.tk 1) v n))) s))
   |_=>.bad ""
 |_=>.bad ""
def LA(C:Ctx)(s:S)(b off:Nat)(u:TypeId):Bool:=
 match s.h.get b with
 |some (.cells el _ n _ _ _ _)=>Nat.blt off n&&rowAt C.P (λt=>sameLayout C.P C.P.depth t u) C.P.depth el (n/C.P.cellsOf el) off 1
 |_=>false
def B9(C:Ctx)(s:S)(u:TypeId)(x:AV):R Nx:=
 match x with
 | .uH=>.ok (.val .uH s)
 | .ptr b off=>do
   let i <-ti C u
   cq (!Nat.beq i.size 0&&LA C s b off u) "conv: place"
   .ok (.val (.ptr b off) s)
 |_=>.bad ""
def a0S(C:Ctx)(s:S)(c dst:TypeId)(x:AV):R Nx:=do
 let a <-under C c
 let b <-under C dst
 match b with
 | .int k=>match x with
   | .int _ n=>.ok (.val (.int k (k.wrap n)) s)
   | .cE q e=>match q with
     | .int q=>.ok (.val (match th k .i64&&(th q .i64&&inR e (-4611686018427387904) 4611686018427387904 s.pc)with
       |true=>.cE (.int .i64) e
       |false=>.cE (.int k) (.a1 (.conv k) e)) s)
     |_=>.bad ""
   |_=>.bad ""
 | .string=>match x with
   | .cE _ _=>.bad ""
   | .str _=>.bad ""
   | .int _ _=>.bad ""
   | .iI b n _=>match a with
     | .slice e=>MH C s e b n
     |_=>.bad ""
   |x=>match a with
    | .slice e=>xL C s e x
    |_=>.bad ""
 | .slice e=>match x with
   | .str l=>MJ C s e l
   | .cE q ex=>match q with
     | .str=>MI C s e ex
     |_=>.bad ""
   |_=>.bad ""
 | .unsafePointer=>match a with
   | .pointer u=>B9 C s u x
   |_=>.bad ""
 | .pointer u=>match a with
   | .unsafePointer=>B9 C s u x
   |_=>.bad ""
 |_=>.bad ""
def K0(ok:Bool)(v:AV):R AV:=
 match ok with
 |true=>.ok (.ji [v,.bool true])
 |false=>.ok v
def adl(C:Ctx)(x:AV)(a:TypeId)(ok:Bool):R AV:=do
 let d <-under C a
 match x with
 | .iface t v=>match d with
   | .interface _=>.bad ""
   |_=>match Nat.beq t a with
    |true=>K0 ok v
    |false=>.bad ""
 |_=>.bad ""
def B3(c:Nat):List UInt8->Nat->Int
 | []=>λ_=> -1
 |b::l=>λi=>match Nat.beq b.toNat c with|true=>.ofNat i|false=>B3 c l (Nat.add i 1)
def bytesOf(x:AV):R (List UInt8):=
 match x with
 | .str l=>.ok l
 |_=>.bad ""
def wC(f:FuncId):List (FuncId×Ext)->Option Ext
 | []=>none
 |x::l=>match Nat.beq x.1 f with
  |true=>some x.2
  |false=>wC f l
def Vf:AV->R Nat
 | .int k (.ofNat c)=>match k with
   | .u8=>match Nat.blt c 256 with
     |true=>.ok c
     |false=>.bad ""
   |_=>.bad ""
 |_=>.bad ""
def preB:List UInt8->List UInt8->Bool
 | []=>λ_=>true
 |b::l=>λm=>match m with
  | []=>false
  |c::m=>match Nat.beq b.toNat c.toNat with
   |true=>preB l m
   |false=>false
def Mo(sub:List UInt8):List UInt8->Nat->Int
 | []=>λk=>match sub with
   | []=>.ofNat k
   |_::_=> -1
 |b::l=>λk=>match preB sub (b::l)with
  |true=>.ofNat k
  |false=>Mo sub l (Nat.add k 1)
def uT(C:Ctx)(s:S)(fn:Func)(e:Ext)(args:List AV):R Nx:=
 match e with
 | .BI=>match args with
   | [x]=>.ok (.val x s)
   |_=>.bad ""
 | .indexByte=>match args with
   | [x,c]=>do let l <-bytesOf x;let c <-Vf c;.ok (.val (.int .i64 (B3 c l 0)) s)
   |_=>.bad ""
 | .index _=>.bad ""
def a1o(C:Ctx)(s:S)(f:FuncId)(args:List AV):R Nx:=
 match C.F.get f with
 |none=>.bad ""
 |some fn=>
  match fn.body with
  |some _=>.ok (.enter f args s)
  |none=>match wC f C.X with
   |some e=>uT C s fn e args
   |none=>.bad ("ext "++fn.name)
def xH(C:Ctx)(s:S)(f:AV)(args:List AV):R Nx:=
 match f with
 | .fn g first cap=>
   match g with
   | .func g=>a1o C s g (first++args++cap)
   |_=>.bad ""
 | .yield l=>.ok (.round l args s)
 |_=>.bad ""
def zK:TypeDesc->Bool
 | .int _=>true
 |_=>false
def a1K(s:S)(e:TypeId)(g bytes:Nat)(z:List AV)(x:AV):Bool->R (Nat×List AV)
 |true=>do
  let n <-Ei x
  cq (Nat.ble (Nat.mul n bytes) 68719476736&&Nat.ble n 68719476736) "append of make: too long"
  .ok (n,N7 z n)
 |false=>vE s e g x
def K2(int:Bool)(x base:AV):Option (Nat×SE×SE):=
 match int with
 |true=>none
 |false=>match x with
 | .cE k e=>match r8 k .str with
   |true=>match base with
    | .iI b n _=>some (b,n,e)
    |_=>none
   |false=>none
 |_=>none
def LN(bytes:Nat)(l:List Dt):Prop:=∃P J n s,l=[.ls P J,.val (.int .i64 n),.val (.string s)]/\¬(0<=n/\n.toNat<=J.length/\(n.toNat+s.size)*bytes<=68719476736/\n.toNat+s.size<=68719476736)
def SS(C:Ctx)(s:S)(e:TypeId)(g bytes b:Nat)(n x:SE):R Nx:=
 match s.h.get b with
 |some (.vec el v)=>do
  cq (Nat.beq el e&&(Nat.beq g 1&&oI (aA C e) [.int .u8])) "append: bytes"
  .must (.rel "" false (LN bytes) [v,n,x]::s.pc) (.ok (.val (.iI s.next (.a2 (.bin .add) n (.a1 .len x)) (.var (Nat.add s.next 1))) ⟨(s.h.del b).set s.next (.vec e (.a2 .cat (.a2 (.tk 1) v n) (.a1 .sb x))),Nat.add (Nat.add s.next 1) 1,s.pc⟩))
 |_=>.bad ""
def H0(C:Ctx)(s:S)(argTypes:List TypeId)(args:List AV):R Nx:=
 match args,argTypes with
 | [base,x],st::a::_=>do
   match <-under C st with
   | .slice e=>do
     let i <-ti C e
     let xd <-under C a
     cq (!Nat.beq i.size 0) "append: of nothing"
     let z <-zeroOf C e
     cq (Nat.beq z.length i.size) "append: zero"
     match K2 (zK xd) x base with
     |some (b,n,ex)=>SS C s e i.size i.bytes b n ex
     |none=>do
      let r <-a1K s e i.size i.bytes z x (zK xd)
      a1J C s e i.size i.bytes base r.1 r.2
   |_=>.bad ""
 |_,_=>.bad ""
def a0e(C:Ctx)(s:S)(d:TypeDesc)(x:AV):R Nat:=
 match d with
 | .string=>match x with
   | .str l=>.ok l.length
   |_=>.bad ""
 | .slice _=>match x with
   | .dq=>.ok 0
   | .sl _ _ n _=>.ok n
   | .qY _ _ _ n _=>.ok n
   |_=>.bad ""
 |_=>.bad ""
def Un(k:Kd)(e:SE):AV:=
 match e with
 | .int q n=>match k with
   | .int r=>match th r q with
     |true=>.int q n
     |false=>.cE k e
   | .any=>.int q n
   |_=>.cE k e
 | .bool b=>match k with
   | .bool=>.bool b
   | .any=>.bool b
   |_=>.cE k e
 | .str s=>match k with
   | .str=>.str s
   | .any=>.str s
   |_=>.cE k e
 |_=>.cE k e
def Hc(d:TypeDesc)(x:AV):Option AV:=
 match d with
 | .string=>match x with
   | .cE k e=>match k with
     | .str=>some (.cE (.int .i64) (.a1 .len e))
     |_=>none
   |_=>none
 | .slice _=>match x with
   | .cE k e=>match k with
     | .sl _=>some (.cE (.int .i64) (.a1 .len e))
     |_=>none
   | .iI _ n _=>some (Un (.int .i64) n)
   |_=>none
 |_=>none
def P7(C:Ctx)(s:S)(argTypes:List TypeId)(args:List AV):R Nx:=
 match args,argTypes with
 | [x],t::_=>do
   let d <-under C t
   match Hc d x with
   |some v=>.ok (.val v s)
   |none=>do
    let n <-a0e C s d x
    .ok (.val (.int .i64 (.ofNat n)) s)
 |_,_=>.bad ""
def Ys(C:Ctx)(s:S)(u:TypeId)(b off n:Nat):R Nx:=
 match s.h.get b with
 |some (.cells e cs k fz gU false false)=>do
  cq (Nat.ble (Nat.add off n) k&&rowAt C.P (λt=>sameLayout C.P C.P.depth t u) C.P.depth e (k/C.P.cellsOf e) off n&&Nat.ble n 1099511627776) "String of memory: beyond"
  let l <-nR cs n off
  let bs <-u9 l
  .ok (.val (.str bs) ⟨s.h.set b (.cells e cs k (Nat.max fz (Nat.add off n)) gU false false),s.next,s.pc⟩)
 |_=>.bad ""
def Zu(l:List Dt):Prop:=∃P J n,l=[.ls P J,.val (.int .i64 n)]/\¬(0<n/\n.toNat<=J.length/\n<=1099511627776)
def Rw(l:List Dt):Prop:=∃k n,l=[.val (.int k n)]/\¬0<n
def QR(C:Ctx)(s:S)(u:TypeId)(b:Nat)(n:SE):R Nx:=
 match s.h.get b with
 |some (.vec el v)=>do
  let i <-ti C el
  cq (Nat.beq i.size 1&&(oI (aA C el) [.int .u8]&&sameLayout C.P C.P.depth el u)) "String of bytes"
  .must (.rel "" false Zu [v,n]::s.pc) (.ok (.val (.cE .str (.a1 .bs (.a2 (.tk 1) v n))) ⟨((s.h.del b).set s.next (.cells el .nil 0 0 [] true false)).del s.next,Nat.add s.next 1,s.pc⟩))
 |_=>.bad ""
def KS(p n:AV):Option (Nat×SE):=
 match p with
 | .jn b i _ k=>match k with
   |0=>match db i (.int .i64 (.ofNat 0))with
    |true=>match n with
     | .cE q e=>match r8 q (.int .i64)with
       |true=>some (b,e)
       |false=>none
     |_=>none
    |false=>none
   |_+1=>none
 |_=>none
def HZ(C:Ctx)(s:S)(argTypes:List TypeId)(args:List AV):R Nx:=
 match args,argTypes with
 | [p,n],t::_=>match KS p n with
  |some (b,e)=>do
   match <-under C t with
   | .pointer u=>QR C s u b e
   |_=>.bad ""
  |none=>do
   let n <-Ei n
   match n with
   |0=>.bad ""
   |m+1=>match p with
    | .ptr b off=>do
      match <-under C t with
      | .pointer u=>Ys C s u b off (m+1)
      |_=>.bad ""
    |_=>.bad ""
 |_,_=>.bad ""
def wK(C:Ctx)(s:S)(argTypes:List TypeId)(args:List AV):R Nx:=
 match args with
 | [.qY b _ e0 len g]=>
   match argTypes,len with
   |st::_,_+1=>do
    match <-under C st with
    | .slice e=>do
      let i <-ti C e
      cq (oOk s b e (Nat.add e0 len) i.size g) "SliceData open"
      .ok (.val (.ptr b (Nat.mul e0 g)) s)
    |_=>.bad ""
   |_,_=>.bad ""
 | [.iI b n _]=>.must (.rel "" false Rw [n]::s.pc) (.ok (.val (.jn b (.int .i64 (.ofNat 0)) 1 0) s))
 |_=>.bad ""
def Kj:Builtin->Ctx->S->List TypeId->List AV->R Nx
 | .append=>H0
 | .len=>P7
 | .recover=>λ_ s _ _=>.ok (.recover s)
 | .unsafeString=>HZ
 | .unsafeSliceData=>wK
 |_=>λ_ _ _ _=>.bad ""
def xJ(C:Ctx):List Field->R (List (Nat×Nat))
 | []=>.ok []
 |f::a=>do
  let i <-ti C f.type
  let l <-xJ C a
  .ok ((f.offset,i.size)::l)
def oL(C:Ctx)(t:Tr AV)(x:Operand):R AV:=
 @Operand.rec (λ_=>R AV) (λd=>@Option.rec AV (λ_=>R AV) (.ok (.ji [])) (λv=>wi v) (t.get d))
  (λv=>.ok (AV.ofConst v)) (λg=>@Bool.rec (λ_=>R AV) (.bad "") (.ok (.ptr g 0)) (Nat.blt g C.nG)) (λf=>.ok (.fn (.func f) [] [])) x
def evL(C:Ctx)(t:Tr AV):List Operand->R (List AV)
 | []=>.ok []
 |x::l=>do let v <-oL C t x;let r <-evL C t l;.ok (v::r)
def evO(C:Ctx)(t:Tr AV):Option Operand->R (Option AV)
 |none=>.ok none
 |some x=>do let v <-oL C t x;.ok (some v)
def Mz(C:Ctx)(t:Tr AV):List (Nat×Operand)->R (List (Nat×AV))
 | []=>.ok []
 |(i,x)::l=>do let v <-oL C t x;let r <-Mz C t l;.ok ((i,v)::r)
abbrev CA:=TypeId->Ctx->Tr AV->S->R Nx
def rU(x:Operand):CA:=λ_ C t s=>do let v <-oL C t x;.ok (.val v s)
def CW(c a b:Operand):CA:=λ_ C t s=>do
 let c <-oL C t c
 match c with
 | .bool true=>do let v <-oL C t a;.ok (.val v s)
 | .bool false=>do let v <-oL C t b;.ok (.val v s)
 |_=>.bad ""
def Uc(e:TypeId):CA:=λ_ C _ s=>do
 let i <-ti C e
 let z <-R.yn "no zero" i.zero
 cq (Nat.beq z.length i.size) "alloc: size"
 .ok (.val (.ptr s.next 0) (s.new (ic e z)))
def OS(e:TypeId)(x:Operand):CA:=λ_ C t s=>do
 let v <-oL C t x
 let c <-v.cells
 let i <-ti C e
 cq (Nat.beq c.length i.size) "box: size"
 .ok (.val (.ptr s.next 0) (s.new (ic e c)))
def xz(ty:TypeId)(a:Array (Nat×Operand)):CA:=λ_ C t s=>do
 let zero <-zeroOf C ty
 let ps <-Mz C t a.toList
 match <-under C ty with
 | .struct b=>do
   let pl <-xJ C b.toList
   let cs <-mJ (nth pl) ps zero
   .ok (.val (.agg cs) s)
 | .array _ e=>do
   let i <-ti C e
   let cs <-mJ (λk=>some (Nat.mul k i.size,i.size)) ps zero
   .ok (.val (.agg cs) s)
 |_=>.bad ""
def EJ(C:Ctx)(e:TypeId)(n g:Nat):R (List AV):=
 match Nat.beq n 0 with
 |true=>.ok []
 |false=>do
  let z <-zeroOf C e
  cq (Nat.beq z.length g) "zero size"
  .ok z
def lC(ty:TypeId)(len:Nat)(a:Array (Nat×Operand)):CA:=λ_ C t s=>do
 match <-under C ty with
 | .slice e=>do
   let i <-ti C e
   cq (Nat.ble (Nat.mul len i.size) 16777216) "buildSlice: too long"
   let zero <-EJ C e (Nat.mul len i.size) i.size
   let ps <-Mz C t a.toList
   let cs <-mJ (λk=>some (Nat.mul k i.size,i.size)) ps (N7 zero len)
   .ok (.val (.sl s.next 0 len len) (s.new (ic e cs)))
 |_=>.bad ""
def CX(ty:TypeId)(a:Operand):CA:=λ_ C t s=>do let p <-oL C t a;let v <-loadAt C s ty p;.ok (.val v s)
def uE(ty:TypeId)(a x:Operand):CA:=λ_ C t s=>do let p <-oL C t a;let v <-oL C t x;let F <-storeAt C s ty p v;.ok (.skip F)
def mF(x:Operand):CA:=λ_ C t s=>do
 let v <-oL C t x
 match v with
 | .ptr _ _=>.ok (.val v s)
 |_=>.bad ""
def JS(op:BinOp)(ty:TypeId)(x y:Operand):CA:=λ_ C t s=>do
 let a <-oL C t x;let b <-oL C t y;let v <-a0T C s op ty (dm x||dm y) a b;.ok (.val v s)
def Wd(op:UnOp)(x:Operand):CA:=λ_ C t s=>do let a <-oL C t x;let v <-a4a op a;.ok (.val v s)
def CZ(b dst:TypeId)(x:Operand):CA:=λ_ C t s=>do let a <-oL C t x;a0S C s b dst a
def ZU:TypeDesc->R Unit
 | .interface _=>.bad ""
 |_=>.ok ()
def xy(ty:TypeId)(x:Operand):CA:=λ_ C t s=>do
 let d <-under C ty
 ZU d
 let v <-oL C t x
 .ok (.val (.iface ty v) s)
def CY(fn:Fn)(first cap:Array Operand):CA:=λ_ C t s=>do
 cq (lD fn) "makeFunc"
 let a <-evL C t first.toList
 let b <-evL C t cap.toList
 .ok (.val (.fn fn a b) s)
def OP(ty:TypeId)(r:Option Operand):CA:=λ_ C t s=>
 match r with
 |none=>.ok (.val (.qf s.next) (s.new (.map [] 0)))
 |some x=>do
  match <-under C ty with
  | .map _ _=>do
    let v <-oL C t x
    let _ <-asInt v
    .ok (.val (.qf s.next) (s.new (.map [] 0)))
  |_=>.bad ""
def xw(ty:TypeId)(x:Operand)(lo V d:Option Operand):CA:=λ_ C t s=>do
 let v <-oL C t x
 let a <-evO C t lo
 let b <-evO C t V
 let c <-evO C t d
 let r <-NN C s ty v a b c
 .ok (.val r s)
def ky(ty:TypeId)(x:Operand)(f:Nat):CA:=λ_ C t s=>do
 match <-under C ty with
 | .struct a=>do
   let fd <-R.yn "fieldAddr field" (nth a.toList f)
   let i <-ti C fd.type
   cq (!Nat.beq i.size 0) "fieldAddr: size 0"
   let v <-oL C t x
   match v with
   | .ptr b off=>.ok (.val (.ptr b (Nat.add off fd.offset)) s)
   |_=>.bad ""
 |_=>.bad ""
def a2s(C:Ctx)(s:S)(d:TypeDesc)(t:TypeId)(e:SE)(i:AV):R AV:=do
 cq (zJ (Es i)) "indexAddr: unknown index"
 match d with
 | .slice a=>do
   let q <-ti C a
   cq (Nat.beq a t && !Nat.beq q.size 0&&Nat.beq q.size (aA C t).length) "indexAddr: unknown element"
   match iW (ea i) (.a1 .len e) s.pc with
   |true=>.ok (.cE (.ptr t 0) (.a2 .el e (ea i)))
   |false=>.must (.rel "" false LM [ea i,.a1 .len e]::s.pc) (.ok (.cE (.ptr t 0) (.a2 .el e (ea i))))
 |_=>.bad ""
def a2j(C:Ctx)(s:S)(d:TypeDesc)(b:Nat)(n:SE)(i:AV):R AV:=do
 cq (zJ (Es i)) "indexAddr: unknown index"
 match d with
 | .slice a=>do
   let q <-ti C a
   match iW (ea i) n s.pc with
   |true=>.ok (.jn b (ea i) q.size 0)
   |false=>.must (.rel "" false LM [ea i,n]::s.pc) (.ok (.jn b (ea i) q.size 0))
 |_=>.bad ""
def kx(ty:TypeId)(x ix:Operand):CA:=λ_ C t s=>do
 let i0 <-oL C t ix
 let v <-oL C t x
 let d <-under C ty
 match v with
 | .cE k e=>match k with
   | .sl u=>do
     let r <-a2s C s d u e i0
     .ok (.val r s)
   |_=>.bad ""
 | .iI b n _=>do
   let r <-a2j C s d b n i0
   .ok (.val r s)
 | .ptr b off=>.bad ""
 |v=>do
  let i <-Ei i0
  match v with
   | .sl b off len _=>match d with
     | .slice e=>match Nat.blt i len with
       |true=>do let e <-ti C e;.ok (.val (.ptr b (Nat.add off (Nat.mul i e.size))) s)
       |false=>.bad ""
     |_=>.bad ""
   | .qY b _ e0 len g=>match d with
     | .slice a=>match Nat.blt i len with
       |true=>do
        let e <-ti C a
        cq (oOk s b a (Nat.add e0 len) e.size g) "index size"
        .ok (.val (.ptr b (Nat.mul (Nat.add e0 i) g)) s)
       |false=>.bad ""
     |_=>.bad ""
   |_=>.bad ""
def K1(s:S)(d:TypeDesc)(v i:AV):R AV:=do
 cq (zJ (Es i)) "index: unknown index"
 match d with
 | .string=>match Es v with
   | .str=>match Ps (ea v) s.pc (ea i)with
     |true=>.ok (.cE (.int .u8) (.a2 .idx (ea v) (ea i)))
     |false=>.must (.rel "" false LM [ea i,.a1 .len (ea v)]::s.pc) (.ok (.cE (.int .u8) (.a2 .idx (ea v) (ea i))))
   |_=>.bad ""
 |_=>.bad ""
def xx(ty:TypeId)(x ix:Operand):CA:=λ_ C t s=>do
 let i0 <-oL C t ix
 let v <-oL C t x
 match Hi i0||Hi v with
 |true=>do
  let d <-under C ty
  let r <-K1 s d v i0
  .ok (.val r s)
 |false=>do
 let i <-Ei i0
 match v with
 | .str l=>do
   match <-under C ty with
   | .string=>match nth l i with
     |some b=>.ok (.val (.int .u8 (.ofNat b.toNat)) s)
     |none=>.bad ""
   |_=>.bad ""
 |_=>.bad ""
def la(ok b:Bool)(v:AV):AV:=
 match ok with
 |true=>.ji [v,.bool b]
 |false=>v
def uS(s:S)(e:SE):List ME->R (Option ME×S)
 | []=>.ok (none,s)
 |x::l=>do
  let r <-Kc s (.a2 (.bin .eql) e (ea x.k))
  match r.1 with
  |true=>.ok (some x,r.2)
  |false=>uS r.2 e l
def jV(d:TypeDesc):List ME->Bool
 | []=>true
 |x::l=>keyOf d x.k&&jV d l
def F4(d:TypeDesc)(k:AV)(J:List ME):Option SE:=
 match d with
 | .string=>match k with
   | .cE a e=>match a with
     | .str=>match jV d J with
       |true=>some e
       |false=>none
     |_=>none
   |_=>none
 | .int q=>match k with
   | .cE a e=>match a with
     | .int b=>match th q b&&jV d J with
       |true=>some e
       |false=>none
     |_=>none
   |_=>none
 |_=>none
def tb(ty:TypeId)(x k:Operand)(ok:Bool):CA:=λ_ C t s=>do
 match <-under C ty with
 | .map a e=>do
   let d <-under C a
   let m <-oL C t x
   let m <-Sn s m
   let k <-oL C t k
   match F4 d k m.1 with
   |some se=>do
    let r <-uS s se m.1
    match r.1 with
    |some e=>.ok (.val (la ok true e.v) r.2)
    |none=>do
     let v <-qL C e
     .ok (.val (la ok false v) r.2)
   |none=>do
    cq (xF d k m.1) "lookup: key"
    match vg k m.1 with
    |some e=>.ok (.val (la ok true e.v) s)
    |none=>do
     let v <-qL C e
     .ok (.val (la ok false v) s)
 |_=>.bad ""
def a3b(s:S)(r:Nat)(k v:AV)(m:List ME×Nat):S:=
 match vg k m.1 with
 |some _=>⟨s.h.set r (.map (NU k v m.1) m.2),s.next,s.pc⟩
 |none=>⟨s.h.set r (.map (m.1++[⟨k,v,m.2⟩]) (Nat.add m.2 1)),s.next,s.pc⟩
def gl(ty:TypeId)(m k x:Operand):CA:=λ_ C t s=>do
 match <-under C ty with
 | .map a _=>do
   let d <-under C a
   let b <-oL C t m
   match b with
   | .qf r=>do
     let m <-Sn s (.qf r)
     let k <-oL C t k
     let x <-oL C t x
     cq (xF d k m.1) "update: key"
     .ok (.skip (a3b s r k x m))
   |_=>.bad ""
 |_=>.bad ""
def We(x:Operand)(a:TypeId)(ok:Bool):CA:=λ_ C t s=>do let v <-oL C t x;let r <-adl C v a ok;.ok (.val r s)
def o8(x:Operand)(i:Nat):CA:=λ_ C t s=>do
 let v <-oL C t x
 match v with
 | .ji l=>do let r <-R.yn "extract" (nth l i);.ok (.val r s)
 |_=>.bad ""
def zz(c:Call):CA:=λ_ C t s=>do
 let args <-evL C t c.args.toList
 match c.callee with
 | .builtin b=>Kj b C s c.argTypes.toList args
 | .value f=>do let f <-oL C t f;xH C s f args
 | .invoke r name=>.bad ""
def Bz(x:Operand):CA:=λ_ C t s=>do
 let v <-oL C t x
 match v with
 | .iface t v=>.ok (.gv (.iface t v) s)
 |_=>.bad ""
def oH:CA:=λ_ _ _ _=>.bad ""
def sF(o:Op):CA:=
 @Op.rec (λ_=>CA)
  rU rU CW Uc OS xz lC gl CX uE (λ_=>oH) (λ_=>oH) mF
  (λop t x y _=>JS op t x y) (λop _ x=>Wd op x) CZ (λ_ _=>oH) xy CY OP (λ_ _=>oH) (λ_ _ _=>oH) xw ky (λ_ _ _=>oH)
  kx xx tb gl (λ_ _ _=>oH) (λ_ _ _ _=>oH) (λ_ _=>oH) (λ_ _=>oH) (λ_=>oH) (λx _ a ok=>We x a ok) o8 zz
  (λ_=>oH) (λ_=>oH) Bz (λ_ _=>oH) (λ_ _ _=>oH) (λ_ _=>oH) o
inductive PI where
 |act (i:Nat)|ev (i:Nat)|re (i:Nat)|al (i:Nat)|on (i:Nat)
 deriving Inhabited
inductive PS where
 |act (i:Nat) (o:Oper)|ev (i:Nat) (o:Oper)|re (i:Nat) (o:Oper)|al (i:Nat) (o:Oper)|on (i:Nat)
 deriving Inhabited
inductive PK where
 |act|ev|al
 deriving Inhabited
def xO(e:Edge):Bool:=
 match e.ground with
 | .textOnly _=>false
 | .gcOnly _=>false
 |_=>true
def bit(i:Nat):Nat:=Nat.shiftLeft 1 i
def has(m i:Nat):Bool:=Nat.beq (Nat.land (Nat.shiftRight m i) 1) 1
def sub(a b:Nat):Bool:=Nat.beq (Nat.lor a b) b
def iC(a b:Nat):Bool:=Nat.beq (Nat.land a b) 0
def GV:List Nat->Nat->Nat
 | []=>λ_=>0
 |x::l=>λi=>match i with
  |0=>x
  |n+1=>GV l n
def lE(M:List Nat):List Edge->Nat
 | []=>0
 |e::l=>match xO e with
  |true=>Nat.lor (Nat.lor (bit e.on) (GV M e.on)) (lE M l)
  |false=>lE M l
def fA:List Oper->List Nat->List Nat
 | []=>λacc=>acc
 |o::l=>λacc=>fA l (acc++[lE acc o.after.toList])
def opM:List Operand->Nat
 | []=>0
 |x::l=>match x with
  | .tmp t=>Nat.lor (bit t) (opM l)
  |_=>opM l
def HF(o:Oper):Nat:=
 match o.dst with
 |some d=>bit d
 |none=>0
def Sl(ops:List Oper)(o:Oper):Nat:=
 match o.guard with
 |some (g,_)=>match nth ops g with
  |some p=>HF p
  |none=>0
 |none=>0
def mh(ops:List Oper)(o:Oper):Nat:=Nat.lor (opM o.op.operands.toList) (Sl ops o)
def abw:Builtin->Bool
 | .len=>true
 |_=>false
def rn:Op->Bool
 | .move _=>true
 | .pick _ _ _=>true
 | .build _ _=>true
 | .load _ _=>true
 | .nilCheck _=>true
 | .binOp _ _ _ _ _=>true
 | .unOp _ _ _=>true
 | .convert _ _ _=>true
 | .makeInterface _ _=>true
 | .makeFunc _ _ _=>true
 | .slice _ _ _ _ _=>true
 | .fieldAddr _ _ _=>true
 | .indexAddr _ _ _=>true
 | .index _ _ _=>true
 | .lookup _ _ _ _=>true
 | .typeAssert _ _ _ _=>true
 | .extract _ _=>true
 | .call c=>match c.callee with
   | .builtin b=>abw b
   |_=>false
 |_=>false
def Ej:Op->Bool
 | .alloc _=>true
 | .box _ _=>true
 | .buildSlice _ _ _=>true
 | .makeMap _ r=>match r with
   |none=>true
   |some _=>false
 |_=>false
structure PO where
 i:Nat
 before:Nat
 look:Nat
 dst:Nat
 kind:PK
 deriving Inhabited
def lk(o:Op):PK:=
 match rn o with
 |true=>.ev
 |false=>match Ej o with
  |true=>.al
  |false=>.act
def posOf(ops:List Oper)(M:List Nat):List Oper->Nat->List PO
 | []=>λ_=>[]
 |o::l=>λi=>⟨i,GV M i,mh ops o,HF o,lk o.op⟩::posOf ops M l (Nat.add i 1)
def UK(x:PO):List PO->Bool
 | []=>true
 |y::l=>match Nat.beq x.i y.i||iC x.dst (Nat.lor y.look y.dst)||(has y.before x.i&&iC x.dst y.dst)with
  |true=>UK x l
  |false=>false
def DE(all:List PO):List PO->List PO
 | []=>[]
 |x::l=>(match x.kind with
  | .act=>x
  |_=>match UK x all with
   |true=>x
   |false=>⟨x.i,x.before,x.look,x.dst,.act⟩)::DE all l
def Vm:List PO->Nat
 | []=>0
 |x::l=>match x.kind with
  | .act=>Nat.lor (bit x.i) (Vm l)
  |_=>Vm l
def xo(acts done:Nat):List PO->List PI
 | []=>[]
 |x::l=>match x.kind with
  | .act=>xo acts done l
  | .ev=>match Nat.beq (Nat.land x.before acts) done with
    |true=>.ev x.i::xo acts done l
    |false=>xo acts done l
  | .al=>match Nat.beq (Nat.land x.before acts) done with
    |true=>.al x.i::xo acts done l
    |false=>xo acts done l
def a0z:List PI->Bool
 | []=>false
 |x::l=>match x with
  | .al _=>true
  |_=>a0z l
def a2V(acts done ahead:Nat)(anew:Bool):List PO->List PI
 | []=>[]
 |x::l=>match x.kind with
  | .ev=>match !has ahead x.i&&sub (Nat.land x.before acts) done&&(anew || !Nat.beq (Nat.land x.before acts) done)with
    |true=>.re x.i::a2V acts done ahead anew l
    |false=>a2V acts done ahead anew l
  |_=>a2V acts done ahead anew l
def ZE(before a:Nat):List PO->List PI
 | []=>[]
 |x::l=>match x.kind with
  | .al=>match has before x.i && !has a x.i with
    |true=>.on x.i::ZE before a l
    |false=>ZE before a l
  |_=>ZE before a l
def phase(all:List PO)(acts done ahead:Nat)(first:Bool):List PI:=
 let f:=xo acts done all
 f++(match first && !a0z f with
  |true=>[]
  |false=>a2V acts done ahead (a0z f) all)
def Rl(all:List PO)(acts n:Nat):List PO->Nat->Nat->List PI
 | []=>λb a=>ZE (Nat.sub (bit n) 1) a all
 |x::l=>λdone a=>match x.kind with
  | .act=>ZE x.before a all++(.act x.i::(phase all acts (Nat.lor done (bit x.i)) x.before false++Rl all acts n l (Nat.lor done (bit x.i)) (Nat.lor a x.before)))
  |_=>Rl all acts n l done a
def fN(ops:List Oper):List PO:=posOf ops (fA ops []) ops 0
def Bl(n:Nat)(all a:List PO):List PI:=phase all (Vm all) 0 0 true++Rl all (Vm all) n a 0 0
inductive Kv where
 |one (p:List PI)
 |two (pre:List PI) (x y:Nat) (ra rb:List Nat)
 deriving Inhabited
def ik(i m:Nat):List PO->List PO
 | []=>[]
 |x::l=>(match Nat.beq x.i i with
  |true=>⟨x.i,Nat.lor x.before m,x.look,x.dst,x.kind⟩
  |false=>x)::ik i m l
def a03(i:Nat):List PO->List PO
 | []=>[]
 |x::l=>match Nat.beq x.i i with
  |true=>l
  |false=>x::a03 i l
def M7:List PO->List PO
 | []=>[]
 |x::l=>match x.kind with
  | .act=>x::M7 l
  |_=>M7 l
def Uy:List PO->Option (PO×PO)
 | []=>none
 |x::l=>match l with
  | [y]=>some (x,y)
  |l=>Uy l
def Lk:List PI->Option (List Nat)
 | []=>none
 |p::l=>match p with
  | .re i=>(Lk l).map λq=>i::q
  | .act _=>match l with
    | []=>some []
    |_=>none
  |_=>none
def A2(x:Nat):List PI->Option (List PI×List PI)
 | []=>none
 |p::l=>match p with
  | .act a=>match Nat.beq a x with
    |true=>some ([],l)
    |false=>(A2 x l).map λq=>(p::q.1,q.2)
  |p=>(A2 x l).map λq=>(p::q.1,q.2)
def a3f(n:Nat)(all:List PO)(x y:PO):Kv:=
 let a:=ik y.i (Nat.lor (bit x.i) x.before) all
 let b:=ik x.i (Nat.lor (bit y.i) y.before) all
 match A2 x.i (Bl n a a),A2 y.i (Bl n b (a03 x.i b++[⟨x.i,Nat.lor x.before (Nat.lor (bit y.i) y.before),x.look,x.dst,x.kind⟩]))with
 |some (pre,c),some (_,d)=>match Lk c,Lk d with
  |some ra,some rb=>.two pre x.i y.i ra rb
  |_,_=>.one []
 |_,_=>.one []
structure Ia where
 done:Nat
 acts:Nat
 zT:Nat
 Cz:Nat
 OV:Nat
 gV:Nat
 run:Nat
 last:Nat
 fl:List PO
 deriving Inhabited
def wN(x:PO):List PO->Bool
 | []=>true
 |y::l=>match has x.before y.i||(iC x.dst (Nat.lor y.look y.dst)&&iC x.look y.dst)with
  |true=>wN x l
  |false=>false
def Cr(x:PO):List PO->Bool
 | []=>true
 |y::l=>match iC x.dst (Nat.lor y.look y.dst)&&(has x.before y.i||iC x.look y.dst)with
  |true=>Cr x l
  |false=>false
def ZS(s:Ia)(x:PO):Bool:=
 !has s.done x.i&&sub x.before s.done&&sub s.acts x.before&&sub s.run x.before&&Nat.beq s.gV 0&&wN x s.fl
def ZR(s:Ia)(x:PO):Bool:=
 !has s.done x.i&&sub x.before s.done&&sub s.acts x.before&&Nat.beq s.run 0&&iC x.dst x.look&&Cr x s.fl
def minus(a b:Nat):Nat:=Nat.xor (Nat.lor a b) b
def dR:List PO->Nat->Option PO
 | []=>λ_=>none
 |x::l=>λi=>match i with
  |0=>some x
  |n+1=>dR l n
def bL(all:List PO)(n:Nat):List PI->Ia->Bool
 | []=>λs=>Nat.beq s.done (Nat.sub (bit n) 1)&&Nat.beq s.OV s.Cz&&Nat.beq s.gV 0
 |p::l=>λs=>match p with
  | .act i=>match dR all i with
    |none=>false
    |some x=>ZS s x&&bL all n l ⟨Nat.lor s.done (bit i),Nat.lor s.acts (bit i),s.zT,s.Cz,s.OV,minus s.zT x.before,0,x.before,s.fl⟩
  | .ev i=>match dR all i with
    |none=>false
    |some x=>ZR s x&&(match x.kind with| .ev=>true|_=>false)&&bL all n l ⟨Nat.lor s.done (bit i),s.acts,Nat.lor s.zT (bit i),s.Cz,s.OV,s.gV,0,s.last,x::s.fl⟩
  | .al i=>match dR all i with
    |none=>false
    |some x=>ZR s x&&(match x.kind with| .al=>true|_=>false)&&bL all n l ⟨Nat.lor s.done (bit i),s.acts,s.zT,Nat.lor s.Cz (bit i),s.OV,minus s.zT s.last,0,s.last,x::s.fl⟩
  | .re i=>has s.zT i&&Nat.beq s.run 0&&bL all n l ⟨s.done,s.acts,s.zT,s.Cz,s.OV,minus s.gV (bit i),0,s.last,s.fl⟩
  | .on i=>has s.Cz i && !has s.OV i&&Nat.beq s.gV 0&&bL all n l ⟨s.done,s.acts,s.zT,s.Cz,Nat.lor s.OV (bit i),0,Nat.lor s.run (bit i),s.last,s.fl⟩
def below:List PO->Bool
 | []=>true
 |x::l=>match Nat.blt x.before (bit x.i)with
  |true=>below l
  |false=>false
def LY(all:List PO)(n:Nat)(a:List PI):Bool:=bL all n a ⟨0,0,0,0,0,0,0,0,[]⟩
def lb(x y:Nat)(ra:List Nat):List PI:=.act x::(ra.map .re++[.act y])
def ZQ(all:List PO)(n x y:Nat)(ra rb:List Nat)(pre:List PI):Bool:=
 match dR all x,dR all y with
 |some a,some py=> !Nat.beq x y&&LY (ik y (Nat.lor (bit x) a.before) all) n (pre++lb x y ra)&&LY (ik x (Nat.lor (bit y) py.before) all) n (pre++lb y x rb)
 |_,_=>false
def Gv(ops:List Oper)(p:Kv):Bool:=
 below (fN ops)&&(match p with
  | .one a=>LY (fN ops) ops.length a
  | .two pre x y ra rb=>ZQ (fN ops) ops.length x y ra rb pre)
def Mt:List Oper->Nat
 | []=>0
 |o::l=>match o.guard with
  |some p=>Nat.lor (bit p.1) (Mt l)
  |none=>Mt l
def Df(m:Nat):List PO->List PO
 | []=>[]
 |x::l=>(match has m x.i with
  |true=>⟨x.i,x.before,x.look,x.dst,.act⟩
  |false=>x)::Df m l
def E6(n:Nat)(all:List PO):Kv:=
 match Uy (M7 all)with
 |none=>.one (Bl n all all)
 |some (x,y)=>match has y.before x.i with
  |true=>.one (Bl n all all)
  |false=>a3f n all x y
def vS(ops:List Oper):Kv:=
 let all:=DE (fN ops) (fN ops)
 match Mt ops with
 |0=>E6 ops.length all
 |m+1=>match Gv ops (E6 ops.length (Df (m+1) all))with
  |true=>E6 ops.length (Df (m+1) all)
  |false=>E6 ops.length all
def j9(ops:List Oper):PI->Option PS
 | .act i=>(nth ops i).map (.act i)
 | .ev i=>(nth ops i).map (.ev i)
 | .re i=>(nth ops i).map (.re i)
 | .al i=>(nth ops i).map (.al i)
 | .on i=>some (.on i)
def link(ops:List Oper):List PI->List PS
 | []=>[]
 |p::l=>match j9 ops p with
  |some x=>x::link ops l
  |none=>link ops l
def a0q(a b:IntKind):Bool:=decide (a=b)
def a5Q(a b:Int):Bool:=decide (a=b)
def Zd(a b:Value):Bool:=
 match a,b with
 | .pointer (some x),.pointer (some y)=>Nat.beq x.block y.block&&Nat.beq x.off y.off&&x.spot.isNone&&y.spot.isNone
 |_,_=>false
mutual
def gx:AV->AV->Bool
 | .int k n,.int k' n'=>a0q k k'&&a5Q n n'
 | .bool a,.bool b=>a==b
 | .str a,.str b=>eB a b
 | .ptr a i,.ptr b j=>Nat.beq a b&&Nat.beq i j
 | .uH,.uH=>true
 | .sl b o l c,.sl N T O c'=>Nat.beq b N&&Nat.beq o T&&Nat.beq l O&&Nat.beq c c'
 | .qY b p e l z,.qY N p' h O d=>Nat.beq b N&&Nat.beq p p'&&Nat.beq e h&&Nat.beq l O&&Nat.beq z d
 | .dq,.dq=>true
 | .qf r,.qf r'=>Nat.beq r r'
 | .ko,.ko=>true
 | .fn (.func f) a b,.fn (.func g) a' N=>Nat.beq f g&&yY a a'&&yY b N
 | .yield l,.yield O=>Nat.beq l O
 | .vd,.vd=>true
 | .iface t v,.iface Q m=>Nat.beq t Q&&gx v m
 | .qc,.qc=>true
 | .cE k i,.cE k' j=>r8 k k'&&db i j
 | .raw a,.raw b=>Zd a b
 | .agg a,.agg b=>yY a b
 | .ji a,.ji b=>yY a b
 | .iI b n c,.iI N n' c'=>Nat.beq b N&&(db n n'&&db c c')
 | .jn b i z k,.jn N q d k'=>Nat.beq b N&&(db i q&&(Nat.beq z d&&Nat.beq k k'))
 |_,_=>false
def yY:List AV->List AV->Bool
 | [],[]=>true
 |a::x,b::y=>gx a b&&yY x y
 |_,_=>false
end
def ZT(s:S):Nx->R AV
 | .val v F=>match Nat.beq F.next s.next with
   |true=>.ok v
   |false=>.bad ""
 |_=>.bad ""
def evQ(o:Oper)(C:Ctx)(t:Tr AV)(s:S):R AV:=(sF o.op o.type C t s).bind (ZT s)
inductive AK where
 |ptr|sl (n:Nat)|map
 deriving Inhabited
def Z3:AK->Nat->AV
 | .ptr=>λid=>.ptr id 0
 | .sl n=>λid=>.sl id 0 n n
 | .map=>λid=>.qf id
def Vl(e:TypeId)(C:Ctx):R (AK×gn):=do
 let i <-ti C e
 let z <-R.yn "no zero" i.zero
 cq (Nat.beq z.length i.size) "alloc: size"
 .ok (.ptr,ic e z)
def Qg(e:TypeId)(x:Operand)(C:Ctx)(t:Tr AV):R (AK×gn):=do
 let v <-oL C t x
 let c <-v.cells
 let i <-ti C e
 cq (Nat.beq c.length i.size) "box: size"
 .ok (.ptr,ic e c)
def lN(ty:TypeId)(len:Nat)(a:Array (Nat×Operand))(C:Ctx)(t:Tr AV):R (AK×gn):=do
 match <-under C ty with
 | .slice e=>do
   let i <-ti C e
   cq (Nat.ble (Nat.mul len i.size) 16777216) "buildSlice: too long"
   let zero <-EJ C e (Nat.mul len i.size) i.size
   let ps <-Mz C t a.toList
   let cs <-mJ (λk=>some (Nat.mul k i.size,i.size)) ps (N7 zero len)
   .ok (.sl len,ic e cs)
 |_=>.bad ""
def aF(o:Op)(C:Ctx)(t:Tr AV):R (AK×gn):=
 match o with
 | .alloc e=>Vl e C
 | .box e x=>Qg e x C t
 | .buildSlice ty n ps=>lN ty n ps C t
 | .makeMap _ r=>match r with
   |none=>.ok (.map,.map [] 0)
   |some _=>.bad ""
 |_=>.bad ""
def lEq{α:Type}(e:α->α->Bool):List α->List α->Bool
 | []=>λy=>match y with| []=>true|_::_=>false
 |a::x=>λy=>match y with
  | []=>false
  |b::y=>match e a b with
   |true=>lEq e x y
   |false=>false
def M6{α:Type}(e:α->α->Bool)(a b:Array α):Bool:=lEq e a.toList b.toList
def oEq{α:Type}(e:α->α->Bool)(a b:Option α):Bool:=
 match a with
 |none=>match b with|none=>true|some _=>false
 |some x=>match b with|none=>false|some y=>e x y
def pEq{α j:Type}(e:α->α->Bool)(f:j->j->Bool)(a b:α×j):Bool:=e a.1 b.1&&f a.2 b.2
def HL{α:Type}[DecidableEq α](a b:α):Bool:=decide (a=b)
def kM(a b:Nat):Bool:=Nat.beq a b
mutual
def iJ:Value->Value->Bool
 | .int k n=>λb=>match b with| .int k' n'=>HL k k'&&HL n n'|_=>false
 | .bool x=>λb=>match b with| .bool y=>HL x y|_=>false
 | .string s=>λb=>match b with| .string t=>eB s.data.toList t.data.toList|_=>false
 | .pointer none=>λb=>match b with| .pointer none=>true|_=>false
 | .slice none n c=>λb=>match b with| .slice none n' c'=>kM n n'&&kM c c'|_=>false
 | .map none=>λb=>match b with| .map none=>true|_=>false
 | .nilFunc=>λb=>match b with| .nilFunc=>true|_=>false
 | .func f ⟨[]⟩ ⟨[]⟩=>λb=>match b with| .func g ⟨[]⟩ ⟨[]⟩=>HL f g|_=>false
 | .nilIface=>λb=>match b with| .nilIface=>true|_=>false
 | .iface t v=>λb=>match b with| .iface Q a=>kM t Q&&iJ v a|_=>false
 | .agg ⟨l⟩=>λb=>match b with| .agg ⟨m⟩=>CF l m|_=>false
 |_=>λ_=>false
def CF:List Value->List Value->Bool
 | []=>λy=>match y with| []=>true|_::_=>false
 |v::l=>λy=>match y with| []=>false|u::m=>iJ v u&&CF l m
end
def eL(a b:Operand):Bool:=
 match a with
 | .tmp x=>match b with| .tmp y=>kM x y|_=>false
 | .const x=>match b with| .const y=>iJ x y|_=>false
 | .global x=>match b with| .global y=>kM x y|_=>false
 | .func x=>match b with| .func y=>kM x y|_=>false
def a8A(a b:Callee):Bool:=
 match a with
 | .value x=>match b with| .value y=>eL x y|_=>false
 | .invoke x m=>match b with| .invoke y n=>eL x y&&HL m n|_=>false
 | .builtin x=>match b with| .builtin y=>HL x y|_=>false
def a4D(a b:Call):Bool:=a8A a.callee b.callee&&M6 eL a.args b.args&&M6 kM a.argTypes b.argTypes
def LK(a b:Array (Nat×Operand)):Bool:=M6 (pEq kM eL) a b
def ZB(a b:Op):Bool:=
 match a with
 | .move x=>match b with| .move y=>eL x y|_=>false
 | .assign x=>match b with| .assign y=>eL x y|_=>false
 | .pick c x y=>match b with| .pick c' d e=>eL c c'&&(eL x d&&eL y e)|_=>false
 | .alloc x=>match b with| .alloc y=>kM x y|_=>false
 | .box t x=>match b with| .box Q d=>kM t Q&&eL x d|_=>false
 | .build t x=>match b with| .build Q d=>kM t Q&&LK x d|_=>false
 | .buildSlice t n x=>match b with| .buildSlice Q n' d=>kM t Q&&(kM n n'&&LK x d)|_=>false
 | .insert t x y z=>match b with| .insert Q d e g=>kM t Q&&(eL x d&&(eL y e&&eL z g))|_=>false
 | .load t x=>match b with| .load Q d=>kM t Q&&eL x d|_=>false
 | .store t x y=>match b with| .store Q d e=>kM t Q&&(eL x d&&eL y e)|_=>false
 | .nilCheck x=>match b with| .nilCheck y=>eL x y|_=>false
 | .binOp o t x y u=>match b with| .binOp T Q d e i=>HL o T&&(kM t Q&&(eL x d&&(eL y e&&kM u i)))|_=>false
 | .unOp o t x=>match b with| .unOp T Q d=>HL o T&&(kM t Q&&eL x d)|_=>false
 | .convert s t x=>match b with| .convert F Q d=>kM s F&&(kM t Q&&eL x d)|_=>false
 | .makeInterface t x=>match b with| .makeInterface Q d=>kM t Q&&eL x d|_=>false
 | .makeFunc f x y=>match b with| .makeFunc j d e=>HL f j&&(M6 eL x d&&M6 eL y e)|_=>false
 | .makeMap t x=>match b with| .makeMap Q d=>kM t Q&&oEq eL x d|_=>false
 | .makeSlice t x y=>match b with| .makeSlice Q d e=>kM t Q&&(eL x d&&eL y e)|_=>false
 | .slice t x l h m=>match b with| .slice Q d O h' m'=>kM t Q&&(eL x d&&(oEq eL l O&&(oEq eL h h'&&oEq eL m m')))|_=>false
 | .fieldAddr t x n=>match b with| .fieldAddr Q d n'=>kM t Q&&(eL x d&&kM n n')|_=>false
 | .field t x n=>match b with| .field Q d n'=>kM t Q&&(eL x d&&kM n n')|_=>false
 | .indexAddr t x y=>match b with| .indexAddr Q d e=>kM t Q&&(eL x d&&eL y e)|_=>false
 | .index t x y=>match b with| .index Q d e=>kM t Q&&(eL x d&&eL y e)|_=>false
 | .lookup t x y c=>match b with| .lookup Q d e c'=>kM t Q&&(eL x d&&(eL y e&&HL c c'))|_=>false
 | .mapUpdate t x y z=>match b with| .mapUpdate Q d e g=>kM t Q&&(eL x d&&(eL y e&&eL z g))|_=>false
 | .mapEntry t x y=>match b with| .mapEntry Q d e=>kM t Q&&(eL x d&&eL y e)|_=>false
 | .entryStore t x y z=>match b with| .entryStore Q d e g=>kM t Q&&(eL x d&&(eL y e&&eL z g))|_=>false
 | .range t x=>match b with| .range Q d=>kM t Q&&eL x d|_=>false
 | .next x c=>match b with| .next d c'=>eL x d&&HL c c'|_=>false
 | .entry x=>match b with| .entry d=>eL x d|_=>false
 | .typeAssert x s t c=>match b with| .typeAssert d F Q c'=>eL x d&&(kM s F&&(kM t Q&&HL c c'))|_=>false
 | .extract x n=>match b with| .extract d n'=>eL x d&&kM n n'|_=>false
 | .call c=>match b with| .call c'=>a4D c c'|_=>false
 | .defer c=>match b with| .defer c'=>a4D c c'|_=>false
 | .panic x=>match b with| .panic d=>eL x d|_=>false
 |_=>false
def a7T(a b:Edge):Bool:=kM a.on b.on&&HL a.ground b.ground
def Ry(a b:Oper):Bool:=oEq kM a.dst b.dst&&(ZB a.op b.op&&(kM a.type b.type&&(HL a.pos b.pos&&(M6 a7T a.after b.after&&oEq (pEq kM HL) a.guard b.guard))))
def dA:Code->Code->Bool
 | .skip=>λb=>match b with| .skip=>true|_=>false
 | .region i ops d=>λb=>match b with| .region e g d'=>kM i e&&(HL d d'&&M6 Ry ops g)|_=>false
 | .seq x y=>λb=>match b with| .seq a h=>dA x a&&dA y h|_=>false
 | .cond c x y=>λb=>match b with| .cond c' a h=>eL c c'&&(dA x a&&dA y h)|_=>false
 | .block i x=>λb=>match b with| .block e a=>kM i e&&dA x a|_=>false
 | .loop x=>λb=>match b with| .loop a=>dA x a|_=>false
 | .rangeFunc f p x y=>λb=>match b with| .rangeFunc j p' a h=>eL f j&&(M6 kM p p'&&(dA x a&&dA y h))|_=>false
 | .exit i=>λb=>match b with| .exit e=>kM i e|_=>false
 | .scope x=>λb=>match b with| .scope a=>dA x a|_=>false
 | .label i=>λb=>match b with| .label e=>kM i e|_=>false
 | .goto i=>λb=>match b with| .goto e=>kM i e|_=>false
 | .ret=>λb=>match b with| .ret=>true|_=>false
 | .refuse _=>λ_=>false
def SE.sub (D:Nat->SE):SE->SE
 | .var i=>D i
 | .int k n=>.int k n
 | .bool b=>.bool b
 | .str s=>.str s
 | .a1 o x=>.a1 o (SE.sub D x)
 | .a2 o x y=>.a2 o (SE.sub D x) (SE.sub D y)
 | .a3 o x y z=>.a3 o (SE.sub D x) (SE.sub D y) (SE.sub D z)
def SE.iq (D:Nat->SE):List SE->List SE
 | []=>[]
 |e::l=>SE.sub D e::SE.iq D l
mutual
def AV.sub (m:Nat->Nat) (D:Nat->SE):AV->AV
 | .int k n=>.int k n
 | .bool b=>.bool b
 | .str s=>.str s
 | .ptr b off=>.ptr (m b) off
 | .uH=>.uH
 | .sl b o l c=>.sl (m b) o l c
 | .qY b p e l z=>.qY (m b) p e l z
 | .dq=>.dq
 | .qf r=>.qf (m r)
 | .ko=>.ko
 | .fn f a b=>.fn f (AV.iq m D a) (AV.iq m D b)
 | .yield l=>.yield (m l)
 | .vd=>.vd
 | .iface t v=>.iface t (AV.sub m D v)
 | .qc=>.qc
 | .agg cs=>.agg (AV.iq m D cs)
 | .ji vs=>.ji (AV.iq m D vs)
 | .fO=>.fO
 | .raw v=>.raw v
 | .cE k e=>Un k (SE.sub D e)
 | .iI b n c=>.iI (m b) (SE.sub D n) (SE.sub D c)
 | .jn b i g k=>.jn (m b) (SE.sub D i) g k
def AV.iq (m:Nat->Nat) (D:Nat->SE):List AV->List AV
 | []=>[]
 |v::l=>AV.sub m D v::AV.iq m D l
end
mutual
def AV.ids (ok:Nat->Bool):AV->Bool
 | .ptr b _=>ok b
 | .sl b _ _ _=>ok b
 | .qY b _ _ _ _=>ok b
 | .qf r=>ok r
 | .fn _ a b=>AV.jv ok a&&AV.jv ok b
 | .yield l=>ok l
 | .iface _ v=>AV.ids ok v
 | .agg cs=>AV.jv ok cs
 | .ji vs=>AV.jv ok vs
 | .iI b _ _=>ok b
 | .jn b _ _ _=>ok b
 |_=>true
def AV.jv (ok:Nat->Bool):List AV->Bool
 | []=>true
 |v::l=>AV.ids ok v&&AV.jv ok l
end
def AD.sub (m:Nat->Nat) (D:Nat->SE) (d:AD):AD:=⟨d.target.sub m D,AV.iq m D d.args⟩
def AD.oQ (m:Nat->Nat) (D:Nat->SE):List AD->List AD
 | []=>[]
 |d::l=>d.sub m D::AD.oQ m D l
def AD.jv (ok:Nat->Bool):List AD->Bool
 | []=>true
 |d::l=>AV.ids ok d.target&&AV.jv ok d.args&&AD.jv ok l
def AY(m:Nat->Nat)(D:Nat->SE):List (Nat×AV)->List (Nat×AV)
 | []=>[]
 |x::l=>(x.1,x.2.sub m D)::AY m D l
def F0(ok:Nat->Bool):List (Nat×AV)->Bool
 | []=>true
 |x::l=>AV.ids ok x.2&&F0 ok l
def J7:Nat->List AV
 |0=>[]
 |n+1=>.fO::J7 n
def NT:List (Nat×AV)->Tr AV->Tr AV
 | []=>λt=>t
 |x::l=>λt=>NT l (t.set x.1 x.2)
def Ir(nt:Nat)(l:List (Nat×AV)):Tr AV:=NT l (Tr.ofList (J7 nt))
def ME.oQ (m:Nat->Nat) (D:Nat->SE):List ME->List ME
 | []=>[]
 |e::l=>⟨e.k,e.v.sub m D,e.born⟩::ME.oQ m D l
def ME.jv (ok:Nat->Bool):List ME->Bool
 | []=>true
 |e::l=>AV.ids ok e.v&&ME.jv ok l
def CB.sub (m:Nat->Nat) (D:Nat->SE):CB->CB
 | .cells e cs fz st sg=>.cells e (AV.iq m D cs) fz st sg
 | .fV ds=>.fV (AD.oQ m D ds)
 | .loop st pe fn nt tm ps a b d=>.loop st pe fn nt (AY m D tm) ps a b (m d)
 | .vec e x=>.vec e (SE.sub D x)
 | .Ie e k zs=>.Ie e k zs
 | .map J c=>.map (ME.oQ m D J) c
def CB.ids (ok:Nat->Bool):CB->Bool
 | .cells _ cs _ _ _=>AV.jv ok cs
 | .fV ds=>AD.jv ok ds
 | .loop _ _ _ _ tm _ _ _ d=>F0 ok tm&&ok d
 | .vec _ _=>true
 | .Ie _ _ _=>true
 | .map J _=>ME.jv ok J
def CB.aO:CB->gn
 | .cells e cs fz st sg=>.cells e (Tr.ofList cs) cs.length fz [] st sg
 | .fV ds=>.fV (some ds)
 | .loop st pe fn nt tm ps a b d=>.loop st pe fn nt (Ir nt tm) ps a b d
 | .vec e x=>.vec e x
 | .Ie e k zs=>.Ie e k zs
 | .map J c=>.map J c
def CB.live:CB->Bool
 | .cells _ _ _ st _=> !st
 | .Ie _ _ _=>false
 |_=>true
def Fact.sub (D:Nat->SE):Fact->Fact
 | .tr e=>.tr (e.sub D)
 | .fl e=>.fl (e.sub D)
 | .inr i n=>.inr (i.sub D) (n.sub D)
 | .rel nm b p l=>.rel nm b p (SE.iq D l)
def Fact.oQ (D:Nat->SE):List Fact->List Fact
 | []=>[]
 |f::l=>f.sub D::Fact.oQ D l
def Xg(i:Nat):Nat:=i
end Go.Proofs.YtokipodjggomfaaGreatDoor.Abs
