/- Part 1 of an abstract machine that evaluates programs of the model in the kernel, and of the proofs that its run is the model's. Conditions: those of each theorem. -/
import Derived.Calls
import Derived.Laws.Cells
import Derived.Laws.Entries
import Derived.Laws.Strings
import Derived.Laws.StructEq
import Derived.Laws.World
import Derived.Lib.AtoiAll
import Derived.Lib.Bytealg
import Derived.Lib.Index
import Derived.Lib.IndexMore
import Derived.Lib.ItoaNum
import Derived.WideLaws
import GoSem.Claims
import GoSem.Step
noncomputable section
set_option linter.unusedVariables false
set_option linter.unusedSimpArgs false
namespace Go.Proofs.YtokipodjggomfaaGreatDoor
theorem ae.{u}:type_of%@Option.some.inj.{u}:=@Option.some.inj
theorem ar.{u}:type_of%@Option.some.injEq.{u}:=@Option.some.injEq
theorem aw:type_of%@Bool.and_eq_true:=@Bool.and_eq_true
theorem aN.{u,v}:type_of%@Option.map_eq_some_iff.{u,v}:=@Option.map_eq_some_iff
theorem aL:type_of%@Nat.eq_of_beq_eq_true:=@Nat.eq_of_beq_eq_true
theorem aP:type_of%@Result.andThen_ok:=@Result.andThen_ok
theorem bk.{u}:type_of%@List.mem_cons_of_mem.{u}:=@List.mem_cons_of_mem
theorem aW.{u,v}:type_of%@Option.bind_some.{u,v}:=@Option.bind_some
theorem bW.{u,v}:type_of%@Option.bind_eq_some_iff.{u,v}:=@Option.bind_eq_some_iff
theorem aV.{u}:type_of%@List.mem_cons_self.{u}:=@List.mem_cons_self
theorem bn:type_of%@Nat.le_of_ble_eq_true:=@Nat.le_of_ble_eq_true
theorem aA:type_of%@Sem.run_bind:=@Sem.run_bind
theorem bq:type_of%@of_decide_eq_true:=@of_decide_eq_true
theorem cr.{u}:type_of%@List.getElem?_cons_zero.{u}:=@List.getElem?_cons_zero
theorem bL.{u}:type_of%@List.length_append.{u}:=@List.length_append
theorem cq:type_of%@Int.ofNat_eq_natCast:=@Int.ofNat_eq_natCast
theorem dw.{u}:type_of%@List.getElem?_eq_getElem.{u}:=@List.getElem?_eq_getElem
theorem aY:type_of%@Sem.run_pure:=@Sem.run_pure
theorem dR.{u}:type_of%@Array.getElem?_eq_getElem.{u}:=@Array.getElem?_eq_getElem
theorem aX:type_of%@Nat.le_refl:=@Nat.le_refl
theorem bZ.{u}:type_of%@List.length_cons.{u}:=@List.length_cons
theorem aU.{u}:type_of%@exists_imp.{u}:=@exists_imp
theorem ai.{u}:type_of%@if_neg.{u}:=@if_neg
theorem bX.{u,v}:type_of%@Option.map_some.{u,v}:=@Option.map_some
theorem bK.{u,v}:type_of%@Prod.mk.injEq.{u,v}:=@Prod.mk.injEq
theorem cG.{u}:type_of%@List.length_take.{u}:=@List.length_take
theorem et:type_of%@Int.eq_ofNat_of_zero_le:=@Int.eq_ofNat_of_zero_le
theorem bQ.{u}:type_of%@List.mem_cons.{u}:=@List.mem_cons
theorem aQ.{u}:type_of%@if_false.{u}:=@if_false
theorem fv.{u}:type_of%@List.take_of_length_le.{u}:=@List.take_of_length_le
theorem dY:type_of%@Bool.false_eq_true:=@Bool.false_eq_true
theorem dv.{u}:type_of%@List.length_nil.{u}:=@List.length_nil
theorem az.{u}:type_of%@if_pos.{u}:=@if_pos
theorem aH.{u}:type_of%@if_true.{u}:=@if_true
theorem cz:type_of%@step_lone_go:=@step_lone_go
theorem cV:type_of%@Nat.lt_or_ge:=@Nat.lt_or_ge
theorem aT:type_of%@and_imp:=@and_imp
theorem kD.{u}:type_of%@Array.getD_eq_getD_getElem?.{u}:=@Array.getD_eq_getD_getElem?
theorem jK.{u}:type_of%@List.getElem?_eq_some_iff.{u}:=@List.getElem?_eq_some_iff
theorem eE.{u}:type_of%@List.not_mem_nil.{u}:=@List.not_mem_nil
theorem il.{u}:type_of%@List.length_singleton.{u}:=@List.length_singleton
theorem du:type_of%@Nat.zero_add:=@Nat.zero_add
theorem eT.{u}:type_of%@List.length_drop.{u}:=@List.length_drop
theorem cY:type_of%@Nat.add_mul:=@Nat.add_mul
theorem gp:type_of%@of_decide_eq_false:=@of_decide_eq_false
theorem fY:type_of%@Bool.not_eq_true':=@Bool.not_eq_true'
theorem fu.{u}:type_of%@Option.getD_some.{u}:=@Option.getD_some
theorem kA.{u}:type_of%@List.getElem?_cons_succ.{u}:=@List.getElem?_cons_succ
theorem iU:type_of%@Nat.mul_le_mul_right:=@Nat.mul_le_mul_right
theorem jJ.{u}:type_of%@List.getElem?_toArray.{u}:=@List.getElem?_toArray
theorem fX:type_of%@UInt8.toNat_inj:=@UInt8.toNat_inj
theorem fW:type_of%@Bool.or_eq_true:=@Bool.or_eq_true
theorem iT:type_of%@Nat.lt_of_lt_of_le:=@Nat.lt_of_lt_of_le
theorem ik.{u,v}:type_of%@List.getElem?_map.{u,v}:=@List.getElem?_map
theorem kz:type_of%@Bool.and_eq_true_iff:=@Bool.and_eq_true_iff
theorem qm.{u}:type_of%@Array.getElem?_setIfInBounds.{u}:=@Array.getElem?_setIfInBounds
theorem lE.{u}:type_of%@List.getElem?_append.{u}:=@List.getElem?_append
theorem jI.{u}:type_of%@List.append_assoc.{u}:=@List.append_assoc
theorem eS:type_of%@Nat.ne_of_lt:=@Nat.ne_of_lt
theorem ky:type_of%@Int.natCast_nonneg:=@Int.natCast_nonneg
theorem ij.{u}:type_of%@List.nil_append.{u}:=@List.nil_append
theorem jH:type_of%@Nat.mod_eq_of_lt:=@Nat.mod_eq_of_lt
theorem jG.{u}:type_of%@List.cons_append.{u}:=@List.cons_append
theorem iS:type_of%@Value.int.injEq:=@Value.int.injEq
theorem iR.{u}:type_of%@List.mem_append.{u}:=@List.mem_append
theorem oE:type_of%@Nat.mul_add_mod_of_lt:=@Nat.mul_add_mod_of_lt
theorem gn:type_of%@Nat.le_trans:=@Nat.le_trans
theorem ql.{u}:type_of%@List.drop_eq_nil_of_le.{u}:=@List.drop_eq_nil_of_le
theorem ig:type_of%@Nat.add_assoc:=@Nat.add_assoc
theorem cm.{u}:type_of%@Ne.symm.{u}:=@Ne.symm
theorem hx:type_of%@Nat.add_zero:=@Nat.add_zero
theorem nc:type_of%@decide_eq_true_eq:=@decide_eq_true_eq
theorem xO.{u}:type_of%@Array.getElem?_append_left.{u}:=@Array.getElem?_append_left
theorem oD.{u}:type_of%@List.getElem?_drop.{u}:=@List.getElem?_drop
theorem A6.{u}:type_of%@List.eq_nil_of_length_eq_zero.{u}:=@List.eq_nil_of_length_eq_zero
theorem nb.{u}:type_of%@List.cons.injEq.{u}:=@List.cons.injEq
theorem qk.{u}:type_of%@List.getElem?_take.{u}:=@List.getElem?_take
theorem dX.{u,v}:type_of%@congrArg.{u,v}:=@congrArg
theorem A5:type_of%@Nat.le_of_mul_le_mul_right:=@Nat.le_of_mul_le_mul_right
theorem A4.{u}:type_of%@List.getElem?_append_right.{u}:=@List.getElem?_append_right
theorem ft:type_of%@and_assoc:=@and_assoc
theorem dB:type_of%@trivial:=@trivial
theorem tY.{u}:type_of%@Array.length_toList.{u}:=@Array.length_toList
theorem er:type_of%@or_false:=@or_false
theorem xN.{u}:type_of%@Array.getElem?_toList.{u}:=@Array.getElem?_toList
theorem kx:type_of%@Nat.zero_mul:=@Nat.zero_mul
theorem xM:type_of%@Nat.ble_eq_true_of_le:=@Nat.ble_eq_true_of_le
theorem tX:type_of%@Value.string.injEq:=@Value.string.injEq
theorem tW:type_of%@Nat.pos_of_ne_zero:=@Nat.pos_of_ne_zero
theorem qj.{u}:type_of%@List.all_eq_true.{u}:=@List.all_eq_true
theorem xL.{u}:type_of%@List.mem_append_left.{u}:=@List.mem_append_left
theorem tV:type_of%@not_true_eq_false:=@not_true_eq_false
theorem tQ:type_of%@Int.toNat_natCast:=@Int.toNat_natCast
theorem tO.{u}:type_of%@List.take_add_one.{u}:=@List.take_add_one
theorem qi:type_of%@decide_eq_false:=@decide_eq_false
theorem Fi.{u}:type_of%@List.getD_eq_getElem?_getD.{u}:=@List.getD_eq_getElem?_getD
theorem Fh.{u}:type_of%@List.isPrefixOf_iff_prefix.{u}:=@List.isPrefixOf_iff_prefix
theorem na:type_of%@Classical.em:=@Classical.em
theorem oC:type_of%@Bool.and_self:=@Bool.and_self
theorem k8:type_of%@Int.ofNat.inj:=@Int.ofNat.inj
theorem iV:type_of%@run_program:=@run_program
theorem Aa.{u}:type_of%@List.getElem?_append_left.{u}:=@List.getElem?_append_left
theorem vy.{u}:type_of%@List.mem_of_getElem?.{u}:=@List.mem_of_getElem?
theorem oH.{u,v}:type_of%@List.length_map.{u,v}:=@List.length_map
theorem rU.{u}:type_of%@Array.size_append.{u}:=@Array.size_append
theorem j3.{u,v}:type_of%@Prod.mk.inj.{u,v}:=@Prod.mk.inj
theorem j0:type_of%@Nat.zero_le:=@Nat.zero_le
theorem mD.{u,v}:type_of%@List.map_cons.{u,v}:=@List.map_cons
theorem rT:type_of%@Nat.mul_mod_left:=@Nat.mul_mod_left
theorem Fy.{u}:type_of%@List.drop_append_of_le_length.{u}:=@List.drop_append_of_le_length
theorem fw:type_of%@true_and:=@true_and
theorem vx.{u}:type_of%@Array.ext_getElem?.{u}:=@Array.ext_getElem?
theorem vw:type_of%@Int.add_sub_cancel:=@Int.add_sub_cancel
theorem rS:type_of%@Nat.not_lt_zero:=@Nat.not_lt_zero
theorem zZ.{u}:type_of%@List.getElem?_eq_none.{u}:=@List.getElem?_eq_none
theorem zY.{u}:type_of%@List.mem_append_right.{u}:=@List.mem_append_right
theorem zX.{u}:type_of%@List.take_append_drop.{u}:=@List.take_append_drop
theorem vv:type_of%@not_false_eq_true:=@not_false_eq_true
theorem vu.{u}:type_of%@List.size_toArray.{u}:=@List.size_toArray
theorem vt:type_of%@Classical.not_not:=@Classical.not_not
theorem vq:type_of%@UInt8.ofNat_toNat:=@UInt8.ofNat_toNat
theorem zW.{u}:type_of%@List.getElem?_of_mem.{u}:=@List.getElem?_of_mem
theorem zV:type_of%@Bool.or_eq_false_iff:=@Bool.or_eq_false_iff
theorem Fx.{u}:type_of%@List.drop_eq_getElem_cons.{u}:=@List.drop_eq_getElem_cons
theorem rO.{u}:type_of%@List.take_zero.{u}:=@List.take_zero
theorem rN.{u}:type_of%@List.drop_zero.{u}:=@List.drop_zero
theorem vp:type_of%@Value.bool.injEq:=@Value.bool.injEq
theorem gP:type_of%@and_true:=@and_true
theorem vo.{u}:type_of%@List.take_length.{u}:=@List.take_length
theorem zU.{u}:type_of%@Array.toList_append.{u}:=@Array.toList_append
theorem kZ:type_of%@Calls.mono:=@Calls.mono
theorem vn:type_of%@Nat.mul_add_mod:=@Nat.mul_add_mod
theorem vm:type_of%@Bool.eq_iff_iff:=@Bool.eq_iff_iff
theorem vl:type_of%@Nat.min_eq_left:=@Nat.min_eq_left
theorem vk:type_of%@Result.ok.injEq:=@Result.ok.injEq
theorem vj.{u}:type_of%@List.mem_filter.{u}:=@List.mem_filter
theorem Fw:type_of%@decide_eq_false_iff_not:=@decide_eq_false_iff_not
theorem zT.{u}:type_of%@List.mem_singleton.{u}:=@List.mem_singleton
theorem zS:type_of%@Int.sub_add_cancel:=@Int.sub_add_cancel
theorem Fv.{u}:type_of%@Array.getElem?_eq_none.{u}:=@Array.getElem?_eq_none
theorem Fu.{u}:type_of%@List.takeWhile_sublist.{u}:=@List.takeWhile_sublist
theorem oG:type_of%@Nat.le_succ:=@Nat.le_succ
theorem zR.{u}:type_of%@List.ext_getElem?.{u}:=@List.ext_getElem?
theorem mC.{u}:type_of%@Array.ext'.{u}:=@Array.ext'
theorem vi.{u}:type_of%@List.drop_take.{u}:=@List.drop_take
theorem vh:type_of%@Bool.not_false:=@Bool.not_false
theorem rL:type_of%@Nat.mul_comm:=@Nat.mul_comm
theorem rK:type_of%@Nat.beq_refl:=@Nat.beq_refl
theorem Ft.{u}:type_of%@Array.getElem?_modify.{u}:=@Array.getElem?_modify
theorem rJ:type_of%@Nat.sub_zero:=@Nat.sub_zero
theorem Fs:type_of%@Nat.add_mul_div_right:=@Nat.add_mul_div_right
theorem zQ:type_of%@Nat.lt_succ_self:=@Nat.lt_succ_self
theorem Fq:type_of%@Nat.div_le_div_right:=@Nat.div_le_div_right
theorem Fp:type_of%@Nat.pow_le_pow_right:=@Nat.pow_le_pow_right
theorem vg:type_of%@Bool.not_true:=@Bool.not_true
theorem oF:type_of%@Steps.refl:=@Steps.refl
theorem rI:type_of%@Nat.mod_one:=@Nat.mod_one
theorem rH:type_of%@Nat.add_mod:=@Nat.add_mod
theorem zP.{u}:type_of%@List.append_nil.{u}:=@List.append_nil
theorem Fo.{u}:type_of%@List.length_pos_iff.{u}:=@List.length_pos_iff
theorem Fm.{u}:type_of%@List.take_succ_cons.{u}:=@List.take_succ_cons
theorem Fl:type_of%@Nat.eq_zero_or_pos:=@Nat.eq_zero_or_pos
theorem vf:type_of%@Int.le_trans:=@Int.le_trans
theorem Fk:type_of%@Bool.false_ne_true:=@Bool.false_ne_true
theorem zO:type_of%@decide_eq_true:=@decide_eq_true
theorem zN:type_of%@Int.toNat_zero:=@Int.toNat_zero
theorem zM.{u}:type_of%@List.drop_drop.{u}:=@List.drop_drop
theorem rG:type_of%@Nat.blt_eq:=@Nat.blt_eq
theorem Fj:type_of%@Value.pointer.inj:=@Value.pointer.inj
theorem ve:type_of%@Nat.mul_one:=@Nat.mul_one
theorem vd:type_of%@Int.le_refl:=@Int.le_refl
theorem vc:type_of%@Nat.ble_eq:=@Nat.ble_eq
end Go.Proofs.YtokipodjggomfaaGreatDoor
namespace Go.Proofs.YtokipodjggomfaaGreatDoor.Abs
open Go
inductive Tr(α:Type)where
 |nil
 |node (v:Option α) (l r:Tr α)
 deriving Inhabited
def Tr.get {α:Type} (t:Tr α):Nat->Option α:=
 @Tr.rec α (λ_=>Nat->Option α) (λ_=>none)
  (λv _ _ a b i=>@Nat.rec (λ_=>Option α) v (λn _=>@Bool.rec (λ_=>Option α) (b (Nat.div n 2)) (a (Nat.div n 2)) (Nat.beq (Nat.mod n 2) 0)) i) t
def Tr.It {α:Type} (x:Option α) (f:Nat):Nat->Tr α->Tr α:=
 @Nat.rec (λ_=>Nat->Tr α->Tr α) (λ_ t=>t)
  (λ_ up i t=>@Nat.rec (λ_=>Tr α)
    (@Tr.rec α (λ_=>Tr α) (.node x .nil .nil) (λ_ l r _ _=>.node x l r) t)
    (λn _=>@Bool.rec (λ_=>Tr α)
      (@Tr.rec α (λ_=>Tr α) (.node none .nil (up (Nat.div n 2) .nil)) (λv l r _ _=>.node v l (up (Nat.div n 2) r)) t)
      (@Tr.rec α (λ_=>Tr α) (.node none (up (Nat.div n 2) .nil) .nil) (λv l r _ _=>.node v (up (Nat.div n 2) l) r) t)
      (Nat.beq (Nat.mod n 2) 0)) i) f
def Tr.set {α:Type} (t:Tr α) (i:Nat) (x:α):Tr α:=Tr.It (some x) (Nat.add i 1) i t
def Tr.del {α:Type} (t:Tr α) (i:Nat):Tr α:=Tr.It none (Nat.add i 1) i t
def Tr.iZ {α:Type}:List α->Nat->Tr α->Tr α
 | []=>λ_ t=>t
 |x::xs=>λi t=>Tr.iZ xs (Nat.add i 1) (t.set i x)
def Tr.ofList {α:Type} (l:List α):Tr α:=Tr.iZ l 0 .nil
inductive Kd where
 |any
 |int (k:IntKind)
 |bool
 |str
 |sl (t:TypeId)
 |ptr (t:TypeId) (i:Nat)
 |Sf
 deriving Inhabited
inductive QV where
 |bin (op:BinOp)
 |un (op:UnOp)
 |conv (k:IntKind)
 |len
 |idx
 |sub
 |ite
 |el
 |off (n:Nat)
 |ld (n:Nat)
 |isNil
 |tk (g:Nat)
 |sn
 |at(g k:Nat)
 |nl (P:List Kd)
 |ns (t:TypeId) (g:Nat)
 |zs (P:List Kd) (Xv:List Nat)
 |up (g k:Nat)
 |sb
 |bs
 |cat
 deriving Inhabited
inductive SE where
 |var (i:Nat)
 |int (k:IntKind) (n:Int)
 |bool (b:Bool)
 |str (s:List UInt8)
 |a1 (o:QV) (x:SE)
 |a2 (o:QV) (x y:SE)
 |a3 (o:QV) (x y z:SE)
 deriving Inhabited
inductive Dt where
 |val (v:Value)
 |sl (v:Value) (t:TypeId) (g:Nat) (J:List Dt)
 |pt (v:Value) (t:TypeId) (g:Nat) (J:List Dt) (i k:Nat)
 |ls (P:List Kd) (J:List Dt)
 deriving Inhabited
def Dt.v:Dt->Value
 | .val v=>v
 | .sl v _ _ _=>v
 | .pt v _ _ _ _ _=>v
 | .ls _ _=>.tuple ⟨[]⟩
inductive Fact where
 |tr (e:SE)
 |fl (e:SE)
 |inr (i n:SE)
 |rel (nm:String) (neg:Bool) (p:List Dt->Prop) (args:List SE)
 deriving Inhabited
def jg(l:List Dt):Prop:=∃k n m,l=[.val (.int k n),.val (.int .i64 m)]/\¬(0<=n/\n<m)
def Mg(l:List Dt):Prop:=∃k n k' m q,l=[.val (.int k n),.val (.int k' m),.val (.int .i64 q)]/\¬(0<=n/\n<=m/\m<=q)
def BX(g:Nat)(l:List Dt):Prop:=∃P J k n,l=[.ls P J,.val (.int k n)]/\¬(0<=n/\n.toNat*g+g<=J.length)
def eL(g bytes a:Nat)(l:List Dt):Prop:=∃P J n,l=[.ls P J,.val (.int .i64 n)]/\¬(0<=n/\n.toNat*g<=J.length/\(n.toNat+a)*bytes<=68719476736/\n.toNat+a<=68719476736)
inductive AV where
 |int (k:IntKind) (n:Int)
 |bool (b:Bool)
 |str (s:List UInt8)
 |ptr (b off:Nat)
 |o9
 |sl (b off len cap:Nat)
 |np (b pre e0 len g:Nat)
 |dh
 |l5 (r:Nat)
 |iw
 |fn (f:Fn) (first captured:List AV)
 |yield (l:Nat)
 |p0
 |iface (t:TypeId) (v:AV)
 |lY
 |agg (cs:List AV)
 |jy (vs:List AV)
 |junk
 |raw (v:Value)
 |bS (k:Kd) (e:SE)
 |gR (b:Nat) (n c:SE)
 |gS (b:Nat) (i:SE) (g k:Nat)
 deriving Inhabited
def ji:Fn->Bool
 | .yield _=>false
 |_=>true
mutual
def AV.ofConst:Value->AV
 | .int k n=>.int k n
 | .bool b=>.bool b
 | .string s=>.str s.data.toList
 | .pointer none=>.o9
 | .slice none 0 0=>.dh
 | .map none=>.iw
 | .nilFunc=>.p0
 | .func f ⟨[]⟩ ⟨[]⟩=>match ji f with|true=>.fn f [] []|false=>.raw (.func f #[] #[])
 | .nilIface=>.lY
 | .iface t v=>.iface t (AV.ofConst v)
 | .agg ⟨l⟩=>.agg (AV.lX l)
 | .tuple ⟨l⟩=>.jy (AV.lX l)
 |v=>.raw v
def AV.lX:List Value->List AV
 | []=>[]
 |v::l=>AV.ofConst v::AV.lX l
end
structure AD where
 target:AV
 args:List AV
 deriving Inhabited
inductive gO where
 |call (d:AD)
 |collected (r:Nat)
 deriving Inhabited
structure ME where
 k:AV
 v:AV
 born:Nat
 deriving Inhabited
inductive eD where
 |cells (elem:TypeId) (cs:Tr AV) (n fz:Nat) (fh:List Nat) (fj sg:Bool)
 |map (J:List ME) (clock:Nat)
 |Pk (m:Option Nat) (since:Nat) (seen:List Nat) (last:Nat)
 |a1a (s:List UInt8) (pos:Nat)
 |eC (ds:Option (List AD))
 |loop (st:LoopState) (pending:Option Code) (fn:FuncId) (nt:Nat) (tmps:Tr AV) (params:List Tmp) (assign body:Code) (defers:Nat)
 |vec (elem:TypeId) (e:SE)
 |Dp (elem:TypeId) (k:IntKind) (zs:List Int)
 deriving Inhabited
structure S where
 h:Tr eD
 next:Nat
 pc:List Fact
 deriving Inhabited
inductive R(α:Type)where
 |ok (a:α)
 |bad (TT:String)
 |ask (n:Nat) (k:Nat->R α)
 |must (pc:List Fact) (k:R α)
 deriving Inhabited
def R.bind {α j:Type} (r:R α) (f:α->R j):R j:=
 @R.rec α (λ_=>R j) f (λw=>.bad w) (λn _ a=>.ask n a) (λpc _ a=>.must pc a) r
instance:Monad R where
 pure:=.ok
 bind:=R.bind
def R.tc {α:Type} (TT:String):Option α->R α
 |some a=>.ok a
 |none=>.bad TT
def bD(b:Bool)(TT:String):R Unit:=
 match b with
 |true=>.ok ()
 |false=>.bad TT
structure TI where
 desc:TypeDesc
 size:Nat
 bytes:Nat
 zero:Option (List AV)
 agg:Bool
 zv:Option AV
 deriving Inhabited
def VO:TypeDesc->Bool
 | .struct _=>true
 | .array _ _=>true
 |_=>false
def zC(types:Array TypeInfo)(i:TypeInfo):TI:=
 let u:TypeDesc:=match i.desc with
  | .named _ u=>((types[u]?).map (·.desc)).getD .invalid
  |d=>d
 { desc:=u,size:=i.size,bytes:=i.bytes,zero:=i.zero.map λz=>AV.lX z.cells.toList,agg:=VO u,zv:=i.zero.map AV.ofConst }
inductive Ext where
 |wP|indexByte
 |index (g:Nat)
def sb:List Nat->List UInt8
 | []=>[]
 |n::l=>UInt8.ofNat n::sb l
inductive MB where
 |cells (elem:TypeId) (cs:List AV) (fz:Nat) (fj sg:Bool)
 |map (J:List ME) (clock:Nat)
 deriving Inhabited
def MB.ay:MB->eD
 | .cells e cs fz st sg=>.cells e (Tr.ofList cs) cs.length fz [] st sg
 | .map J c=>.map J c
inductive bH where
 |code (c:Code)
 |inBlock (id:Nat)
 |inLoop (body:Code)
 |inScope (body:Code)
 |inRange (l:Nat)
 |endRange (l:Nat)
 |beginRound
 deriving Inhabited
inductive CB where
 |cells (elem:TypeId) (cs:List AV) (fz:Nat) (fj sg:Bool)
 |eC (ds:List AD)
 |loop (st:LoopState) (pe:Option Code) (fn:FuncId) (nt:Nat) (tmps:List (Nat×AV)) (params:List Tmp) (assign body:Code) (defers:Nat)
 |vec (elem:TypeId) (e:SE)
 |Dp (elem:TypeId) (k:IntKind) (zs:List Int)
 |map (J:List ME) (clock:Nat)
 deriving Inhabited
structure de where
 res:AV
 post:List (Nat×CB)
 facts:List Fact
 m:Nat
 eH:Bool:=false
 deriving Inhabited
structure bp where
 fn:FuncId
 nt:Nat
 round:Option Nat
 t:List (Nat×AV)
 todo:List bH
 n:Nat
 pre:List (Nat×CB)
 facts:List Fact
 outs:List de
 deriving Inhabited
structure Ctx where
 P:Program
 T:Tr TI
 F:Tr Func
 nG:Nat
 eqT:Nat->Bool
 X:List (FuncId×Ext)
 K:List bp
 L:List bp
 deriving Inhabited
def gk(P:Program)(eqT:Nat->Bool)(X:List (FuncId×Ext))(K:List bp:=[])(L:List bp:=[]):Ctx:={ P,T:=Tr.ofList (P.types.toList.map (zC P.types)),F:=Tr.ofList P.funcs.toList,nG:=P.globals.size,eqT,X,K,L }
def ti(C:Ctx)(t:TypeId):R TI:=R.tc "no type" (C.T.get t)
def under(C:Ctx)(t:TypeId):R TypeDesc:=do let i <-ti C t;.ok i.desc
def zeroOf(C:Ctx)(t:TypeId):R (List AV):=do let i <-ti C t;R.tc "no zero" i.zero
def mB(C:Ctx)(t:TypeId):R AV:=do let i <-ti C t;R.tc "no zero value" i.zv
def S.new (s:S) (b:eD):S:=⟨s.h.set s.next b,Nat.add s.next 1,s.pc⟩
def AV.cells:AV->R (List AV)
 | .agg cs=>.ok cs
 | .junk=>.bad "cells"
 | .raw v=>match v with
   | .agg _=>.bad "cells"
   |v=>.ok [.raw v]
 |v=>.ok [v]
def qV(v:AV):R AV:=
 @AV.rec (λ_=>R AV) (λ_=>Unit) (λ_ _=>.ok v) (λ_=>.ok v) (λ_=>.ok v) (λ_ _=>.ok v) (.ok v) (λ_ _ _ _=>.ok v) (λ_ _ _ _ _=>.ok v) (.ok v) (λ_=>.ok v) (.ok v)
  (λ_ _ _ _ _=>.ok v) (λ_=>.ok v) (.ok v) (λ_ _ _=>.ok v) (.ok v) (λ_ _=>.ok v) (λ_ _=>.ok v) (.bad "junk read") (λ_=>.ok v) (λ_ _=>.ok v) (λ_ _ _=>.ok v) (λ_ _ _ _=>.ok v) () (λ_ _ _ _=>()) v
def getCells(cs:Tr AV):Nat->Nat->R (List AV)
 |0=>λ_=>.ok []
 |k+1=>λoff=>
  match cs.get off with
  |some v=>do let v <-qV v;let l <-getCells cs k (Nat.add off 1);.ok (v::l)
  |none=>.bad "getCells: hole"
def rdCells(s:S)(b off k:Nat):R (List AV):=
 match s.h.get b with
 |some (.cells _ cs n _ _ _ _)=>
  match Nat.ble (Nat.add off k) n with
  |true=>getCells cs k off
  |false=>.bad "rdCells: beyond"
 |_=>.bad "rdCells: no cells"
def ofCells:Bool->List AV->R AV
 |true=>λl=>.ok (.agg l)
 |false=>λl=>match l with
  | [v]=>.ok v
  |_=>.bad "ofCells"
def fQ(elem:TypeId)(cs:List AV):eD:=.cells elem (Tr.ofList cs) cs.length 0 [] false false
def kH:List Nat->Tr eD->Tr eD
 | []=>λh=>h
 |a::l=>λh=>kH l (h.del a)
def a2J:AV->Bool
 | .agg _=>false
 | .jy _=>false
 | .junk=>false
 | .raw v=>match v with
   | .agg _=>false
   | .tuple _=>false
   |_=>true
 |_=>true
def kJ:List AV->Bool
 | []=>true
 |v::l=>match a2J v with
  |true=>kJ l
  |false=>false
def gQ(s:S)(b off:Nat)(vs:List AV):R S:=
 match vs with
 | []=>.ok s
 |v::a=>
  match s.h.get b with
  |some (.cells elem cs n fz fh fj sg)=>
   match !fj&&Nat.ble (Nat.add off (v::a).length) n&&Nat.ble fz off&&kJ (v::a)with
   |true=>.ok ⟨(kH fh s.h).set b (.cells elem (Tr.iZ (v::a) off cs) n fz [] false sg),s.next,s.pc⟩
   |false=>.bad "write"
  |_=>.bad "write: no cells"
def n9(a b:IntKind):Bool:=decide (a=b)
def ny(a b:Kd):Bool:=
 match a with
 | .any=>match b with| .any=>true|_=>false
 | .int x=>match b with| .int y=>n9 x y|_=>false
 | .bool=>match b with| .bool=>true|_=>false
 | .str=>match b with| .str=>true|_=>false
 | .sl x=>match b with| .sl y=>Nat.beq x y|_=>false
 | .ptr x i=>match b with| .ptr y j=>Nat.beq x y&&Nat.beq i j|_=>false
 | .Sf=>match b with| .Sf=>true|_=>false
def zt:AV->Kd
 | .int k _=>.int k
 | .bool _=>.bool
 | .str _=>.str
 | .bS k _=>k
 |_=>.any
def cT:AV->SE
 | .int k n=>.int k n
 | .bool b=>.bool b
 | .str s=>.str s
 | .bS _ e=>e
 |_=>.bool true
def a54(C:Ctx)(t:TypeId):Kd:=
 match C.T.get t with
 |some i=>match i.desc with
  | .int k=>.int k
  | .bool=>.bool
  | .string=>.str
  | .slice e=>.sl e
  |_=>.any
 |none=>.any
def Kh(C:Ctx):List TypeId->List Kd
 | []=>[]
 |t::l=>a54 C t::Kh C l
def aq(C:Ctx)(t:TypeId):List Kd:=
 match C.P.cellTypes C.P.depth t with
 |some l=>Kh C l
 |none=>[]
def Hd(e:SE):Nat->List Kd->Nat->R (List AV)
 |0=>λ_ _=>.ok []
 |n+1=>λP m=>match P with
  | []=>.bad "load: beyond the element"
  |k::P=>do
   let l <-Hd e n P (Nat.add m 1)
   .ok (.bS k (.a1 (.ld m) e)::l)
def Ic(e i:SE)(g:Nat):Nat->List Kd->Nat->R (List AV)
 |0=>λ_ _=>.ok []
 |n+1=>λP m=>match P with
  | []=>.bad "load: beyond the element"
  |k::P=>do
   let l <-Ic e i g n P (Nat.add m 1)
   .ok (.bS k (.a2 (.at g m) e i)::l)
def G6(C:Ctx)(s:S)(t:TypeId)(b:Nat)(i:SE)(g k:Nat):R AV:=
 match s.h.get b with
 |some (.vec el e)=>do
  let j <-ti C t
  bD (Nat.beq g (aq C el).length) "load: size"
  .must (.rel "hole" false (BX g) [e,i]::s.pc) ((Ic e i g (match j.agg with|true=>j.size|false=>1) ((aq C el).drop k) k).bind λl=>ofCells j.agg l)
 |_=>.bad "load: no cells"
def loadAt(C:Ctx)(s:S)(t:TypeId):AV->R AV
 | .bS k e=>match k with
   | .ptr u j=>do
     let i <-ti C t
     let l <-Hd e (match i.agg with|true=>i.size|false=>1) ((aq C u).drop j) 0
     ofCells i.agg l
   |_=>.bad "load: unknown"
 | .ptr b off=>do
   let i <-ti C t
   let l <-rdCells s b off (match i.agg with|true=>i.size|false=>1)
   ofCells i.agg l
 | .gS b i g k=>G6 C s t b i g k
 |_=>.bad "load: not an address"
def dp:List UInt8->List UInt8->Bool
 | []=>λy=>match y with| []=>true|_=>false
 |a::x=>λy=>match y with
  | []=>false
  |b::y=>match Nat.beq a.toNat b.toNat with|true=>dp x y|false=>false
def iEq(a b:Int):Bool:=decide (a=b)
def a7I(a b:BinOp):Bool:=decide (a=b)
def a7p(a b:UnOp):Bool:=decide (a=b)
def kR:List Kd->List Kd->Bool
 | []=>λy=>match y with| []=>true|_::_=>false
 |a::x=>λy=>match y with
  | []=>false
  |b::y=>ny a b&&kR x y
def Lg:Kd->Bool
 | .int _=>true
 | .bool=>true
 | .str=>true
 | .sl _=>true
 |_=>false
def G2:List Nat->List Nat->Bool
 | []=>λy=>match y with| []=>true|_::_=>false
 |a::x=>λy=>match y with
  | []=>false
  |b::y=>Nat.beq a b&&G2 x y
def IU(a b:QV):Bool:=
 match a with
 | .bin x=>match b with| .bin y=>a7I x y|_=>false
 | .un x=>match b with| .un y=>a7p x y|_=>false
 | .conv x=>match b with| .conv y=>n9 x y|_=>false
 | .len=>match b with| .len=>true|_=>false
 | .idx=>match b with| .idx=>true|_=>false
 | .sub=>match b with| .sub=>true|_=>false
 | .ite=>match b with| .ite=>true|_=>false
 | .el=>match b with| .el=>true|_=>false
 | .off x=>match b with| .off y=>Nat.beq x y|_=>false
 | .ld x=>match b with| .ld y=>Nat.beq x y|_=>false
 | .isNil=>match b with| .isNil=>true|_=>false
 | .tk x=>match b with| .tk y=>Nat.beq x y|_=>false
 | .sn=>match b with| .sn=>true|_=>false
 | .at x y=>match b with| .at c d=>Nat.beq x c&&Nat.beq y d|_=>false
 | .nl x=>match b with| .nl y=>kR x y|_=>false
 | .ns x y=>match b with| .ns c d=>Nat.beq x c&&Nat.beq y d|_=>false
 | .zs x y=>match b with| .zs c d=>kR x c&&G2 y d|_=>false
 | .up x y=>match b with| .up c d=>Nat.beq x c&&Nat.beq y d|_=>false
 | .sb=>match b with| .sb=>true|_=>false
 | .bs=>match b with| .bs=>true|_=>false
 | .cat=>match b with| .cat=>true|_=>false
def b5:SE->SE->Bool
 | .var i=>λb=>match b with| .var j=>Nat.beq i j|_=>false
 | .int k n=>λb=>match b with| .int k' m=>n9 k k'&&iEq n m|_=>false
 | .bool x=>λb=>match b with| .bool y=>x==y|_=>false
 | .str x=>λb=>match b with| .str y=>dp x y|_=>false
 | .a1 o x=>λb=>match b with| .a1 T a=>IU o T&&b5 x a|_=>false
 | .a2 o x y=>λb=>match b with| .a2 T a c=>IU o T&&b5 x a&&b5 y c|_=>false
 | .a3 o x y z=>λb=>match b with| .a3 T a c d=>IU o T&&b5 x a&&b5 y c&&b5 z d|_=>false
def seK(C:Ctx)(k:Kd)(v:AV):Option SE:=
 match v with
 | .dh=>match k with
   | .sl t=>some (.a1 (.ns t (aq C t).length) (.bool true))
   |_=>none
 |v=>match ny (zt v) k && !ny k .any with
  |true=>some (cT v)
  |false=>none
def nN(C:Ctx)(a:List Kd):List AV->List Kd->SE->Option SE
 | []=>λ_ e=>some e
 |v::l=>λP e=>match P with
  | []=>match a with
    | []=>none
    |q::P=>match seK C q v with
     |some x=>nN C a l P (.a2 .sn e x)
     |none=>none
  |q::P=>match seK C q v with
   |some x=>nN C a l P (.a2 .sn e x)
   |none=>none
def mv:SE->List SE->SE×List SE
 | .a2 o x y=>λacc=>match o with
   | .sn=>mv x (y::acc)
   |o=>(.a2 o x y,acc)
 | .var i=>λacc=>(.var i,acc)
 | .int k n=>λacc=>(.int k n,acc)
 | .bool b=>λacc=>(.bool b,acc)
 | .str s=>λacc=>(.str s,acc)
 | .a1 o x=>λacc=>(.a1 o x,acc)
 | .a3 o x y z=>λacc=>(.a3 o x y z,acc)
def nr(a:List Kd):List SE->List Kd->List AV
 | []=>λ_=>[]
 |x::l=>λP=>match P with
  | []=>match a with
    | []=>[]
    |q::P=>.bS q x::nr a l P
  |q::P=>.bS q x::nr a l P
def T2(e:SE):Option (Nat×SE):=
 match e with
 | .a2 o _ n=>match o with
   | .tk g=>some (g,n)
   |_=>none
 |_=>none
def nth{α:Type}:List α->Nat->Option α
 | []=>λ_=>none
 |x::l=>λi=>match i with
  |0=>some x
  |n+1=>nth l n
def hJ(C:Ctx)(s:S)(b:Nat)(i:SE)(g k:Nat)(c:List AV):R S:=
 match s.h.get b with
 |some (.vec el y)=>match T2 (mv y []).1 with
  |none=>.bad "store: hole"
  |some p=>match(Nat.beq p.1 g&&b5 p.2 i)&&(Nat.beq g (aq C el).length&&(!Nat.beq g 0&&(Nat.ble (Nat.add k c.length) (mv y []).2.length&&kJ c)))with
   |false=>.bad "store: hole"
   |true=>match nN C (aq C el) ((nr (aq C el) (mv y []).2 (aq C el)).take k++c++(nr (aq C el) (mv y []).2 (aq C el)).drop (Nat.add k c.length)) (aq C el) (mv y []).1 with
    |some a=>.ok ⟨s.h.set b (.vec el a),s.next,s.pc⟩
    |none=>.bad "store: a cell"
 |_=>.bad "store: no cells"
def storeAt(C:Ctx)(s:S)(t:TypeId)(a v:AV):R S:=
 match a with
 | .ptr b off=>do
   let i <-ti C t
   let c <-v.cells
   match Nat.beq c.length i.size with
   |true=>gQ s b off c
   |false=>.bad "store: size"
 | .gS b k g q=>do
   let i <-ti C t
   let c <-v.cells
   match Nat.beq c.length i.size with
   |true=>hJ C s b k g q c
   |false=>.bad "store: size"
 |_=>.bad "store: not an address"
def jS(place:Nat->Option (Nat×Nat)):List (Nat×AV)->List AV->R (List AV)
 | []=>λcells=>.ok cells
 |(i,v)::rest=>λcells=>
  match place i with
  |none=>.bad "fill: place"
  |some (off,size)=>do
   let c <-v.cells
   match Nat.beq c.length size&&Nat.ble (Nat.add off size) cells.length with
   |true=>jS place rest (cells.take off++c++cells.drop (Nat.add off size))
   |false=>.bad "fill: size"
def asInt:AV->R Int
 | .int _ n=>.ok n
 |_=>.bad "int expected"
def zl:AV->R Nat
 | .int _ (.ofNat n)=>.ok n
 |_=>.bad "index: no natural"
def Je(zero:List AV):Nat->List AV
 |0=>[]
 |n+1=>zero++Je zero n
inductive Nx where
 |val (v:AV) (s:S)
 |skip (s:S)
 |enter (f:FuncId) (args:List AV) (s:S)
 |round (l:Nat) (args:List AV) (s:S)
 |defer (d:AD) (s:S)
 |recover (s:S)
 |eH (v:AV) (s:S)
 deriving Inhabited
def jr:List UInt8->List UInt8->Bool
 | []=>λy=>match y with| []=>false|_=>true
 |a::x=>λy=>match y with
  | []=>false
  |b::y=>match Nat.blt a.toNat b.toNat with
   |true=>true
   |false=>match Nat.beq a.toNat b.toNat with|true=>jr x y|false=>false
def intOp:BinOp->IntKind->Int->Int->R AV
 | .add=>λk x y=>.ok (.int k (k.wrap (x+y)))
 | .sub=>λk x y=>.ok (.int k (k.wrap (x-y)))
 | .mul=>λk x y=>.ok (.int k (k.wrap (x*y)))
 | .quo=>λk x y=>match decide (y=0)with|true=>.bad "div by zero" |false=>.ok (.int k (k.wrap (x.tdiv y)))
 | .rem=>λk x y=>match decide (y=0)with|true=>.bad "mod by zero" |false=>.ok (.int k (x.tmod y))
 | .and=>λk x y=>.ok (.int k (k.wrap (BitVec.ofInt k.bits x &&& BitVec.ofInt k.bits y).toNat))
 | .or=>λk x y=>.ok (.int k (k.wrap (BitVec.ofInt k.bits x |||BitVec.ofInt k.bits y).toNat))
 | .xor=>λk x y=>.ok (.int k (k.wrap (BitVec.ofInt k.bits x ^^^ BitVec.ofInt k.bits y).toNat))
 | .andNot=>λk x y=>.ok (.int k (k.wrap (BitVec.ofInt k.bits x &&& ~~~ BitVec.ofInt k.bits y).toNat))
 | .eql=>λ_ x y=>.ok (.bool (decide (x=y)))
 | .neq=>λ_ x y=>.ok (.bool (!decide (x=y)))
 | .lss=>λ_ x y=>.ok (.bool (decide (x<y)))
 | .leq=>λ_ x y=>.ok (.bool (decide (x<=y)))
 | .gtr=>λ_ x y=>.ok (.bool (decide (y<x)))
 | .geq=>λ_ x y=>.ok (.bool (decide (y<=x)))
 |_=>λ_ _ _=>.bad "intOp"
def shiftOp(op:BinOp)(k:IntKind)(x y:Int):R AV:=
 match decide (y<0)with
 |true=>.bad "negative shift"
 |false=>
  match op with
  | .shl=>.ok (.int k (k.wrap (x*2^(min y.toNat k.bits))))
  | .shr=>.ok (.int k (x.fdiv (2^(min y.toNat k.bits))))
  |_=>.bad "shiftOp"
def strOp:BinOp->List UInt8->List UInt8->R AV
 | .add=>λx y=>match Nat.ble (Nat.add x.length y.length) 1099511627776 with|true=>.ok (.str (x++y))|false=>.bad "too long"
 | .eql=>λx y=>.ok (.bool (dp x y))
 | .neq=>λx y=>.ok (.bool (!dp x y))
 | .lss=>λx y=>.ok (.bool (jr x y))
 | .leq=>λx y=>.ok (.bool (jr x y||dp x y))
 | .gtr=>λx y=>.ok (.bool (!(jr x y||dp x y)))
 | .geq=>λx y=>.ok (.bool (!jr x y))
 |_=>λ_ _=>.bad "strOp"
def isRef:AV->Bool
 | .o9=>true
 | .ptr _ _=>true
 | .lY=>true
 | .iface _ _=>true
 |_=>false
def M6(C:Ctx)(s:S):Nat->TypeId->AV->AV->R Bool
 |0=>λ_ _ _=>.bad "eq: depth"
 |d+1=>λt x y=>do
  match <-under C t with
  | .int _=>match x,y with
    | .int k a,.int k' b=>match decide (k=k')with|true=>.ok (decide (a=b))|false=>.bad "eq kinds"
    |_,_=>.bad "eq int"
  | .pointer e=>match x,y with
    | .o9,.o9=>.ok true
    | .ptr _ _,.o9=>.ok false
    | .ptr a i,.ptr b j=>do
      let f <-ti C e
      bD (!Nat.beq f.size 0) "eq: pointers to nothing"
      match Nat.beq a b with
      |true=>.ok (Nat.beq i j)
      |false=>.bad "eq: pointers"
    |_,_=>.bad "eq pointer"
  | .interface _=>match x,y with
    | .lY,.lY=>.ok true
    | .iface _ _,.lY=>.ok false
    | .iface c g,.iface ty h=>
      match Nat.beq c ty with
      |false=>.bad "eq: types"
      |true=>
       match C.P.types[c]? with
       |some i=>match i.comparable with
        |true=>M6 C s d c g h
        |false=>.bad "eq: not comparable"
       |none=>.bad "eq: no type"
    |_,_=>.bad "eq interface"
  |_=>.bad "eq: unsupported"
def bj:BinOp->Bool
 | .shl=>true
 | .shr=>true
 |_=>false
def cg:Operand->Bool
 | .const _=>true
 |_=>false
def CO(c:Bool)(x y:AV):R Unit:=
 match x,y with
 | .lY,.lY=>bD c "eq: two nils"
 |_,_=>.ok ()
def a6u(C:Ctx)(s:S)(op:BinOp)(t:TypeId)(c:Bool)(x y:AV):R AV:=
 match op with
 | .eql=>do CO c x y;let r <-M6 C s 100 t x y;.ok (.bool r)
 | .neq=>do CO c x y;let r <-M6 C s 100 t x y;.ok (.bool (!r))
 |_=>.bad "bin"
def mg(C:Ctx)(s:S)(op:BinOp)(t:TypeId)(c:Bool)(x y:AV):R AV:=
 match x,y with
 | .int k a,.int k' b=>
   match bj op with
   |true=>shiftOp op k a b
   |false=>match decide (k=k')with|true=>intOp op k a b|false=>.bad "bin kinds"
 | .str a,.str b=>strOp op a b
 |x,y=>match isRef x&&isRef y with|true=>a6u C s op t c x y|false=>.bad "bin"
def kV:BinOp->Bool
 | .eql=>true
 | .neq=>true
 | .lss=>true
 | .leq=>true
 | .gtr=>true
 | .geq=>true
 |_=>false
def ma(e:SE):List Fact->Option Bool
 | []=>none
 |f::l=>match f with
  | .tr x=>match b5 x e with
    |true=>some true
    |false=>ma e l
  | .fl x=>match b5 x e with
    |true=>some false
    |false=>ma e l
  | .inr _ _=>ma e l
  | .rel _ _ _ _=>ma e l
abbrev La:=Option Int×Option Int
def y1(a:Option Int)(n:Int):Option Int:=
 match a with
 |none=>some n
 |some m=>match decide (m<n)with|true=>some n|false=>some m
def y5(a:Option Int)(n:Int):Option Int:=
 match a with
 |none=>some n
 |some m=>match decide (n<m)with|true=>some n|false=>some m
def isO(a:Option Int)(c:Int):Bool:=
 match a with
 |none=>false
 |some m=>decide (m=c)
def FY(c:Int)(x:La):La:=
 (match isO x.1 c with|true=>some (c+1)|false=>x.1,match isO x.2 c with|true=>some (c-1)|false=>x.2)
def a67(op:BinOp)(b:Bool)(c:Int)(x:La):La:=
 match op with
 | .eql=>match b with|true=>(y1 x.1 c,y5 x.2 c)|false=>FY c x
 | .neq=>match b with|false=>(y1 x.1 c,y5 x.2 c)|true=>FY c x
 | .lss=>match b with|true=>(x.1,y5 x.2 (c-1))|false=>(y1 x.1 c,x.2)
 | .leq=>match b with|true=>(x.1,y5 x.2 c)|false=>(y1 x.1 (c+1),x.2)
 | .gtr=>match b with|true=>(y1 x.1 (c+1),x.2)|false=>(x.1,y5 x.2 c)
 | .geq=>match b with|true=>(y1 x.1 c,x.2)|false=>(x.1,y5 x.2 (c-1))
 |_=>x
def HD:BinOp->BinOp
 | .lss=>.gtr
 | .leq=>.geq
 | .gtr=>.lss
 | .geq=>.leq
 |op=>op
def mc:BinOp->Bool
 | .eql=>true| .neq=>true| .lss=>true| .leq=>true| .gtr=>true| .geq=>true|_=>false
def DQ(e:SE):Option (BinOp×SE×IntKind×Int):=
 match e with
 | .a2 o x y=>match o with
   | .bin op=>match mc op with
     |false=>none
     |true=>match y with
      | .int k c=>some (op,x,k,c)
      |_=>match x with
       | .int k c=>some (HD op,y,k,c)
       |_=>none
   |_=>none
 |_=>none
def u6(x:SE)(k:IntKind)(e:SE)(b:Bool)(m:La):La:=
 match DQ e with
 |some (op,y,k',c)=>match n9 k k'&&b5 x y with
  |true=>a67 op b c m
  |false=>m
 |none=>m
def mo(x:SE)(k:IntKind):List Fact->La->La
 | []=>λm=>m
 |f::l=>λm=>match f with
  | .tr e=>u6 x k e true (mo x k l m)
  | .fl e=>u6 x k e false (mo x k l m)
  |_=>mo x k l m
def Hk:SE->Bool
 | .a1 o _=>match o with| .len=>true|_=>false
 |_=>false
def EG(a:Option Int)(n:Int):Bool:=match a with|some m=>decide (m<=n)|none=>false
def HA(a:Option Int)(n:Int):Bool:=match a with|some m=>decide (n<=m)|none=>false
def tv(op:BinOp)(c:Int)(m:La):Option Bool:=
 match op with
 | .eql=>match HA m.1 (c+1)||EG m.2 (c-1)with|true=>some false|false=>match HA m.1 c&&EG m.2 c with|true=>some true|false=>none
 | .neq=>match HA m.1 (c+1)||EG m.2 (c-1)with|true=>some true|false=>match HA m.1 c&&EG m.2 c with|true=>some false|false=>none
 | .lss=>match EG m.2 (c-1)with|true=>some true|false=>match HA m.1 c with|true=>some false|false=>none
 | .leq=>match EG m.2 c with|true=>some true|false=>match HA m.1 (c+1)with|true=>some false|false=>none
 | .gtr=>match HA m.1 (c+1)with|true=>some true|false=>match EG m.2 c with|true=>some false|false=>none
 | .geq=>match HA m.1 c with|true=>some true|false=>match EG m.2 (c-1)with|true=>some false|false=>none
 |_=>none
def LV(e:SE)(pc:List Fact):Option (Int×Int):=
 match mo e .i64 pc (none,none)with
 |(a,b)=>match a with
  |some l=>match b with
   |some h=>some (l,h)
   |none=>none
  |none=>none
def a4I(a b:Option (Int×Int)):Option (Int×Int):=
 match a with
 |some (l,h)=>match b with
  |some (O,c)=>match decide (-4611686018427387904<=l+O)&&decide (h+c<=4611686018427387904)with
   |true=>some (l+O,h+c)
   |false=>none
  |none=>none
 |none=>none
def a2o(a b:Option (Int×Int)):Option (Int×Int):=
 match a with
 |some (l,h)=>match b with
  |some (O,c)=>match decide (-4611686018427387904<=l-c)&&decide (h-O<=4611686018427387904)with
   |true=>some (l-c,h-O)
   |false=>none
  |none=>none
 |none=>none
def nh(pc:List Fact):SE->Option (Int×Int)
 | .int k n=>match k with
   | .i64=>match decide (-4611686018427387904<=n)&&decide (n<=4611686018427387904)with
     |true=>some (n,n)
     |false=>none
   |_=>none
 | .a2 o x y=>match LV (.a2 o x y) pc with
   |some r=>some r
   |none=>match o with
    | .bin op=>match op with
      | .add=>a4I (nh pc x) (nh pc y)
      | .sub=>a2o (nh pc x) (nh pc y)
      |_=>none
    |_=>none
 | .var i=>LV (.var i) pc
 | .a1 o x=>LV (.a1 o x) pc
 | .a3 o x y z=>LV (.a3 o x y z) pc
 |_=>none
def inR(e:SE)(lo V:Int)(pc:List Fact):Bool:=
 match nh pc e with
 |some (l,h)=>decide (lo<=l)&&decide (h<=V)
 |none=>false
def a2n(op:BinOp)(x:SE)(k:IntKind)(c:Int)(pc:List Fact):Option Bool:=
 match n9 k .i64 with
 |true=>match nh pc x with
  |some (l,h)=>tv op c (some l,some h)
  |none=>none
 |false=>none
def L2(e:SE)(pc:List Fact):Option Bool:=
 match e with
 | .a2 o x y=>match o with
   | .bin op=>match mc op with
     |true=>match nh pc x with
      |some (l,h)=>match nh pc y with
       |some (O,a)=>tv op 0 (some (l-a),some (h-O))
       |none=>none
      |none=>none
     |false=>none
   |_=>none
 |_=>none
def H9(e:SE)(pc:List Fact):Option Bool:=
 match DQ e with
 |some (op,x,k,c)=>match tv op c (mo x k pc (match Hk x with|true=>(some 0,none)|false=>(none,none)))with
  |some b=>some b
  |none=>a2n op x k c pc
 |none=>L2 e pc
def Ky(e:SE):Option (Bool×SE×SE):=
 match e with
 | .a2 o x y=>match o with
   | .bin op=>match op with
     | .eql=>some (true,x,y)
     | .neq=>some (false,x,y)
     |_=>none
   |_=>none
 |_=>none
def yz(a b:Bool):Bool:=
 match a with
 |true=>b
 |false=> !b
def yq(x y e:SE)(b:Bool):Option Bool:=
 match Ky e with
 |some (p,u,v)=>match(b5 u x&&b5 v y)||(b5 u y&&b5 v x)with
  |true=>some (yz p b)
  |false=>none
 |none=>none
def jn(x y:SE):List Fact->Option Bool
 | []=>none
 |f::l=>match f with
  | .tr e=>match yq x y e true with
    |some b=>some b
    |none=>jn x y l
  | .fl e=>match yq x y e false with
    |some b=>some b
    |none=>jn x y l
  | .inr _ _=>jn x y l
  | .rel _ _ _ _=>jn x y l
def wU(x y:SE):Option (List UInt8×SE):=
 match x with
 | .str s=>some (s,y)
 |_=>match y with
  | .str s=>some (s,x)
  |_=>none
def VA(e:SE):Option (List UInt8×SE):=
 match Ky e with
 |some (p,u,v)=>(match p with
  |true=>wU u v
  |false=>none)
 |none=>none
def Ck(s:List UInt8)(z:SE):List Fact->Bool
 | []=>false
 |f::l=>match f with
  | .tr e=>(match VA e with
    |some (U,a)=>(match b5 a z && !dp U s with
     |true=>true
     |false=>Ck s z l)
    |none=>Ck s z l)
  |_=>Ck s z l
def wH(x y:SE)(pc:List Fact):Bool:=
 match wU x y with
 |some (s,z)=>Ck s z pc
 |none=>false
def Qb(e:SE)(pc:List Fact):Option Bool:=
 match Ky e with
 |some (p,x,y)=>match b5 x y with
  |true=>some p
  |false=>match jn x y pc with
   |some b=>some (yz p b)
   |none=>match wH x y pc with
    |true=>some (yz p false)
    |false=>none
 |none=>none
def Uo(e:SE):Option Bool:=
 match e with
 | .a2 o x y=>match o with
   | .bin op=>match b5 x y with
     |true=>(match op with
      | .lss=>some false
      | .gtr=>some false
      |_=>none)
     |false=>none
   |_=>none
 |_=>none
def mO(e:SE)(pc:List Fact):Option Bool:=
 match ma e pc with
 |some b=>some b
 |none=>match H9 e pc with
  |some b=>some b
  |none=>match Qb e pc with
   |some b=>some b
   |none=>Uo e
def JZ(e:SE):Option SE:=
 match e with
 | .a1 o x=>match o with
   | .un u=>match u with
     | .not=>some x
     |_=>none
   |_=>none
 |_=>none
def sB(e:SE)(pc:List Fact):Option Bool:=
 match JZ e with
 |some x=>match mO x pc with
  |some b=>some (!b)
  |none=>none
 |none=>mO e pc
def QH(s:S)(e:SE):AV:=
 match sB e s.pc with
 |some b=>.bool b
 |none=>.bS .bool e
def yh(e:SE):Bool:=
 match e with
 | .int _ n=>(match n with| .ofNat _=>true| .negSucc _=>false)
 |_=>false
def EE(pc:List Fact)(e:SE):Option Nat:=
 match(mo (.a1 .len e) .i64 pc (some 0,none)).2 with
 |some m=>some m.toNat
 |none=>none
def qa(pc:List Fact):SE->Option Nat
 | .str s=>some s.length
 | .a2 o x y=>(match o with
   | .bin op=>(match op with
     | .add=>(match qa pc x with
       |some a=>(match qa pc y with
        |some b=>some (Nat.add a b)
        |none=>none)
       |none=>none)
     |_=>EE pc (.a2 o x y))
   |_=>EE pc (.a2 o x y))
 | .a3 o x y z=>(match o with
   | .sub=>qa pc x
   |_=>EE pc (.a3 o x y z))
 |e=>EE pc e
def HF(pc:List Fact)(x y:SE):Bool:=
 match qa pc x with
 |some a=>(match qa pc y with
  |some b=>Nat.ble (Nat.add a b) 1099511627776
  |none=>false)
 |none=>false
def G8(e:SE):Option Int:=
 match e with
 | .int k n=>match k with
   | .i64=>some n
   |_=>none
 |_=>none
def Ka(e:SE):SE×Int:=
 match e with
 | .a2 o x y=>match o with
   | .bin op=>match op with
     | .add=>match G8 y with
       |some n=>(x,n)
       |none=>(e,0)
     | .sub=>match G8 y with
       |some n=>(x, -n)
       |none=>(e,0)
     |_=>(e,0)
   |_=>(e,0)
 |_=>(e,0)
def IF(x:SE)(k:Int):SE:=
 match k with
 | .ofNat n=>match n with
   |0=>x
   |n+1=>.a2 (.bin .add) x (.int .i64 (.ofNat (n+1)))
 | .negSucc n=>.a2 (.bin .sub) x (.int .i64 (.ofNat (n+1)))
def LN(k:Int):Bool:=decide (-1073741824<=k)&&decide (k<=1073741824)
def Zj(s:S)(op:BinOp)(x:SE)(c:Int):Option AV:=
 match Ka x with
 |(b,k)=>match inR b (-1152921504606846976) 1152921504606846976 s.pc&&(LN k&&LN c)with
  |false=>none
  |true=>match op with
   | .add=>some (.bS (.int .i64) (IF b (k+c)))
   | .sub=>some (.bS (.int .i64) (IF b (k-c)))
   |_=>none
def Zi(s:S)(op:BinOp)(x y:SE):Option AV:=
 match G8 y with
 |some c=>Zj s op x c
 |none=>match G8 x with
  |some c=>match op with
   | .add=>Zj s .add y c
   |_=>none
  |none=>none
def Hi(e:SE):Bool:=
 match e with
 | .int _ n=>(match n with
   | .ofNat m=>Nat.blt 0 m
   | .negSucc _=>false)
 |_=>false
def Ok(s:S)(op:BinOp)(k k':IntKind)(x y:SE):R AV:=
 match bj op with
 |true=>(match yh y with
  |true=>.ok (.bS (.int k) (.a2 (.bin op) x y))
  |false=>.bad "symInt")
 |false=>match decide (k=k')with
  |false=>.bad "bin kinds"
  |true=>match kV op with
   |true=>.ok (QH s (.a2 (.bin op) x y))
   |false=>match op with
    | .quo=>(match Hi y with
      |true=>.ok (.bS (.int k) (.a2 (.bin op) x y))
      |false=>.bad "symInt")
    | .rem=>(match Hi y with
      |true=>.ok (.bS (.int k) (.a2 (.bin op) x y))
      |false=>.bad "symInt")
    |op=>.ok (.bS (.int k) (.a2 (.bin op) x y))
def symInt(s:S)(op:BinOp)(k k':IntKind)(x y:SE):R AV:=
 match Zi s op x y with
 |some v=>.ok v
 |none=>Ok s op k k' x y
def T8(s:S)(op:BinOp)(x y:SE):R AV:=
 match kV op with
 |true=>.ok (QH s (.a2 (.bin op) x y))
 |false=>match op with
  | .add=>(match HF s.pc x y with
    |true=>.ok (.bS .str (.a2 (.bin op) x y))
    |false=>.bad "long")
  |_=>.bad "strOp"
def P8(s:S)(op:BinOp)(x y:AV):R AV:=
 match zt x with
 | .int k=>match zt y with
   | .int k'=>symInt s op k k' (cT x) (cT y)
   |_=>.bad "bin: unknown"
 | .str=>match zt y with
   | .str=>T8 s op (cT x) (cT y)
   |_=>.bad "bin: unknown"
 |_=>.bad "bin: unknown"
def Wj(C:Ctx)(s:S)(op:BinOp)(t:TypeId)(c:Bool)(x y:AV):R AV:=
 match x with
 | .bS _ _=>P8 s op x y
 |x=>match y with
  | .bS _ _=>P8 s op x y
  |y=>mg C s op t c x y
def pj(i n:SE):List Fact->Bool
 | []=>false
 |f::l=>match f with
  | .inr a b=>match b5 a i&&b5 b n with
    |true=>true
    |false=>pj i n l
  |_=>pj i n l
def Cz(i:SE):List Fact->Bool
 | []=>false
 |f::l=>match f with
  | .inr a _=>match b5 a i with
    |true=>true
    |false=>Cz i l
  |_=>Cz i l
def Vw(e:SE):Option (SE×SE):=
 match e with
 | .a2 o x y=>match o with
   | .bin op=>match op with
     | .lss=>some (x,y)
     |_=>none
   |_=>none
 |_=>none
def F3(m n:SE)(pc:List Fact):Bool:=
 match b5 m n with
 |true=>true
 |false=>match jn m n pc with
  |some b=>b
  |none=>false
def w8(i n:SE)(pc:List Fact):List Fact->Bool
 | []=>false
 |f::l=>match f with
  | .tr e=>match Vw e with
    |some (a,m)=>match b5 a i&&F3 m n pc with
     |true=>true
     |false=>w8 i n pc l
    |none=>w8 i n pc l
  |_=>w8 i n pc l
def Vy(i:SE)(pc:List Fact):Bool:=
 match Cz i pc with
 |true=>true
 |false=>match yh i with
  |true=>true
  |false=>HA (mo i .i64 pc (none,none)).1 0
def gD(i n:SE)(pc:List Fact):Bool:=
 match pj i n pc with
 |true=>true
 |false=>w8 i n pc pc&&Vy i pc
def PM(e:SE)(n:Nat)(pc:List Fact):Bool:=
 match sB (.a2 (.bin .geq) e (.int .i64 (.ofNat n))) pc with
 |some b=>b
 |none=>false
def ph(x:SE)(pc:List Fact):Bool:=EG (mo (.a1 .len x) .i64 pc (some 0,none)).2 4611686018427387904
def mW(e:SE):Option (SE×Nat):=
 match e with
 | .a2 o x y=>match o with
   | .bin op=>match op with
     | .add=>match y with
       | .int k n=>match k with
         | .i64=>match n with
           | .ofNat m=>some (x,m)
           | .negSucc _=>none
         |_=>none
       |_=>none
     |_=>none
   |_=>none
 |_=>none
def yb(i n:SE):List Fact->Bool
 | []=>false
 |f::l=>match f with
  | .fl e=>match b5 e (.a2 (.bin .geq) i n)with
    |true=>true
    |false=>yb i n l
  |_=>yb i n l
def kg(i:SE)(d:Nat)(n:SE):List Fact->Bool
 | []=>false
 |f::l=>match f with
  | .fl e=>(match e with
    | .a2 o a m=>match o with
      | .bin op=>match op with
        | .gtr=>match mW a with
          |some (j,c)=>(match b5 j i&&(b5 m n&&(Nat.blt d c&&Nat.blt c 1000000))with
           |true=>true
           |false=>kg i d n l)
          |none=>kg i d n l
        |_=>kg i d n l
      |_=>kg i d n l
    |_=>kg i d n l)
  | .tr e=>(match e with
    | .a2 o a m=>match o with
      | .bin op=>match op with
        | .leq=>match mW a with
          |some (j,c)=>(match b5 j i&&(b5 m n&&(Nat.blt d c&&Nat.blt c 1000000))with
           |true=>true
           |false=>kg i d n l)
          |none=>kg i d n l
        |_=>kg i d n l
      |_=>kg i d n l
    |_=>kg i d n l)
  |_=>kg i d n l
def Ja(x i:SE)(n:Nat)(a b:SE):Bool:=
 b5 a (.a2 (.bin .sub) (.a1 .len x) i)&&(match b with
  | .int k m=>n9 k .i64&&(match m with| .ofNat c=>Nat.ble n c| .negSucc _=>false)
  |_=>false)
def Uz(x i:SE)(n:Nat)(f:Fact):Bool:=
 match f with
 | .tr e=>(match e with
   | .a2 o a b=>(match o with
     | .bin op=>(match op with
       | .geq=>Ja x i n a b
       |_=>false)
     |_=>false)
   |_=>false)
 | .fl e=>(match e with
   | .a2 o a b=>(match o with
     | .bin op=>(match op with
       | .lss=>Ja x i n a b
       |_=>false)
     |_=>false)
   |_=>false)
 |_=>false
def mH(x i:SE)(n:Nat):List Fact->Bool
 | []=>false
 |f::l=>match Uz x i n f with
  |true=>true
  |false=>mH x i n l
def rC(x:SE)(pc:List Fact)(i:SE):Bool:=
 w8 i (.a1 .len x) pc pc||(yb i (.a1 .len x) pc||(ph x pc&&(kg i 0 (.a1 .len x) pc||mH x i 1 pc)))
def Ct(x:SE)(pc:List Fact)(l:SE):Bool:=
 gD l (.a2 (.bin .add) (.a1 .len x) (.int .i64 (.ofNat 1))) pc||(gD l (.a1 .len x) pc||(gD l (.a2 (.bin .add) (.a1 .len x) (.int .i64 (.ofNat 2))) pc&&(mH x l 0 pc&&ph x pc)))
def mP(x:SE)(pc:List Fact):Nat->SE->Bool
 |0=>λl=>Ct x pc l
 |f+1=>λl=>match Ct x pc l with
  |true=>true
  |false=>match mW l with
   |some (y,n)=>mP x pc f y&&(((Nat.beq n 1&&rC x pc y)||(PM (.a1 .len (.a3 .sub x y (.a1 .len x))) n pc||mH x y n pc))&&ph x pc)
   |none=>false
def Kp(x:SE)(pc:List Fact)(i:SE):Bool:=
 match gD i (.a1 .len x) pc with
 |true=>true
 |false=>match mP x pc 4 i&&rC x pc i with
  |true=>true
  |false=>match mW i with
   |some (j,d)=>ph x pc&&(mP x pc 4 j&&kg j d (.a1 .len x) pc)
   |none=>false
def wZ(e:SE):Bool:=
 match e with
 | .int _ n=>(match n with
   | .ofNat m=>Nat.beq m 0
   | .negSucc _=>false)
 |_=>false
def EM(l h:SE):List Fact->Bool
 | []=>false
 |f::r=>match f with
  | .tr e=>match b5 e (.a2 (.bin .leq) l h)with
    |true=>true
    |false=>EM l h r
  |_=>EM l h r
def VH(l h:SE)(pc:List Fact):Bool:=EM l h pc||b5 l h
def leK(x:SE)(pc:List Fact)(l:SE):Nat->SE->Bool
 |0=>λh=>VH l h pc
 |f+1=>λh=>match VH l h pc with
  |true=>true
  |false=>match mW h with
   |some (y,n)=>leK x pc l f y&&(Nat.blt n 1000000&&(ph x pc&&mP x pc 4 y))
   |none=>false
def Nj(x:SE)(pc:List Fact)(l h:SE):Bool:=
 match mW h with
 |some (y,n)=>b5 y l&&(ph x pc&&((Nat.beq n 1&&Kp x pc l)||(mH x l n pc&&mP x pc 4 l)))
 |none=>false
def Ni(x:SE)(pc:List Fact)(l h:SE):Bool:=
 match h with
 | .int k n=>(match k with
   | .i64=>match n with
     | .ofNat m=>wZ l&&PM (.a1 .len x) m pc
     | .negSucc _=>false
   |_=>false)
 |_=>mP x pc 4 h&&(wZ l||(leK x pc l 4 h&&mP x pc 4 l))
def w6(e:SE):Bool:=
 match e with
 | .a2 o x _=>(match o with
   | .at g k=>Nat.beq g 1&&(Nat.beq k 0&&(match x with
     | .a1 p _=>(match p with| .sb=>true|_=>false)
     |_=>false))
   | .idx=>true
   |_=>false)
 |_=>false
def Xy(e:SE):Bool:=
 match e with
 | .a2 o x y=>(match o with
   | .bin op=>(match op with
     | .shr=>w6 x&&(match y with
       | .int _ n=>(match n with| .ofNat m=>Nat.beq m 4| .negSucc _=>false)
       |_=>false)
     | .quo=>w6 x&&(match y with
       | .int k n=>n9 k .u8&&(match n with| .ofNat m=>Nat.beq m 16| .negSucc _=>false)
       |_=>false)
     | .rem=>w6 x&&(match y with
       | .int k n=>n9 k .u8&&(match n with| .ofNat m=>Nat.beq m 16| .negSucc _=>false)
       |_=>false)
     | .and=>(match y with
       | .int k n=>n9 k .u8&&(match n with| .ofNat m=>Nat.beq m 15| .negSucc _=>false)
       |_=>false)
     |_=>false)
   |_=>false)
 |_=>false
def Ng(x l h:SE):Bool:=
 match x with
 | .str s=>Nat.beq s.length 16&&(Xy l&&b5 h (.a2 (.bin .add) l (.int .u8 (.ofNat 1))))
 |_=>false
def Ny(e:SE):Option (SE×SE):=
 match e with
 | .a2 o x y=>match o with
   | .bin op=>match op with
     | .add=>match y with
       | .a1 p z=>match p with
         | .len=>some (x,z)
         |_=>none
       |_=>none
     |_=>none
   |_=>none
 |_=>none
def yH(b:Bool)(e:SE)(pc:List Fact):Bool:=
 match ma e pc with
 |some c=>match b with
  |true=>c
  |false=> !c
 |none=>false
def HV(x:SE)(pc:List Fact)(l h:SE):Bool:=
 match Ny h with
 |some (y,z)=>b5 y l&&(yH true (.a2 (.bin .geq) (.a2 (.bin .sub) (.a1 .len x) l) (.a1 .len z)) pc||yH false (.a2 (.bin .lss) (.a2 (.bin .sub) (.a1 .len x) l) (.a1 .len z)) pc)&&(ph x pc&&mP x pc 4 l)
 |none=>false
def Qj(x:SE)(pc:List Fact)(l h:SE):Bool:=
 match b5 h (.a1 .len x)with
 |true=>mP x pc 4 l
 |false=>match Nj x pc l h with
  |true=>true
  |false=>match Ni x pc l h with
   |true=>true
   |false=>match HV x pc l h with
    |true=>true
    |false=>Ng x l h
def S.add (s:S) (f:Fact):S:=⟨s.h,s.next,f::s.pc⟩
def yo(s:S)(e:SE):R (Bool×S):=
 match mO e s.pc with
 |some b=>.ok (b,s)
 |none=>.ask 2 λi=>match i with
  |0=>.ok (true,s.add (.tr e))
  |_+1=>.ok (false,s.add (.fl e))
def EO(s:S)(e:SE):R (Bool×S):=
 match JZ e with
 |some x=>(yo s x).bind λr=>.ok (!r.1,r.2)
 |none=>yo s e
def ZO(op:UnOp)(x:AV):R AV:=
 match op,x with
 | .neg,.bS (.int k) e=>.ok (.bS (.int k) (.a1 (.un .neg) e))
 | .neg,.int k n=>intOp .sub k 0 n
 | .not,.bool b=>.ok (.bool (!b))
 |_,_=>.bad "unary"
def j8:List UInt8->List AV
 | []=>[]
 |b::l=>.int .u8 (.ofNat b.toNat)::j8 l
def pM:List AV->R (List UInt8)
 | []=>.ok []
 |v::l=>
  match v with
  | .int .u8 (.ofNat n)=>do let r <-pM l;.ok (UInt8.ofNat n::r)
  |_=>.bad "byte expected"
def Mu(s:S)(b:Nat)(e:TypeId):Nat:=
 match s.h.get b with
 |some (.cells el _ k _ _ _ _)=>match Nat.beq el e with
  |true=>k
  |false=>0
 |_=>0
def oOk(s:S)(b:Nat)(e:TypeId)(n g Ag:Nat):Bool:=Nat.beq g Ag && !Nat.beq g 0&&Nat.ble (Nat.mul n g) (Mu s b e)
def srcCells(s:S)(e:TypeId)(g:Nat):AV->R (Nat×List AV)
 | .dh=>.ok (0,[])
 | .str l=>match Nat.beq g 1 with
   |true=>.ok (l.length,j8 l)
   |false=>.bad "src of a string"
 | .sl b off len _=>do let c <-rdCells s b off (Nat.mul len g);.ok (len,c)
 | .np b _ e0 len Ag=>do
   bD (oOk s b e (Nat.add e0 len) g Ag) "src size"
   let c <-rdCells s b (Nat.mul e0 g) (Nat.mul len g)
   .ok (len,c)
 |_=>.bad "srcCells"
def yv(s:S)(e:TypeId)(g bytes n:Nat)(all:List AV):R Nx:=do
 bD (Nat.ble (Nat.mul n bytes) 68719476736&&Nat.ble n 68719476736&&Nat.beq all.length (Nat.mul n g)) "append: too long"
 .ok (.val (.np s.next 0 0 n g) (s.new (fQ e all)))
def Xe(s:S)(e:TypeId)(g bytes b off len cap n:Nat)(new:List AV):R Nx:=
 match Nat.ble (Nat.add len n) cap with
 |true=>do
  let U <-gQ s b (Nat.add off (Nat.mul len g)) new
  .ok (.val (.sl b off (Nat.add len n) cap) U)
 |false=>do
  let lV <-rdCells s b off (Nat.mul len g)
  yv s e g bytes (Nat.add len n) (lV++new)
def a7d(s:S)(g b pre e0 len n:Nat)(new:List AV):R Nx:=do
 let U <-gQ s b (Nat.mul (Nat.add e0 len) g) new
 .ok (.val (.np b pre e0 (Nat.add len n) g) U)
def Nu(s:S)(e:TypeId)(g bytes b e0 len n:Nat)(cs:Tr AV)(k fz:Nat)(fh:List Nat)(sg:Bool)(new:List AV):R Nx:=do
 bD (Nat.beq (Nat.mul (Nat.add e0 len) g) k&&Nat.ble (Nat.mul (Nat.add len n) bytes) 68719476736&&Nat.ble (Nat.add len n) 68719476736&&Nat.beq new.length (Nat.mul n g)&&Nat.ble fz k&&kJ new) "append: between"
 let lV <-getCells cs (Nat.mul len g) (Nat.mul e0 g)
 .ok (.val (.np s.next 0 0 (Nat.add len n) g)
   ⟨(s.h.set b (.cells e cs k fz fh true sg)).set s.next
     (.cells e (Tr.ofList (lV++new)) (Nat.mul (Nat.add len n) g) (Nat.sub fz (Nat.mul e0 g)) (b::fh) false sg),
     Nat.add s.next 1,s.pc⟩)
def De(s:S)(e:TypeId)(g bytes b pre e0 len n:Nat)(new:List AV):R Nx:=
 match s.h.get b with
 |some (.cells el cs k fz fh false sg)=>do
  bD (Nat.beq el e) "append type"
  match Nat.ble (Nat.mul (Nat.add (Nat.add e0 len) n) g) k with
  |true=>a7d s g b pre e0 len n new
  |false=>Nu s e g bytes b e0 len n cs k fz fh sg new
 |_=>.bad "append: base"
def Ns(C:Ctx)(s:S)(e:TypeId)(g bytes b:Nat)(n:SE)(a:Nat)(new:List AV):R Nx:=
 match s.h.get b with
 |some (.vec el x)=>do
  bD (Nat.beq el e&&(Nat.beq g (aq C e).length&&(Nat.beq new.length (Nat.mul a g)&&(!Nat.beq a 0&&(!Nat.beq g 0&&kJ new))))) "append: cells"
  match nN C (aq C e) new (aq C e) (.a2 (.tk g) x n)with
  |some y=>.must (.rel "grow" false (eL g bytes a) [x,n]::s.pc) (.ok (.val (.gR s.next (.a2 (.bin .add) n (.int .i64 (.ofNat a))) (.var (Nat.add s.next 1))) ⟨(s.h.del b).set s.next (.vec e y),Nat.add (Nat.add s.next 1) 1,.inr n (.a2 (.bin .add) n (.int .i64 (.ofNat a)))::s.pc⟩))
  |none=>.bad "append: a cell"
 |_=>.bad "append: no cells"
def Xc(C:Ctx)(s:S)(e:TypeId)(g bytes:Nat)(base:AV)(n:Nat)(new:List AV):R Nx:=
 match base with
 | .dh=>
   match n with
   |0=>.bad "append: nothing"
   |m+1=>yv s e g bytes (m+1) new
 | .sl b off len cap=>Xe s e g bytes b off len cap n new
 | .np b pre e0 len Ag=>
   match n with
   |0=>.bad "append: nothing"
   |m+1=>
    match Nat.beq g Ag with
    |true=>De s e g bytes b pre e0 len (m+1) new
    |false=>.bad "append: size"
 | .gR b k _=>Ns C s e g bytes b k n new
 |_=>.bad "append: base"
def GJ:Option AV->R (Option Nat)
 |none=>.ok none
 |some v=>do let n <-zl v;.ok (some n)
def Xz(a h m c:Nat)(V b:Option Nat):Bool:=Nat.ble m c&&Nat.ble h m&&Nat.ble a h&&(V.isSome||b.isNone)
def Au(m a off g:Nat):Nat:=
 match Nat.beq m a with
 |true=>off
 |false=>Nat.add off (Nat.mul a g)
def Yj(C:Ctx)(e:TypeId)(b off len cap:Nat)(lo V a:Option Nat):R AV:=do
 let i <-ti C e
 bD (Xz (lo.getD 0) (V.getD len) (a.getD cap) cap V a) "slice bounds"
 .ok (.sl b (Au (a.getD cap) (lo.getD 0) off i.size) (Nat.sub (V.getD len) (lo.getD 0)) (Nat.sub (a.getD cap) (lo.getD 0)))
def Ul(C:Ctx)(s:S)(e:TypeId)(b pre e0 len g:Nat)(lo V a:Option Nat):R AV:=do
 let i <-ti C e
 match a with
 |none=>do
  bD (oOk s b e (Nat.add e0 (V.getD len)) i.size g&&Nat.ble (lo.getD 0) (V.getD len)) "oslice bounds"
  match lo.getD 0 with
  |0=>.ok (.np b pre e0 (V.getD len) g)
  |_+1=>.bad "oslice"
 |some _=>.bad "oslice"
def uF:Kd->Bool
 | .int _=>true
 |_=>false
def Cs:AV->Bool
 | .bS _ _=>true
 |_=>false
def Bi(b:Option AV)(d:SE):R SE:=
 match b with
 |none=>.ok d
 |some v=>match uF (zt v)with
  |true=>.ok (cT v)
  |false=>.bad "slice: unknown bound"
def Hj:Option AV->Bool
 |some v=>Cs v
 |none=>false
def LC(s:S)(d:TypeDesc)(x:AV)(lo V a:Option AV):R AV:=
 match d with
 | .string=>match zt x with
   | .str=>match a with
     |some _=>.bad "slice: of a string"
     |none=>do
      let l <-Bi lo (.int .i64 0)
      let h <-Bi V (.a1 .len (cT x))
      match Qj (cT x) s.pc l h with
      |true=>.ok (.bS .str (.a3 .sub (cT x) l h))
      |false=>.must (.rel "cut" false Mg [l,h,.a1 .len (cT x)]::s.pc) (.ok (.bS .str (.a3 .sub (cT x) l h)))
   |_=>.bad "slice: unknown"
 |_=>.bad "slice: unknown"
def FV(C:Ctx)(s:S)(t:TypeId)(x:AV)(lo V a:Option AV):R AV:=
 match Cs x||Hj lo||Hj V with
 |true=>do
  let d <-under C t
  LC s d x lo V a
 |false=>do
  let lo <-GJ lo
  let V <-GJ V
  let a <-GJ a
  let d <-under C t
  match x with
  | .str l=>
    match d with
    | .string=>do
      bD (Xz (lo.getD 0) (V.getD l.length) l.length l.length V a&&a.isNone) "slice string bounds"
      .ok (.str ((l.take (V.getD l.length)).drop (lo.getD 0)))
    |_=>.bad "slice string type"
  | .sl b off len cap=>
    match d with
    | .slice e=>Yj C e b off len cap lo V a
    |_=>.bad "slice type"
  | .np b pre e0 len g=>
    match d with
    | .slice e=>Ul C s e b pre e0 len g lo V a
    |_=>.bad "oslice"
  |_=>.bad "slice of?"
def NG:Option AV->Bool
 |none=>true
 |some v=>match v with
  | .int _ n=>decide (n=0)
  |_=>false
def Nf(C:Ctx)(s:S)(d:TypeDesc)(b:Nat)(n c:SE)(lo V a:Option AV):R AV:=
 match d with
 | .slice e=>do
   let _ <-ti C e
   match a with
   |some _=>.bad "slice: a capacity"
   |none=>match NG lo with
    |false=>.bad "slice: low"
    |true=>match V with
     |none=>.ok (.gR b n c)
     |some h=>match ny (zt h) (.int .i64)with
      |false=>.bad "slice: high"
      |true=>.must (.rel "cut" false Mg [.int .i64 0,cT h,n]::s.pc) (.ok (.gR b (cT h) c))
 |_=>.bad "slice: of what"
def IW(C:Ctx)(s:S)(t:TypeId)(x:AV)(lo V a:Option AV):R AV:=
 match x with
 | .gR b n c=>do
   let d <-under C t
   Nf C s d b n c lo V a
 |x=>FV C s t x lo V a
def jB(a b:AV):Bool:=
 match a,b with
 | .int _ x,.int _ y=>decide (x=y)
 | .str x,.str y=>dp x y
 | .bool x,.bool y=>x==y
 |_,_=>false
def keyOf(d:TypeDesc)(v:AV):Bool:=
 match d,v with
 | .int k,.int k' _=>decide (k=k')
 | .string,.str _=>true
 | .bool,.bool _=>true
 |_,_=>false
def a3j(d:TypeDesc):List ME->Bool
 | []=>true
 |e::_=>keyOf d e.k
def qb(k:AV):List ME->Option ME
 | []=>none
 |e::J=>match jB k e.k with
  |true=>some e
  |false=>qb k J
def I2(k v:AV):List ME->List ME
 | []=>[]
 |e::J=>match jB k e.k with
  |true=>⟨k,v,e.born⟩::J
  |false=>e::I2 k v J
def Z0(k:AV):List ME->List ME
 | []=>[]
 |e::J=>match jB k e.k with
  |true=>J
  |false=>e::Z0 k J
def pz(k:Nat):List Nat->Bool
 | []=>false
 |e::J=>match Nat.beq k e with
  |true=>true
  |false=>pz k J
def M1(s:S):AV->R (List ME×Nat)
 | .iw=>.ok ([],0)
 | .l5 r=>match s.h.get r with
   |some (.map J c)=>.ok (J,c)
   |_=>.bad "no map"
 |_=>.bad "map expected"
def sC(d:TypeDesc)(k:AV)(J:List ME):Bool:=keyOf d k&&a3j d J
def HY(C:Ctx)(s:S)(e:TypeId)(l:List UInt8):R Nx:=do
 let i <-ti C e
 match i.desc with
 | .int .u8=>do
   bD (Nat.beq i.size 1) "conv: byte size"
   .ok (.val (.np s.next 0 0 l.length 1) (s.new (.cells e (Tr.ofList (j8 l)) l.length 0 [] false true)))
 |_=>.bad "conv string to slice"
def sH(C:Ctx)(s:S)(e:TypeId)(x:AV):R Nx:=do
 let i <-ti C e
 match i.desc with
 | .int .u8=>do
   bD (Nat.beq i.size 1) "conv: byte size"
   let r <-srcCells s e i.size x
   let bs <-pM r.2
   .ok (.val (.str bs) s)
 |_=>.bad "conv slice to string"
def dq(g:Nat)(l:List Dt):Prop:=∃P J n,l=[.ls P J,.val (.int .i64 n)]/\¬(0<=n/\n.toNat*g<=J.length)
def HX(C:Ctx)(s:S)(e:TypeId)(x:SE):R Nx:=do
 let i <-ti C e
 match i.desc with
 | .int .u8=>do
   bD (Nat.beq i.size 1&&kR (aq C e) [.int .u8]) "conv: byte size"
   .ok (.val (.gR s.next (.a1 .len x) (.var (Nat.add s.next 1))) ⟨s.h.set s.next (.vec e (.a1 .sb x)),Nat.add (Nat.add s.next 1) 1,s.pc⟩)
 |_=>.bad "conv string to slice"
def HW(C:Ctx)(s:S)(e:TypeId)(b:Nat)(n:SE):R Nx:=do
 let i <-ti C e
 match i.desc with
 | .int .u8=>
   match s.h.get b with
   |some (.vec el v)=>do
    bD (Nat.beq i.size 1&&(Nat.beq el e&&kR (aq C e) [.int .u8])) "conv: bytes"
    .must (.rel "short" false (dq 1) [v,n]::s.pc) (.ok (.val (.bS .str (.a1 .bs (.a2 (.tk 1) v n))) s))
   |_=>.bad "conv: no bytes"
 |_=>.bad "conv slice to string"
def Gu(C:Ctx)(s:S)(b off:Nat)(u:TypeId):Bool:=
 match s.h.get b with
 |some (.cells el _ n _ _ _ _)=>Nat.blt off n&&rowAt C.P (λt=>sameLayout C.P C.P.depth t u) C.P.depth el (n/C.P.cellsOf el) off 1
 |_=>false
def xp(C:Ctx)(s:S)(u:TypeId)(x:AV):R Nx:=
 match x with
 | .o9=>.ok (.val .o9 s)
 | .ptr b off=>do
   let i <-ti C u
   bD (!Nat.beq i.size 0&&Gu C s b off u) "conv: place"
   .ok (.val (.ptr b off) s)
 |_=>.bad "conv: pointer"
def Wi(C:Ctx)(s:S)(c dst:TypeId)(x:AV):R Nx:=do
 let a <-under C c
 let b <-under C dst
 match b with
 | .int k=>match x with
   | .int _ n=>.ok (.val (.int k (k.wrap n)) s)
   | .bS q e=>match q with
     | .int q=>.ok (.val (match n9 k .i64&&(n9 q .i64&&inR e (-4611686018427387904) 4611686018427387904 s.pc)with
       |true=>.bS (.int .i64) e
       |false=>.bS (.int k) (.a1 (.conv k) e)) s)
     |_=>.bad "conv: unknown"
   |_=>.bad "conv to int"
 | .string=>match x with
   | .bS _ _=>.bad "conv"
   | .str _=>.bad "conv"
   | .int _ _=>.bad "conv"
   | .gR b n _=>match a with
     | .slice e=>HW C s e b n
     |_=>.bad "conv to string"
   |x=>match a with
    | .slice e=>sH C s e x
    |_=>.bad "conv to string"
 | .slice e=>match x with
   | .str l=>HY C s e l
   | .bS q ex=>match q with
     | .str=>HX C s e ex
     |_=>.bad "conv to slice"
   |_=>.bad "conv to slice"
 | .unsafePointer=>match a with
   | .pointer u=>xp C s u x
   |_=>.bad "conv to a plain pointer"
 | .pointer u=>match a with
   | .unsafePointer=>xp C s u x
   |_=>.bad "conv to pointer"
 |_=>.bad "conv"
def FN(ok:Bool)(v:AV):R AV:=
 match ok with
 |true=>.ok (.jy [v,.bool true])
 |false=>.ok v
def a8k(C:Ctx)(x:AV)(a:TypeId)(ok:Bool):R AV:=do
 let d <-under C a
 match x with
 | .iface t v=>match d with
   | .interface _=>.bad "TA"
   |_=>match Nat.beq t a with
    |true=>FN ok v
    |false=>.bad "TA"
 |_=>.bad "TA"
def xh(c:Nat):List UInt8->Nat->Int
 | []=>λ_=> -1
 |b::l=>λi=>match Nat.beq b.toNat c with|true=>.ofNat i|false=>xh c l (Nat.add i 1)
def bytesOf(x:AV):R (List UInt8):=
 match x with
 | .str l=>.ok l
 |_=>.bad "bytesOf"
def rp(f:FuncId):List (FuncId×Ext)->Option Ext
 | []=>none
 |x::l=>match Nat.beq x.1 f with
  |true=>some x.2
  |false=>rp f l
def QN:AV->R Nat
 | .int k (.ofNat c)=>match k with
   | .u8=>match Nat.blt c 256 with
     |true=>.ok c
     |false=>.bad "byte"
   |_=>.bad "byte"
 |_=>.bad "byte"
def preB:List UInt8->List UInt8->Bool
 | []=>λ_=>true
 |b::l=>λm=>match m with
  | []=>false
  |c::m=>match Nat.beq b.toNat c.toNat with
   |true=>preB l m
   |false=>false
def Hm(sub:List UInt8):List UInt8->Nat->Int
 | []=>λk=>match sub with
   | []=>.ofNat k
   |_::_=> -1
 |b::l=>λk=>match preB sub (b::l)with
  |true=>.ofNat k
  |false=>Hm sub l (Nat.add k 1)
def pB(C:Ctx)(s:S)(fn:Func)(e:Ext)(args:List AV):R Nx:=
 match e with
 | .wP=>match args with
   | [x]=>.ok (.val x s)
   |_=>.bad "NoEscape"
 | .indexByte=>match args with
   | [x,c]=>do let l <-bytesOf x;let c <-QN c;.ok (.val (.int .i64 (xh c l 0)) s)
   |_=>.bad "IndexByte"
 | .index _=>.bad "index: no extern"
def WW(C:Ctx)(s:S)(f:FuncId)(args:List AV):R Nx:=
 match C.F.get f with
 |none=>.bad "no function"
 |some fn=>
  match fn.body with
  |some _=>.ok (.enter f args s)
  |none=>match rp f C.X with
   |some e=>pB C s fn e args
   |none=>.bad ("ext "++fn.name)
def sE(C:Ctx)(s:S)(f:AV)(args:List AV):R Nx:=
 match f with
 | .fn g first cap=>
   match g with
   | .func g=>WW C s g (first++args++cap)
   |_=>.bad "call: via"
 | .yield l=>.ok (.round l args s)
 |_=>.bad "call of what"
def uG:TypeDesc->Bool
 | .int _=>true
 |_=>false
def Xd(s:S)(e:TypeId)(g bytes:Nat)(z:List AV)(x:AV):Bool->R (Nat×List AV)
 |true=>do
  let n <-zl x
  bD (Nat.ble (Nat.mul n bytes) 68719476736&&Nat.ble n 68719476736) "append of make: too long"
  .ok (n,Je z n)
 |false=>srcCells s e g x
def FP(int:Bool)(x base:AV):Option (Nat×SE×SE):=
 match int with
 |true=>none
 |false=>match x with
 | .bS k e=>match ny k .str with
   |true=>match base with
    | .gR b n _=>some (b,n,e)
    |_=>none
   |false=>none
 |_=>none
def GF(bytes:Nat)(l:List Dt):Prop:=∃P J n s,l=[.ls P J,.val (.int .i64 n),.val (.string s)]/\¬(0<=n/\n.toNat<=J.length/\(n.toNat+s.size)*bytes<=68719476736/\n.toNat+s.size<=68719476736)
def Nt(C:Ctx)(s:S)(e:TypeId)(g bytes b:Nat)(n x:SE):R Nx:=
 match s.h.get b with
 |some (.vec el v)=>do
  bD (Nat.beq el e&&(Nat.beq g 1&&kR (aq C e) [.int .u8])) "append: bytes"
  .must (.rel "grows" false (GF bytes) [v,n,x]::s.pc) (.ok (.val (.gR s.next (.a2 (.bin .add) n (.a1 .len x)) (.var (Nat.add s.next 1))) ⟨(s.h.del b).set s.next (.vec e (.a2 .cat (.a2 (.tk 1) v n) (.a1 .sb x))),Nat.add (Nat.add s.next 1) 1,s.pc⟩))
 |_=>.bad "append: no cells"
def Dd(C:Ctx)(s:S)(argTypes:List TypeId)(args:List AV):R Nx:=
 match args,argTypes with
 | [base,x],st::a::_=>do
   match <-under C st with
   | .slice e=>do
     let i <-ti C e
     let xd <-under C a
     bD (!Nat.beq i.size 0) "append: of nothing"
     let z <-zeroOf C e
     bD (Nat.beq z.length i.size) "append: zero"
     match FP (uG xd) x base with
     |some (b,n,ex)=>Nt C s e i.size i.bytes b n ex
     |none=>do
      let r <-Xd s e i.size i.bytes z x (uG xd)
      Xc C s e i.size i.bytes base r.1 r.2
   |_=>.bad "append slice"
 |_,_=>.bad "append"
def VF(C:Ctx)(s:S)(d:TypeDesc)(x:AV):R Nat:=
 match d with
 | .string=>match x with
   | .str l=>.ok l.length
   |_=>.bad "len of a string"
 | .slice _=>match x with
   | .dh=>.ok 0
   | .sl _ _ n _=>.ok n
   | .np _ _ _ n _=>.ok n
   |_=>.bad "len of a slice"
 |_=>.bad "len"
def Pj(k:Kd)(e:SE):AV:=
 match e with
 | .int q n=>match k with
   | .int r=>match n9 r q with
     |true=>.int q n
     |false=>.bS k e
   | .any=>.int q n
   |_=>.bS k e
 | .bool b=>match k with
   | .bool=>.bool b
   | .any=>.bool b
   |_=>.bS k e
 | .str s=>match k with
   | .str=>.str s
   | .any=>.str s
   |_=>.bS k e
 |_=>.bS k e
def Cm(d:TypeDesc)(x:AV):Option AV:=
 match d with
 | .string=>match x with
   | .bS k e=>match k with
     | .str=>some (.bS (.int .i64) (.a1 .len e))
     |_=>none
   |_=>none
 | .slice _=>match x with
   | .bS k e=>match k with
     | .sl _=>some (.bS (.int .i64) (.a1 .len e))
     |_=>none
   | .gR _ n _=>some (Pj (.int .i64) n)
   |_=>none
 |_=>none
def KV(C:Ctx)(s:S)(argTypes:List TypeId)(args:List AV):R Nx:=
 match args,argTypes with
 | [x],t::_=>do
   let d <-under C t
   match Cm d x with
   |some v=>.ok (.val v s)
   |none=>do
    let n <-VF C s d x
    .ok (.val (.int .i64 (.ofNat n)) s)
 |_,_=>.bad "len"
def Ua(C:Ctx)(s:S)(u:TypeId)(b off n:Nat):R Nx:=
 match s.h.get b with
 |some (.cells e cs k fz fh false false)=>do
  bD (Nat.ble (Nat.add off n) k&&rowAt C.P (λt=>sameLayout C.P C.P.depth t u) C.P.depth e (k/C.P.cellsOf e) off n&&Nat.ble n 1099511627776) "String of memory: beyond"
  let l <-getCells cs n off
  let bs <-pM l
  .ok (.val (.str bs) ⟨s.h.set b (.cells e cs k (Nat.max fz (Nat.add off n)) fh false false),s.next,s.pc⟩)
 |_=>.bad "String of memory: block"
def UZ(l:List Dt):Prop:=∃P J n,l=[.ls P J,.val (.int .i64 n)]/\¬(0<n/\n.toNat<=J.length/\n<=1099511627776)
def Mf(l:List Dt):Prop:=∃k n,l=[.val (.int k n)]/\¬0<n
def LD(C:Ctx)(s:S)(u:TypeId)(b:Nat)(n:SE):R Nx:=
 match s.h.get b with
 |some (.vec el v)=>do
  let i <-ti C el
  bD (Nat.beq i.size 1&&(kR (aq C el) [.int .u8]&&sameLayout C.P C.P.depth el u)) "String of bytes"
  .must (.rel "strv" false UZ [v,n]::s.pc) (.ok (.val (.bS .str (.a1 .bs (.a2 (.tk 1) v n))) ⟨((s.h.del b).set s.next (.cells el .nil 0 0 [] true false)).del s.next,Nat.add s.next 1,s.pc⟩))
 |_=>.bad "String of bytes: block"
def FC(p n:AV):Option (Nat×SE):=
 match p with
 | .gS b i _ k=>match k with
   |0=>match b5 i (.int .i64 (.ofNat 0))with
    |true=>match n with
     | .bS q e=>match ny q (.int .i64)with
       |true=>some (b,e)
       |false=>none
     |_=>none
    |false=>none
   |_+1=>none
 |_=>none
def Dc(C:Ctx)(s:S)(argTypes:List TypeId)(args:List AV):R Nx:=
 match args,argTypes with
 | [p,n],t::_=>match FC p n with
  |some (b,e)=>do
   match <-under C t with
   | .pointer u=>LD C s u b e
   |_=>.bad "String of bytes: type"
  |none=>do
   let n <-zl n
   match n with
   |0=>.bad "String of nothing"
   |m+1=>match p with
    | .ptr b off=>do
      match <-under C t with
      | .pointer u=>Ua C s u b off (m+1)
      |_=>.bad "String of memory: type"
    |_=>.bad "String of memory"
 |_,_=>.bad "String of memory"
def rA(C:Ctx)(s:S)(argTypes:List TypeId)(args:List AV):R Nx:=
 match args with
 | [.np b _ e0 len g]=>
   match argTypes,len with
   |st::_,_+1=>do
    match <-under C st with
    | .slice e=>do
      let i <-ti C e
      bD (oOk s b e (Nat.add e0 len) i.size g) "SliceData open"
      .ok (.val (.ptr b (Nat.mul e0 g)) s)
    |_=>.bad "SliceData type"
   |_,_=>.bad "SliceData"
 | [.gR b n _]=>.must (.rel "some" false Mf [n]::s.pc) (.ok (.val (.gS b (.int .i64 (.ofNat 0)) 1 0) s))
 |_=>.bad "SliceData"
def EU:Builtin->Ctx->S->List TypeId->List AV->R Nx
 | .append=>Dd
 | .len=>KV
 | .recover=>λ_ s _ _=>.ok (.recover s)
 | .unsafeString=>Dc
 | .unsafeSliceData=>rA
 |_=>λ_ _ _ _=>.bad "builtin"
def sG(C:Ctx):List Field->R (List (Nat×Nat))
 | []=>.ok []
 |f::a=>do
  let i <-ti C f.type
  let l <-sG C a
  .ok ((f.offset,i.size)::l)
def kW(C:Ctx)(t:Tr AV)(x:Operand):R AV:=
 @Operand.rec (λ_=>R AV) (λd=>@Option.rec AV (λ_=>R AV) (.ok (.jy [])) (λv=>qV v) (t.get d))
  (λv=>.ok (AV.ofConst v)) (λg=>@Bool.rec (λ_=>R AV) (.bad "global") (.ok (.ptr g 0)) (Nat.blt g C.nG)) (λf=>.ok (.fn (.func f) [] [])) x
def Wg(C:Ctx)(t:Tr AV):List Operand->R (List AV)
 | []=>.ok []
 |x::l=>do let v <-kW C t x;let r <-Wg C t l;.ok (v::r)
def evO(C:Ctx)(t:Tr AV):Option Operand->R (Option AV)
 |none=>.ok none
 |some x=>do let v <-kW C t x;.ok (some v)
def HN(C:Ctx)(t:Tr AV):List (Nat×Operand)->R (List (Nat×AV))
 | []=>.ok []
 |(i,x)::l=>do let v <-kW C t x;let r <-HN C t l;.ok ((i,v)::r)
abbrev xK:=TypeId->Ctx->Tr AV->S->R Nx
def nq(x:Operand):xK:=λ_ C t s=>do let v <-kW C t x;.ok (.val v s)
def x4(c a b:Operand):xK:=λ_ C t s=>do
 let c <-kW C t c
 match c with
 | .bool true=>do let v <-kW C t a;.ok (.val v s)
 | .bool false=>do let v <-kW C t b;.ok (.val v s)
 |_=>.bad "pick"
def OW(e:TypeId):xK:=λ_ C _ s=>do
 let i <-ti C e
 let z <-R.tc "no zero" i.zero
 bD (Nat.beq z.length i.size) "alloc: size"
 .ok (.val (.ptr s.next 0) (s.new (fQ e z)))
def JR(e:TypeId)(x:Operand):xK:=λ_ C t s=>do
 let v <-kW C t x
 let c <-v.cells
 let i <-ti C e
 bD (Nat.beq c.length i.size) "box: size"
 .ok (.val (.ptr s.next 0) (s.new (fQ e c)))
def su(ty:TypeId)(a:Array (Nat×Operand)):xK:=λ_ C t s=>do
 let zero <-zeroOf C ty
 let ps <-HN C t a.toList
 match <-under C ty with
 | .struct b=>do
   let pl <-sG C b.toList
   let cs <-jS (nth pl) ps zero
   .ok (.val (.agg cs) s)
 | .array _ e=>do
   let i <-ti C e
   let cs <-jS (λk=>some (Nat.mul k i.size,i.size)) ps zero
   .ok (.val (.agg cs) s)
 |_=>.bad "build"
def zL(C:Ctx)(e:TypeId)(n g:Nat):R (List AV):=
 match Nat.beq n 0 with
 |true=>.ok []
 |false=>do
  let z <-zeroOf C e
  bD (Nat.beq z.length g) "zero size"
  .ok z
def jh(ty:TypeId)(len:Nat)(a:Array (Nat×Operand)):xK:=λ_ C t s=>do
 match <-under C ty with
 | .slice e=>do
   let i <-ti C e
   bD (Nat.ble (Nat.mul len i.size) 16777216) "buildSlice: too long"
   let zero <-zL C e (Nat.mul len i.size) i.size
   let ps <-HN C t a.toList
   let cs <-jS (λk=>some (Nat.mul k i.size,i.size)) ps (Je zero len)
   .ok (.val (.sl s.next 0 len len) (s.new (fQ e cs)))
 |_=>.bad "buildSlice"
def x5(ty:TypeId)(a:Operand):xK:=λ_ C t s=>do let p <-kW C t a;let v <-loadAt C s ty p;.ok (.val v s)
def o6(ty:TypeId)(a x:Operand):xK:=λ_ C t s=>do let p <-kW C t a;let v <-kW C t x;let U <-storeAt C s ty p v;.ok (.skip U)
def jP(x:Operand):xK:=λ_ C t s=>do
 let v <-kW C t x
 match v with
 | .ptr _ _=>.ok (.val v s)
 |_=>.bad "nilCheck"
def Ev(op:BinOp)(ty:TypeId)(x y:Operand):xK:=λ_ C t s=>do
 let a <-kW C t x;let b <-kW C t y;let v <-Wj C s op ty (cg x||cg y) a b;.ok (.val v s)
def RI(op:UnOp)(x:Operand):xK:=λ_ C t s=>do let a <-kW C t x;let v <-ZO op a;.ok (.val v s)
def x7(b dst:TypeId)(x:Operand):xK:=λ_ C t s=>do let a <-kW C t x;Wi C s b dst a
def Vm:TypeDesc->R Unit
 | .interface _=>.bad "makeInterface"
 |_=>.ok ()
def sr(ty:TypeId)(x:Operand):xK:=λ_ C t s=>do
 let d <-under C ty
 Vm d
 let v <-kW C t x
 .ok (.val (.iface ty v) s)
def x6(fn:Fn)(first cap:Array Operand):xK:=λ_ C t s=>do
 bD (ji fn) "makeFunc"
 let a <-Wg C t first.toList
 let b <-Wg C t cap.toList
 .ok (.val (.fn fn a b) s)
def JP(ty:TypeId)(r:Option Operand):xK:=λ_ C t s=>
 match r with
 |none=>.ok (.val (.l5 s.next) (s.new (.map [] 0)))
 |some x=>do
  match <-under C ty with
  | .map _ _=>do
    let v <-kW C t x
    let _ <-asInt v
    .ok (.val (.l5 s.next) (s.new (.map [] 0)))
  |_=>.bad "makeMap"
def sk(ty:TypeId)(x:Operand)(lo V d:Option Operand):xK:=λ_ C t s=>do
 let v <-kW C t x
 let a <-evO C t lo
 let b <-evO C t V
 let c <-evO C t d
 let r <-IW C s ty v a b c
 .ok (.val r s)
def iF(ty:TypeId)(x:Operand)(f:Nat):xK:=λ_ C t s=>do
 match <-under C ty with
 | .struct a=>do
   let fd <-R.tc "fieldAddr field" (nth a.toList f)
   let i <-ti C fd.type
   bD (!Nat.beq i.size 0) "fieldAddr: size 0"
   let v <-kW C t x
   match v with
   | .ptr b off=>.ok (.val (.ptr b (Nat.add off fd.offset)) s)
   |_=>.bad "fieldAddr ptr"
 |_=>.bad "fieldAddr"
def X7(C:Ctx)(s:S)(d:TypeDesc)(t:TypeId)(e:SE)(i:AV):R AV:=do
 bD (uF (zt i)) "indexAddr: unknown index"
 match d with
 | .slice a=>do
   let q <-ti C a
   bD (Nat.beq a t && !Nat.beq q.size 0&&Nat.beq q.size (aq C t).length) "indexAddr: unknown element"
   match gD (cT i) (.a1 .len e) s.pc with
   |true=>.ok (.bS (.ptr t 0) (.a2 .el e (cT i)))
   |false=>.must (.rel "out" false jg [cT i,.a1 .len e]::s.pc) (.ok (.bS (.ptr t 0) (.a2 .el e (cT i))))
 |_=>.bad "indexAddr: unknown"
def XU(C:Ctx)(s:S)(d:TypeDesc)(b:Nat)(n:SE)(i:AV):R AV:=do
 bD (uF (zt i)) "indexAddr: unknown index"
 match d with
 | .slice a=>do
   let q <-ti C a
   match gD (cT i) n s.pc with
   |true=>.ok (.gS b (cT i) q.size 0)
   |false=>.must (.rel "out" false jg [cT i,n]::s.pc) (.ok (.gS b (cT i) q.size 0))
 |_=>.bad "indexAddr: unknown"
def iE(ty:TypeId)(x ix:Operand):xK:=λ_ C t s=>do
 let i0 <-kW C t ix
 let v <-kW C t x
 let d <-under C ty
 match v with
 | .bS k e=>match k with
   | .sl u=>do
     let r <-X7 C s d u e i0
     .ok (.val r s)
   |_=>.bad "indexAddr: unknown"
 | .gR b n _=>do
   let r <-XU C s d b n i0
   .ok (.val r s)
 | .ptr b off=>.bad "indexAddr ptr"
 |v=>do
  let i <-zl i0
  match v with
   | .sl b off len _=>match d with
     | .slice e=>match Nat.blt i len with
       |true=>do let e <-ti C e;.ok (.val (.ptr b (Nat.add off (Nat.mul i e.size))) s)
       |false=>.bad "index slice"
     |_=>.bad "indexAddr slice"
   | .np b _ e0 len g=>match d with
     | .slice a=>match Nat.blt i len with
       |true=>do
        let e <-ti C a
        bD (oOk s b a (Nat.add e0 len) e.size g) "index size"
        .ok (.val (.ptr b (Nat.mul (Nat.add e0 i) g)) s)
       |false=>.bad "index oslice"
     |_=>.bad "indexAddr oslice"
   |_=>.bad "indexAddr"
def FO(s:S)(d:TypeDesc)(v i:AV):R AV:=do
 bD (uF (zt i)) "index: unknown index"
 match d with
 | .string=>match zt v with
   | .str=>match Kp (cT v) s.pc (cT i)with
     |true=>.ok (.bS (.int .u8) (.a2 .idx (cT v) (cT i)))
     |false=>.must (.rel "out" false jg [cT i,.a1 .len (cT v)]::s.pc) (.ok (.bS (.int .u8) (.a2 .idx (cT v) (cT i))))
   |_=>.bad "index: unknown"
 |_=>.bad "index: unknown"
def sq(ty:TypeId)(x ix:Operand):xK:=λ_ C t s=>do
 let i0 <-kW C t ix
 let v <-kW C t x
 match Cs i0||Cs v with
 |true=>do
  let d <-under C ty
  let r <-FO s d v i0
  .ok (.val r s)
 |false=>do
 let i <-zl i0
 match v with
 | .str l=>do
   match <-under C ty with
   | .string=>match nth l i with
     |some b=>.ok (.val (.int .u8 (.ofNat b.toNat)) s)
     |none=>.bad "index string"
   |_=>.bad "index string type"
 |_=>.bad "index"
def iW(ok b:Bool)(v:AV):AV:=
 match ok with
 |true=>.jy [v,.bool b]
 |false=>v
def pA(s:S)(e:SE):List ME->R (Option ME×S)
 | []=>.ok (none,s)
 |x::l=>do
  let r <-EO s (.a2 (.bin .eql) e (cT x.k))
  match r.1 with
  |true=>.ok (some x,r.2)
  |false=>pA r.2 e l
def hY(d:TypeDesc):List ME->Bool
 | []=>true
 |x::l=>keyOf d x.k&&hY d l
def Bh(d:TypeDesc)(k:AV)(J:List ME):Option SE:=
 match d with
 | .string=>match k with
   | .bS a e=>match a with
     | .str=>match hY d J with
       |true=>some e
       |false=>none
     |_=>none
   |_=>none
 | .int q=>match k with
   | .bS a e=>match a with
     | .int b=>match n9 q b&&hY d J with
       |true=>some e
       |false=>none
     |_=>none
   |_=>none
 |_=>none
def n0(ty:TypeId)(x k:Operand)(ok:Bool):xK:=λ_ C t s=>do
 match <-under C ty with
 | .map a e=>do
   let d <-under C a
   let m <-kW C t x
   let m <-M1 s m
   let k <-kW C t k
   match Bh d k m.1 with
   |some se=>do
    let r <-pA s se m.1
    match r.1 with
    |some e=>.ok (.val (iW ok true e.v) r.2)
    |none=>do
     let v <-mB C e
     .ok (.val (iW ok false v) r.2)
   |none=>do
    bD (sC d k m.1) "lookup: key"
    match qb k m.1 with
    |some e=>.ok (.val (iW ok true e.v) s)
    |none=>do
     let v <-mB C e
     .ok (.val (iW ok false v) s)
 |_=>.bad "lookup"
def YP(s:S)(r:Nat)(k v:AV)(m:List ME×Nat):S:=
 match qb k m.1 with
 |some _=>⟨s.h.set r (.map (I2 k v m.1) m.2),s.next,s.pc⟩
 |none=>⟨s.h.set r (.map (m.1++[⟨k,v,m.2⟩]) (Nat.add m.2 1)),s.next,s.pc⟩
def eB(ty:TypeId)(m k x:Operand):xK:=λ_ C t s=>do
 match <-under C ty with
 | .map a _=>do
   let d <-under C a
   let b <-kW C t m
   match b with
   | .l5 r=>do
     let m <-M1 s (.l5 r)
     let k <-kW C t k
     let x <-kW C t x
     bD (sC d k m.1) "update: key"
     .ok (.skip (YP s r k x m))
   |_=>.bad "mapUpdate"
 |_=>.bad "mapUpdate"
def RJ(x:Operand)(a:TypeId)(ok:Bool):xK:=λ_ C t s=>do let v <-kW C t x;let r <-a8k C v a ok;.ok (.val r s)
def lz(x:Operand)(i:Nat):xK:=λ_ C t s=>do
 let v <-kW C t x
 match v with
 | .jy l=>do let r <-R.tc "extract" (nth l i);.ok (.val r s)
 |_=>.bad "extract"
def ux(c:Call):xK:=λ_ C t s=>do
 let args <-Wg C t c.args.toList
 match c.callee with
 | .builtin b=>EU b C s c.argTypes.toList args
 | .value f=>do let f <-kW C t f;sE C s f args
 | .invoke r name=>.bad "invoke"
def wI(x:Operand):xK:=λ_ C t s=>do
 let v <-kW C t x
 match v with
 | .iface t v=>.ok (.eH (.iface t v) s)
 |_=>.bad "panic nil"
def kP:xK:=λ_ _ _ _=>.bad "op"
def nA(o:Op):xK:=
 @Op.rec (λ_=>xK)
  nq nq x4 OW JR su jh eB x5 o6 (λ_=>kP) (λ_=>kP) jP
  (λop t x y _=>Ev op t x y) (λop _ x=>RI op x) x7 (λ_ _=>kP) sr x6 JP (λ_ _=>kP) (λ_ _ _=>kP) sk iF (λ_ _ _=>kP)
  iE sq n0 eB (λ_ _ _=>kP) (λ_ _ _ _=>kP) (λ_ _=>kP) (λ_ _=>kP) (λ_=>kP) (λx _ a ok=>RJ x a ok) lz ux
  (λ_=>kP) (λ_=>kP) wI (λ_ _=>kP) (λ_ _ _=>kP) (λ_ _=>kP) o
end Go.Proofs.YtokipodjggomfaaGreatDoor.Abs
namespace Go.Proofs.YtokipodjggomfaaGreatDoor.Abs
open Go
inductive PI where
 |act (i:Nat)|ev (i:Nat)|re (i:Nat)|al (i:Nat)|on (i:Nat)
 deriving Inhabited
inductive PS where
 |act (i:Nat) (o:Oper)|ev (i:Nat) (o:Oper)|re (i:Nat) (o:Oper)|al (i:Nat) (o:Oper)|on (i:Nat)
 deriving Inhabited
inductive PK where
 |act|ev|al
 deriving Inhabited
def sK(e:Edge):Bool:=
 match e.ground with
 | .textOnly _=>false
 | .gcOnly _=>false
 |_=>true
def bit(i:Nat):Nat:=Nat.shiftLeft 1 i
def has(m i:Nat):Bool:=Nat.beq (Nat.land (Nat.shiftRight m i) 1) 1
def sub(a b:Nat):Bool:=Nat.beq (Nat.lor a b) b
def gf(a b:Nat):Bool:=Nat.beq (Nat.land a b) 0
def B7:List Nat->Nat->Nat
 | []=>λ_=>0
 |x::l=>λi=>match i with
  |0=>x
  |n+1=>B7 l n
def jj(M:List Nat):List Edge->Nat
 | []=>0
 |e::l=>match sK e with
  |true=>Nat.lor (Nat.lor (bit e.on) (B7 M e.on)) (jj M l)
  |false=>jj M l
def ec:List Oper->List Nat->List Nat
 | []=>λacc=>acc
 |o::l=>λacc=>ec l (acc++[jj acc o.after.toList])
def opM:List Operand->Nat
 | []=>0
 |x::l=>match x with
  | .tmp t=>Nat.lor (bit t) (opM l)
  |_=>opM l
def CR(o:Oper):Nat:=
 match o.dst with
 |some d=>bit d
 |none=>0
def MZ(ops:List Oper)(o:Oper):Nat:=
 match o.guard with
 |some (g,_)=>match nth ops g with
  |some p=>CR p
  |none=>0
 |none=>0
def jA(ops:List Oper)(o:Oper):Nat:=Nat.lor (opM o.op.operands.toList) (MZ ops o)
def a6v:Builtin->Bool
 | .len=>true
 |_=>false
def mR:Op->Bool
 | .move _=>true
 | .pick _ _ _=>true
 | .build _ _=>true
 | .load _ _=>true
 | .nilCheck _=>true
 | .binOp _ _ _ _ _=>true
 | .unOp _ _ _=>true
 | .convert _ _ _=>true
 | .makeInterface _ _=>true
 | .makeFunc _ _ _=>true
 | .slice _ _ _ _ _=>true
 | .fieldAddr _ _ _=>true
 | .indexAddr _ _ _=>true
 | .index _ _ _=>true
 | .lookup _ _ _ _=>true
 | .typeAssert _ _ _ _=>true
 | .extract _ _=>true
 | .call c=>match c.callee with
   | .builtin b=>a6v b
   |_=>false
 |_=>false
def zm:Op->Bool
 | .alloc _=>true
 | .box _ _=>true
 | .buildSlice _ _ _=>true
 | .makeMap _ r=>match r with
   |none=>true
   |some _=>false
 |_=>false
structure PO where
 i:Nat
 before:Nat
 look:Nat
 dst:Nat
 kind:PK
 deriving Inhabited
def jc(o:Op):PK:=
 match mR o with
 |true=>.ev
 |false=>match zm o with
  |true=>.al
  |false=>.act
def posOf(ops:List Oper)(M:List Nat):List Oper->Nat->List PO
 | []=>λ_=>[]
 |o::l=>λi=>⟨i,B7 M i,jA ops o,CR o,jc o.op⟩::posOf ops M l (Nat.add i 1)
def PU(x:PO):List PO->Bool
 | []=>true
 |y::l=>match Nat.beq x.i y.i||gf x.dst (Nat.lor y.look y.dst)||(has y.before x.i&&gf x.dst y.dst)with
  |true=>PU x l
  |false=>false
def yG(all:List PO):List PO->List PO
 | []=>[]
 |x::l=>(match x.kind with
  | .act=>x
  |_=>match PU x all with
   |true=>x
   |false=>⟨x.i,x.before,x.look,x.dst,.act⟩)::yG all l
def QU:List PO->Nat
 | []=>0
 |x::l=>match x.kind with
  | .act=>Nat.lor (bit x.i) (QU l)
  |_=>QU l
def r9(acts done:Nat):List PO->List PI
 | []=>[]
 |x::l=>match x.kind with
  | .act=>r9 acts done l
  | .ev=>match Nat.beq (Nat.land x.before acts) done with
    |true=>.ev x.i::r9 acts done l
    |false=>r9 acts done l
  | .al=>match Nat.beq (Nat.land x.before acts) done with
    |true=>.al x.i::r9 acts done l
    |false=>r9 acts done l
def VV:List PI->Bool
 | []=>false
 |x::l=>match x with
  | .al _=>true
  |_=>VV l
def YE(acts done ahead:Nat)(anew:Bool):List PO->List PI
 | []=>[]
 |x::l=>match x.kind with
  | .ev=>match !has ahead x.i&&sub (Nat.land x.before acts) done&&(anew || !Nat.beq (Nat.land x.before acts) done)with
    |true=>.re x.i::YE acts done ahead anew l
    |false=>YE acts done ahead anew l
  |_=>YE acts done ahead anew l
def U8(before a:Nat):List PO->List PI
 | []=>[]
 |x::l=>match x.kind with
  | .al=>match has before x.i && !has a x.i with
    |true=>.on x.i::U8 before a l
    |false=>U8 before a l
  |_=>U8 before a l
def phase(all:List PO)(acts done ahead:Nat)(first:Bool):List PI:=
 let f:=r9 acts done all
 f++(match first && !VV f with
  |true=>[]
  |false=>YE acts done ahead (VV f) all)
def L6(all:List PO)(acts n:Nat):List PO->Nat->Nat->List PI
 | []=>λb a=>U8 (Nat.sub (bit n) 1) a all
 |x::l=>λdone a=>match x.kind with
  | .act=>U8 x.before a all++(.act x.i::(phase all acts (Nat.lor done (bit x.i)) x.before false++L6 all acts n l (Nat.lor done (bit x.i)) (Nat.lor a x.before)))
  |_=>L6 all acts n l done a
def ei(ops:List Oper):List PO:=posOf ops (ec ops []) ops 0
def wo(n:Nat)(all a:List PO):List PI:=phase all (QU all) 0 0 true++L6 all (QU all) n a 0 0
inductive E7 where
 |one (p:List PI)
 |two (pre:List PI) (x y:Nat) (ra rb:List Nat)
 deriving Inhabited
def fV(i m:Nat):List PO->List PO
 | []=>[]
 |x::l=>(match Nat.beq x.i i with
  |true=>⟨x.i,Nat.lor x.before m,x.look,x.dst,x.kind⟩
  |false=>x)::fV i m l
def Wt(i:Nat):List PO->List PO
 | []=>[]
 |x::l=>match Nat.beq x.i i with
  |true=>l
  |false=>x::Wt i l
def Ii:List PO->List PO
 | []=>[]
 |x::l=>match x.kind with
  | .act=>x::Ii l
  |_=>Ii l
def Pt:List PO->Option (PO×PO)
 | []=>none
 |x::l=>match l with
  | [y]=>some (x,y)
  |l=>Pt l
def F8:List PI->Option (List Nat)
 | []=>none
 |p::l=>match p with
  | .re i=>(F8 l).map λq=>i::q
  | .act _=>match l with
    | []=>some []
    |_=>none
  |_=>none
def vP(x:Nat):List PI->Option (List PI×List PI)
 | []=>none
 |p::l=>match p with
  | .act a=>match Nat.beq a x with
    |true=>some ([],l)
    |false=>(vP x l).map λq=>(p::q.1,q.2)
  |p=>(vP x l).map λq=>(p::q.1,q.2)
def YT(n:Nat)(all:List PO)(x y:PO):E7:=
 let a:=fV y.i (Nat.lor (bit x.i) x.before) all
 let b:=fV x.i (Nat.lor (bit y.i) y.before) all
 match vP x.i (wo n a a),vP y.i (wo n b (Wt x.i b++[⟨x.i,Nat.lor x.before (Nat.lor (bit y.i) y.before),x.look,x.dst,x.kind⟩]))with
 |some (pre,c),some (_,d)=>match F8 c,F8 d with
  |some ra,some rb=>.two pre x.i y.i ra rb
  |_,_=>.one []
 |_,_=>.one []
structure Dl where
 done:Nat
 acts:Nat
 uM:Nat
 als:Nat
 JT:Nat
 fj:Nat
 run:Nat
 last:Nat
 fl:List PO
 deriving Inhabited
def rD(x:PO):List PO->Bool
 | []=>true
 |y::l=>match has x.before y.i||(gf x.dst (Nat.lor y.look y.dst)&&gf x.look y.dst)with
  |true=>rD x l
  |false=>false
def xD(x:PO):List PO->Bool
 | []=>true
 |y::l=>match gf x.dst (Nat.lor y.look y.dst)&&(has x.before y.i||gf x.look y.dst)with
  |true=>xD x l
  |false=>false
def Vk(s:Dl)(x:PO):Bool:=
 !has s.done x.i&&sub x.before s.done&&sub s.acts x.before&&sub s.run x.before&&Nat.beq s.fj 0&&rD x s.fl
def Vj(s:Dl)(x:PO):Bool:=
 !has s.done x.i&&sub x.before s.done&&sub s.acts x.before&&Nat.beq s.run 0&&gf x.dst x.look&&xD x s.fl
def minus(a b:Nat):Nat:=Nat.xor (Nat.lor a b) b
def cE:List PO->Nat->Option PO
 | []=>λ_=>none
 |x::l=>λi=>match i with
  |0=>some x
  |n+1=>cE l n
def bb(all:List PO)(n:Nat):List PI->Dl->Bool
 | []=>λs=>Nat.beq s.done (Nat.sub (bit n) 1)&&Nat.beq s.JT s.als&&Nat.beq s.fj 0
 |p::l=>λs=>match p with
  | .act i=>match cE all i with
    |none=>false
    |some x=>Vk s x&&bb all n l ⟨Nat.lor s.done (bit i),Nat.lor s.acts (bit i),s.uM,s.als,s.JT,minus s.uM x.before,0,x.before,s.fl⟩
  | .ev i=>match cE all i with
    |none=>false
    |some x=>Vj s x&&(match x.kind with| .ev=>true|_=>false)&&bb all n l ⟨Nat.lor s.done (bit i),s.acts,Nat.lor s.uM (bit i),s.als,s.JT,s.fj,0,s.last,x::s.fl⟩
  | .al i=>match cE all i with
    |none=>false
    |some x=>Vj s x&&(match x.kind with| .al=>true|_=>false)&&bb all n l ⟨Nat.lor s.done (bit i),s.acts,s.uM,Nat.lor s.als (bit i),s.JT,minus s.uM s.last,0,s.last,x::s.fl⟩
  | .re i=>has s.uM i&&Nat.beq s.run 0&&bb all n l ⟨s.done,s.acts,s.uM,s.als,s.JT,minus s.fj (bit i),0,s.last,s.fl⟩
  | .on i=>has s.als i && !has s.JT i&&Nat.beq s.fj 0&&bb all n l ⟨s.done,s.acts,s.uM,s.als,Nat.lor s.JT (bit i),0,Nat.lor s.run (bit i),s.last,s.fl⟩
def below:List PO->Bool
 | []=>true
 |x::l=>match Nat.blt x.before (bit x.i)with
  |true=>below l
  |false=>false
def GR(all:List PO)(n:Nat)(a:List PI):Bool:=bb all n a ⟨0,0,0,0,0,0,0,0,[]⟩
def iX(x y:Nat)(ra:List Nat):List PI:=.act x::(ra.map .re++[.act y])
def Vi(all:List PO)(n x y:Nat)(ra rb:List Nat)(pre:List PI):Bool:=
 match cE all x,cE all y with
 |some a,some py=> !Nat.beq x y&&GR (fV y (Nat.lor (bit x) a.before) all) n (pre++iX x y ra)&&GR (fV x (Nat.lor (bit y) py.before) all) n (pre++iX y x rb)
 |_,_=>false
def BK(ops:List Oper)(p:E7):Bool:=
 below (ei ops)&&(match p with
  | .one a=>GR (ei ops) ops.length a
  | .two pre x y ra rb=>Vi (ei ops) ops.length x y ra rb pre)
def Hy:List Oper->Nat
 | []=>0
 |o::l=>match o.guard with
  |some p=>Nat.lor (bit p.1) (Hy l)
  |none=>Hy l
def yl(m:Nat):List PO->List PO
 | []=>[]
 |x::l=>(match has m x.i with
  |true=>⟨x.i,x.before,x.look,x.dst,.act⟩
  |false=>x)::yl m l
def Ap(n:Nat)(all:List PO):E7:=
 match Pt (Ii all)with
 |none=>.one (wo n all all)
 |some (x,y)=>match has y.before x.i with
  |true=>.one (wo n all all)
  |false=>YT n all x y
def qK(ops:List Oper):E7:=
 let all:=yG (ei ops) (ei ops)
 match Hy ops with
 |0=>Ap ops.length all
 |m+1=>match BK ops (Ap ops.length (yl (m+1) all))with
  |true=>Ap ops.length (yl (m+1) all)
  |false=>Ap ops.length all
def h9(ops:List Oper):PI->Option PS
 | .act i=>(nth ops i).map (.act i)
 | .ev i=>(nth ops i).map (.ev i)
 | .re i=>(nth ops i).map (.re i)
 | .al i=>(nth ops i).map (.al i)
 | .on i=>some (.on i)
def link(ops:List Oper):List PI->List PS
 | []=>[]
 |p::l=>match h9 ops p with
  |some x=>x::link ops l
  |none=>link ops l
def VL(a b:IntKind):Bool:=decide (a=b)
def a1t(a b:Int):Bool:=decide (a=b)
def UL(a b:Value):Bool:=
 match a,b with
 | .pointer (some x),.pointer (some y)=>Nat.beq x.block y.block&&Nat.beq x.off y.off&&x.spot.isNone&&y.spot.isNone
 |_,_=>false
mutual
def eK:AV->AV->Bool
 | .int k n,.int k' d=>VL k k'&&a1t n d
 | .bool a,.bool b=>a==b
 | .str a,.str b=>dp a b
 | .ptr a i,.ptr b j=>Nat.beq a b&&Nat.beq i j
 | .o9,.o9=>true
 | .sl b o l c,.sl N T O c'=>Nat.beq b N&&Nat.beq o T&&Nat.beq l O&&Nat.beq c c'
 | .np b p e l z,.np N p' m O h=>Nat.beq b N&&Nat.beq p p'&&Nat.beq e m&&Nat.beq l O&&Nat.beq z h
 | .dh,.dh=>true
 | .l5 r,.l5 q=>Nat.beq r q
 | .iw,.iw=>true
 | .fn (.func f) a b,.fn (.func g) a' N=>Nat.beq f g&&tw a a'&&tw b N
 | .yield l,.yield O=>Nat.beq l O
 | .p0,.p0=>true
 | .iface t v,.iface Q s=>Nat.beq t Q&&eK v s
 | .lY,.lY=>true
 | .bS k i,.bS k' j=>ny k k'&&b5 i j
 | .raw a,.raw b=>UL a b
 | .agg a,.agg b=>tw a b
 | .jy a,.jy b=>tw a b
 | .gR b n c,.gR N d c'=>Nat.beq b N&&(b5 n d&&b5 c c')
 | .gS b i z k,.gS N u h k'=>Nat.beq b N&&(b5 i u&&(Nat.beq z h&&Nat.beq k k'))
 |_,_=>false
def tw:List AV->List AV->Bool
 | [],[]=>true
 |a::x,b::y=>eK a b&&tw x y
 |_,_=>false
end
def Vl(s:S):Nx->R AV
 | .val v U=>match Nat.beq U.next s.next with
   |true=>.ok v
   |false=>.bad "float: makes a block"
 |_=>.bad "float: no value"
def evQ(o:Oper)(C:Ctx)(t:Tr AV)(s:S):R AV:=(nA o.op o.type C t s).bind (Vl s)
inductive AK where
 |ptr|sl (n:Nat)|map
 deriving Inhabited
def Vt:AK->Nat->AV
 | .ptr=>λid=>.ptr id 0
 | .sl n=>λid=>.sl id 0 n n
 | .map=>λid=>.l5 id
def QT(e:TypeId)(C:Ctx):R (AK×eD):=do
 let i <-ti C e
 let z <-R.tc "no zero" i.zero
 bD (Nat.beq z.length i.size) "alloc: size"
 .ok (.ptr,fQ e z)
def K3(e:TypeId)(x:Operand)(C:Ctx)(t:Tr AV):R (AK×eD):=do
 let v <-kW C t x
 let c <-v.cells
 let i <-ti C e
 bD (Nat.beq c.length i.size) "box: size"
 .ok (.ptr,fQ e c)
def jt(ty:TypeId)(len:Nat)(a:Array (Nat×Operand))(C:Ctx)(t:Tr AV):R (AK×eD):=do
 match <-under C ty with
 | .slice e=>do
   let i <-ti C e
   bD (Nat.ble (Nat.mul len i.size) 16777216) "buildSlice: too long"
   let zero <-zL C e (Nat.mul len i.size) i.size
   let ps <-HN C t a.toList
   let cs <-jS (λk=>some (Nat.mul k i.size,i.size)) ps (Je zero len)
   .ok (.sl len,fQ e cs)
 |_=>.bad "buildSlice"
def aF(o:Op)(C:Ctx)(t:Tr AV):R (AK×eD):=
 match o with
 | .alloc e=>QT e C
 | .box e x=>K3 e x C t
 | .buildSlice ty n ps=>jt ty n ps C t
 | .makeMap _ r=>match r with
   |none=>.ok (.map,.map [] 0)
   |some _=>.bad "make: size"
 |_=>.bad "no block is made"
end Go.Proofs.YtokipodjggomfaaGreatDoor.Abs
namespace Go.Proofs.YtokipodjggomfaaGreatDoor.Abs
open Go
def lEq{α:Type}(e:α->α->Bool):List α->List α->Bool
 | []=>λy=>match y with| []=>true|_::_=>false
 |a::x=>λy=>match y with
  | []=>false
  |b::y=>match e a b with
   |true=>lEq e x y
   |false=>false
def Ig{α:Type}(e:α->α->Bool)(a b:Array α):Bool:=lEq e a.toList b.toList
def oEq{α:Type}(e:α->α->Bool)(a b:Option α):Bool:=
 match a with
 |none=>match b with|none=>true|some _=>false
 |some x=>match b with|none=>false|some y=>e x y
def pEq{α j:Type}(e:α->α->Bool)(f:j->j->Bool)(a b:α×j):Bool:=e a.1 b.1&&f a.2 b.2
def CW{α:Type}[DecidableEq α](a b:α):Bool:=decide (a=b)
def iM(a b:Nat):Bool:=Nat.beq a b
mutual
def gr:Value->Value->Bool
 | .int k n=>λb=>match b with| .int k' a=>CW k k'&&CW n a|_=>false
 | .bool x=>λb=>match b with| .bool y=>CW x y|_=>false
 | .string s=>λb=>match b with| .string t=>dp s.data.toList t.data.toList|_=>false
 | .pointer none=>λb=>match b with| .pointer none=>true|_=>false
 | .slice none n c=>λb=>match b with| .slice none a c'=>iM n a&&iM c c'|_=>false
 | .map none=>λb=>match b with| .map none=>true|_=>false
 | .nilFunc=>λb=>match b with| .nilFunc=>true|_=>false
 | .func f ⟨[]⟩ ⟨[]⟩=>λb=>match b with| .func g ⟨[]⟩ ⟨[]⟩=>CW f g|_=>false
 | .nilIface=>λb=>match b with| .nilIface=>true|_=>false
 | .iface t v=>λb=>match b with| .iface Q d=>iM t Q&&gr v d|_=>false
 | .agg ⟨l⟩=>λb=>match b with| .agg ⟨m⟩=>xP l m|_=>false
 |_=>λ_=>false
def xP:List Value->List Value->Bool
 | []=>λy=>match y with| []=>true|_::_=>false
 |v::l=>λy=>match y with| []=>false|u::m=>gr v u&&xP l m
end
def dC(a b:Operand):Bool:=
 match a with
 | .tmp x=>match b with| .tmp y=>iM x y|_=>false
 | .const x=>match b with| .const y=>gr x y|_=>false
 | .global x=>match b with| .global y=>iM x y|_=>false
 | .func x=>match b with| .func y=>iM x y|_=>false
def a39(a b:Callee):Bool:=
 match a with
 | .value x=>match b with| .value y=>dC x y|_=>false
 | .invoke x m=>match b with| .invoke y n=>dC x y&&CW m n|_=>false
 | .builtin x=>match b with| .builtin y=>CW x y|_=>false
def a0k(a b:Call):Bool:=a39 a.callee b.callee&&Ig dC a.args b.args&&Ig iM a.argTypes b.argTypes
def GD(a b:Array (Nat×Operand)):Bool:=Ig (pEq iM dC) a b
def U5(a b:Op):Bool:=
 match a with
 | .move x=>match b with| .move y=>dC x y|_=>false
 | .assign x=>match b with| .assign y=>dC x y|_=>false
 | .pick c x y=>match b with| .pick c' d e=>dC c c'&&(dC x d&&dC y e)|_=>false
 | .alloc x=>match b with| .alloc y=>iM x y|_=>false
 | .box t x=>match b with| .box Q d=>iM t Q&&dC x d|_=>false
 | .build t x=>match b with| .build Q d=>iM t Q&&GD x d|_=>false
 | .buildSlice t n x=>match b with| .buildSlice Q g d=>iM t Q&&(iM n g&&GD x d)|_=>false
 | .insert t x y z=>match b with| .insert Q d e i=>iM t Q&&(dC x d&&(dC y e&&dC z i))|_=>false
 | .load t x=>match b with| .load Q d=>iM t Q&&dC x d|_=>false
 | .store t x y=>match b with| .store Q d e=>iM t Q&&(dC x d&&dC y e)|_=>false
 | .nilCheck x=>match b with| .nilCheck y=>dC x y|_=>false
 | .binOp o t x y u=>match b with| .binOp T Q d e j=>CW o T&&(iM t Q&&(dC x d&&(dC y e&&iM u j)))|_=>false
 | .unOp o t x=>match b with| .unOp T Q d=>CW o T&&(iM t Q&&dC x d)|_=>false
 | .convert s t x=>match b with| .convert U Q d=>iM s U&&(iM t Q&&dC x d)|_=>false
 | .makeInterface t x=>match b with| .makeInterface Q d=>iM t Q&&dC x d|_=>false
 | .makeFunc f x y=>match b with| .makeFunc k d e=>CW f k&&(Ig dC x d&&Ig dC y e)|_=>false
 | .makeMap t x=>match b with| .makeMap Q d=>iM t Q&&oEq dC x d|_=>false
 | .makeSlice t x y=>match b with| .makeSlice Q d e=>iM t Q&&(dC x d&&dC y e)|_=>false
 | .slice t x l h m=>match b with| .slice Q d O p m'=>iM t Q&&(dC x d&&(oEq dC l O&&(oEq dC h p&&oEq dC m m')))|_=>false
 | .fieldAddr t x n=>match b with| .fieldAddr Q d g=>iM t Q&&(dC x d&&iM n g)|_=>false
 | .field t x n=>match b with| .field Q d g=>iM t Q&&(dC x d&&iM n g)|_=>false
 | .indexAddr t x y=>match b with| .indexAddr Q d e=>iM t Q&&(dC x d&&dC y e)|_=>false
 | .index t x y=>match b with| .index Q d e=>iM t Q&&(dC x d&&dC y e)|_=>false
 | .lookup t x y c=>match b with| .lookup Q d e c'=>iM t Q&&(dC x d&&(dC y e&&CW c c'))|_=>false
 | .mapUpdate t x y z=>match b with| .mapUpdate Q d e i=>iM t Q&&(dC x d&&(dC y e&&dC z i))|_=>false
 | .mapEntry t x y=>match b with| .mapEntry Q d e=>iM t Q&&(dC x d&&dC y e)|_=>false
 | .entryStore t x y z=>match b with| .entryStore Q d e i=>iM t Q&&(dC x d&&(dC y e&&dC z i))|_=>false
 | .range t x=>match b with| .range Q d=>iM t Q&&dC x d|_=>false
 | .next x c=>match b with| .next d c'=>dC x d&&CW c c'|_=>false
 | .entry x=>match b with| .entry d=>dC x d|_=>false
 | .typeAssert x s t c=>match b with| .typeAssert d U Q c'=>dC x d&&(iM s U&&(iM t Q&&CW c c'))|_=>false
 | .extract x n=>match b with| .extract d g=>dC x d&&iM n g|_=>false
 | .call c=>match b with| .call c'=>a0k c c'|_=>false
 | .defer c=>match b with| .defer c'=>a0k c c'|_=>false
 | .panic x=>match b with| .panic d=>dC x d|_=>false
 |_=>false
def a3w(a b:Edge):Bool:=iM a.on b.on&&CW a.ground b.ground
def Mi(a b:Oper):Bool:=oEq iM a.dst b.dst&&(U5 a.op b.op&&(iM a.type b.type&&(CW a.pos b.pos&&(Ig a3w a.after b.after&&oEq (pEq iM CW) a.guard b.guard))))
def cu:Code->Code->Bool
 | .skip=>λb=>match b with| .skip=>true|_=>false
 | .region i ops d=>λb=>match b with| .region e g d'=>iM i e&&(CW d d'&&Ig Mi ops g)|_=>false
 | .seq x y=>λb=>match b with| .seq a h=>cu x a&&cu y h|_=>false
 | .cond c x y=>λb=>match b with| .cond c' a h=>dC c c'&&(cu x a&&cu y h)|_=>false
 | .block i x=>λb=>match b with| .block e a=>iM i e&&cu x a|_=>false
 | .loop x=>λb=>match b with| .loop a=>cu x a|_=>false
 | .rangeFunc f p x y=>λb=>match b with| .rangeFunc j p' a h=>dC f j&&(Ig iM p p'&&(cu x a&&cu y h))|_=>false
 | .exit i=>λb=>match b with| .exit e=>iM i e|_=>false
 | .scope x=>λb=>match b with| .scope a=>cu x a|_=>false
 | .label i=>λb=>match b with| .label e=>iM i e|_=>false
 | .goto i=>λb=>match b with| .goto e=>iM i e|_=>false
 | .ret=>λb=>match b with| .ret=>true|_=>false
 | .refuse _=>λ_=>false
def SE.sub (H:Nat->SE):SE->SE
 | .var i=>H i
 | .int k n=>.int k n
 | .bool b=>.bool b
 | .str s=>.str s
 | .a1 o x=>.a1 o (SE.sub H x)
 | .a2 o x y=>.a2 o (SE.sub H x) (SE.sub H y)
 | .a3 o x y z=>.a3 o (SE.sub H x) (SE.sub H y) (SE.sub H z)
def SE.fZ (H:Nat->SE):List SE->List SE
 | []=>[]
 |e::l=>SE.sub H e::SE.fZ H l
mutual
def AV.sub (m:Nat->Nat) (H:Nat->SE):AV->AV
 | .int k n=>.int k n
 | .bool b=>.bool b
 | .str s=>.str s
 | .ptr b off=>.ptr (m b) off
 | .o9=>.o9
 | .sl b o l c=>.sl (m b) o l c
 | .np b p e l z=>.np (m b) p e l z
 | .dh=>.dh
 | .l5 r=>.l5 (m r)
 | .iw=>.iw
 | .fn f a b=>.fn f (AV.fZ m H a) (AV.fZ m H b)
 | .yield l=>.yield (m l)
 | .p0=>.p0
 | .iface t v=>.iface t (AV.sub m H v)
 | .lY=>.lY
 | .agg cs=>.agg (AV.fZ m H cs)
 | .jy vs=>.jy (AV.fZ m H vs)
 | .junk=>.junk
 | .raw v=>.raw v
 | .bS k e=>Pj k (SE.sub H e)
 | .gR b n c=>.gR (m b) (SE.sub H n) (SE.sub H c)
 | .gS b i g k=>.gS (m b) (SE.sub H i) g k
def AV.fZ (m:Nat->Nat) (H:Nat->SE):List AV->List AV
 | []=>[]
 |v::l=>AV.sub m H v::AV.fZ m H l
end
mutual
def AV.ids (ok:Nat->Bool):AV->Bool
 | .ptr b _=>ok b
 | .sl b _ _ _=>ok b
 | .np b _ _ _ _=>ok b
 | .l5 r=>ok r
 | .fn _ a b=>AV.gW ok a&&AV.gW ok b
 | .yield l=>ok l
 | .iface _ v=>AV.ids ok v
 | .agg cs=>AV.gW ok cs
 | .jy vs=>AV.gW ok vs
 | .gR b _ _=>ok b
 | .gS b _ _ _=>ok b
 |_=>true
def AV.gW (ok:Nat->Bool):List AV->Bool
 | []=>true
 |v::l=>AV.ids ok v&&AV.gW ok l
end
def AD.sub (m:Nat->Nat) (H:Nat->SE) (d:AD):AD:=⟨d.target.sub m H,AV.fZ m H d.args⟩
def AD.k9 (m:Nat->Nat) (H:Nat->SE):List AD->List AD
 | []=>[]
 |d::l=>d.sub m H::AD.k9 m H l
def AD.gW (ok:Nat->Bool):List AD->Bool
 | []=>true
 |d::l=>AV.ids ok d.target&&AV.gW ok d.args&&AD.gW ok l
def vL(m:Nat->Nat)(H:Nat->SE):List (Nat×AV)->List (Nat×AV)
 | []=>[]
 |x::l=>(x.1,x.2.sub m H)::vL m H l
def Bf(ok:Nat->Bool):List (Nat×AV)->Bool
 | []=>true
 |x::l=>AV.ids ok x.2&&Bf ok l
def EJ:Nat->List AV
 |0=>[]
 |n+1=>.junk::EJ n
def I1:List (Nat×AV)->Tr AV->Tr AV
 | []=>λt=>t
 |x::l=>λt=>I1 l (t.set x.1 x.2)
def Dv(nt:Nat)(l:List (Nat×AV)):Tr AV:=I1 l (Tr.ofList (EJ nt))
def ME.k9 (m:Nat->Nat) (H:Nat->SE):List ME->List ME
 | []=>[]
 |e::l=>⟨e.k,e.v.sub m H,e.born⟩::ME.k9 m H l
def ME.gW (ok:Nat->Bool):List ME->Bool
 | []=>true
 |e::l=>AV.ids ok e.v&&ME.gW ok l
def CB.sub (m:Nat->Nat) (H:Nat->SE):CB->CB
 | .cells e cs fz st sg=>.cells e (AV.fZ m H cs) fz st sg
 | .eC ds=>.eC (AD.k9 m H ds)
 | .loop st pe fn nt tm ps a b d=>.loop st pe fn nt (vL m H tm) ps a b (m d)
 | .vec e x=>.vec e (SE.sub H x)
 | .Dp e k zs=>.Dp e k zs
 | .map J c=>.map (ME.k9 m H J) c
def CB.ids (ok:Nat->Bool):CB->Bool
 | .cells _ cs _ _ _=>AV.gW ok cs
 | .eC ds=>AD.gW ok ds
 | .loop _ _ _ _ tm _ _ _ d=>Bf ok tm&&ok d
 | .vec _ _=>true
 | .Dp _ _ _=>true
 | .map J _=>ME.gW ok J
def CB.ay:CB->eD
 | .cells e cs fz st sg=>.cells e (Tr.ofList cs) cs.length fz [] st sg
 | .eC ds=>.eC (some ds)
 | .loop st pe fn nt tm ps a b d=>.loop st pe fn nt (Dv nt tm) ps a b d
 | .vec e x=>.vec e x
 | .Dp e k zs=>.Dp e k zs
 | .map J c=>.map J c
def CB.live:CB->Bool
 | .cells _ _ _ st _=> !st
 | .Dp _ _ _=>false
 |_=>true
def Fact.sub (H:Nat->SE):Fact->Fact
 | .tr e=>.tr (e.sub H)
 | .fl e=>.fl (e.sub H)
 | .inr i n=>.inr (i.sub H) (n.sub H)
 | .rel nm b p l=>.rel nm b p (SE.fZ H l)
def Fact.k9 (H:Nat->SE):List Fact->List Fact
 | []=>[]
 |f::l=>f.sub H::Fact.k9 H l
def SV(i:Nat):Nat:=i
end Go.Proofs.YtokipodjggomfaaGreatDoor.Abs
