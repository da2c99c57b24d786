/- errors.As at a struct whose type is the target's element type, by its contract: true; the target is set; what else was there is as it was. No condition but those of the theorem. After the kit's worked example ToyasAs, turned to this program. -/
import Derived.Test.YtabknehmohoemaaGreatDoorChecked
import Derived.Test.YtabknehmohoemaaGreatDoorAbs5
import Derived.WalkKit
import Derived.LaidEql
import Derived.Stop.Asserts
import Derived.RowKitTokens
namespace Go.Proofs.YtabknehmohoemaaGreatDoor
open Go.RowKit Go.Extern.Stop Go.Stop Go.Extern

theorem Tryz.asValueP (t : Addr) (w : World) : (ReflectliteValue.unpack (.iface 253 (.pointer (some t)))).run Tryz.prog w
    = .ok (.agg #[.pointer (some ⟨7, 253, none⟩), .pointer (some ⟨w.heap.size, 0, none⟩), .int .u64 150]) (w.alloc (.cells #[.pointer (some t)] 253)) := by kernel_rfl
theorem Tryz.asTypeP (b : Addr) (w : World) : (ReflectliteValue.methodAny (ReflectliteValue.valueError "reflectlite.Value.Type" 0) (fun t _ _ _ => ReflectliteType.toType t) #[.agg #[.pointer (some ⟨7, 253, none⟩), .pointer (some b), .int .u64 150]]).run Tryz.prog w
    = .ok (.iface 450 (.agg #[.pointer (some ⟨7, 253, none⟩)])) w := by kernel_rfl
theorem Tryz.asMethodKind (h : Value) (w : World) : (Go.method 924 450 (.agg #[h]) "Kind").run Tryz.prog w = .ok (784, h) w := by kernel_rfl
theorem Tryz.asKindP (w : World) : ((ReflectliteType.abiMethod fun t => (fun a : Nat => Value.int IntKind.u8 (a : Int)) <$> Rtype.kind t) #[.pointer (some ⟨7, 253, none⟩)]).run Tryz.prog w = .ok (.int .u8 22) w := by kernel_rfl
theorem Tryz.asKindF (w : World) : ((ReflectliteType.abiMethod fun t => (fun a : Nat => Value.int IntKind.u8 (a : Int)) <$> Rtype.kind t) #[.pointer (some ⟨7, 248, none⟩)]).run Tryz.prog w = .ok (.int .u8 25) w := by kernel_rfl
theorem Tryz.asRlm (z : Sem Value) (f : TypeId → Addr → Nat → Nat → Sem Value) (v : Value) :
    ReflectliteValue.method z f #[v] = (do match ← ReflectliteValue.parts v with | none => z | some (t, a, fl) => f t a fl (fl % 32)) := rfl
theorem Tryz.asPartsP (b : Addr) (w : World) : (ReflectliteValue.parts (.agg #[.pointer (some ⟨7, 253, none⟩), .pointer (some b), .int .u64 150])).run Tryz.prog w = .ok (some (253, b, 150)) w := by kernel_rfl
theorem Tryz.asIsNilP (b p : Addr) (W : World) (ha : W.cell? b = some (.pointer (some p))) :
    (ReflectliteValue.method (ReflectliteValue.valueError "reflectlite.Value.IsNil" 0) ReflectliteValue.isNil #[.agg #[.pointer (some ⟨7, 253, none⟩), .pointer (some b), .int .u64 150]]).run Tryz.prog W = .ok (.bool false) W := by
  rw [Tryz.asRlm]
  simp only [Sem.run_bind, Tryz.asPartsP, Result.andThen]
  simp [ReflectliteValue.isNil, loadVar, isAgg, underlying, Tryz.underlying253, ha, Result.andThen]
theorem Tryz.asMethodElem (h : Value) (w : World) : (Go.method 924 450 (.agg #[h]) "Elem").run Tryz.prog w = .ok (797, .agg #[h]) w := by kernel_rfl
theorem Tryz.asMethodImplements (h : Value) (w : World) : (Go.method 924 450 (.agg #[h]) "Implements").run Tryz.prog w = .ok (798, .agg #[h]) w := by kernel_rfl
theorem Tryz.asMethodAssignableTo (h : Value) (w : World) : (Go.method 924 450 (.agg #[h]) "AssignableTo").run Tryz.prog w = .ok (795, .agg #[h]) w := by kernel_rfl
theorem Tryz.asElemP (w : World) : (ReflectliteType.method ReflectliteType.elem #[.agg #[.pointer (some ⟨7, 253, none⟩)]]).run Tryz.prog w = .ok (.iface 450 (.agg #[.pointer (some ⟨7, 248, none⟩)])) w := by kernel_rfl
theorem Tryz.asImplementsF (w : World) : (ReflectliteType.relation "Implements" ReflectliteType.implements_ #[.agg #[.pointer (some ⟨7, 248, none⟩)], .iface 450 (.agg #[.pointer (some ⟨7, 250, none⟩)])]).run Tryz.prog w = .ok (.bool true) w := by kernel_rfl
theorem Tryz.asTypeOfF (v : Value) (w : World) : (ReflectliteType.typeOf #[.iface 248 v]).run Tryz.prog w = .ok (.iface 450 (.agg #[.pointer (some ⟨7, 248, none⟩)])) w := by kernel_rfl
theorem Tryz.asAssignableF (w : World) : (ReflectliteType.relation "AssignableTo" ReflectliteType.assignableTo #[.agg #[.pointer (some ⟨7, 248, none⟩)], .iface 450 (.agg #[.pointer (some ⟨7, 248, none⟩)])]).run Tryz.prog w = .ok (.bool true) w := by kernel_rfl
theorem Tryz.asValueF (cs : Array Value) (w : World) : (ReflectliteValue.unpack (.iface 248 (.agg cs))).run Tryz.prog w
    = .ok (.agg #[.pointer (some ⟨7, 248, none⟩), .pointer (some ⟨w.heap.size, 0, none⟩), .int .u64 153]) (w.alloc (.cells cs 248)) := by kernel_rfl
theorem Tryz.asElemOfP (w : World) : (Rtype.elem? 253).run Tryz.prog w = .ok (some 248) w := by kernel_rfl
theorem Tryz.asMkF (p : Addr) (w : World) : (ReflectliteValue.mk 248 p ReflectliteValue.flagAddr).run Tryz.prog w = .ok (.agg #[.pointer (some ⟨7, 248, none⟩), .pointer (some p), .int .u64 409]) w := by kernel_rfl
theorem Tryz.asElemVP (b p : Addr) (W : World) (ha : W.cell? b = some (.pointer (some p))) :
    (ReflectliteValue.method (ReflectliteValue.valueError "reflectlite.Value.Elem" 0) ReflectliteValue.elem #[.agg #[.pointer (some ⟨7, 253, none⟩), .pointer (some b), .int .u64 150]]).run Tryz.prog W
      = .ok (.agg #[.pointer (some ⟨7, 248, none⟩), .pointer (some p), .int .u64 409]) W := by
  rw [Tryz.asRlm]
  simp only [Sem.run_bind, Tryz.asPartsP, Result.andThen]
  simp [ReflectliteValue.elem, loadVar, isAgg, underlying, Tryz.underlying253, ha, Result.andThen, Tryz.asElemOfP, Tryz.asMkF]
theorem Tryz.asRls (v x : Value) : ReflectliteValue.set #[v, x] = (do
    let (some (dst, a, fl), some (src, b, _)) := (← ReflectliteValue.parts v, ← ReflectliteValue.parts x)
      | unsupported (.noEntry "extern/(internal/reflectlite.Value).Set.zeroValue")
    if fl / ReflectliteValue.flagAddr % 2 == 0 then unsupported (.noEntry "extern/(internal/reflectlite.Value).Set.unaddressable")
    let val ← loadVar src b
    if ← Rtype.directlyAssignable dst src then storeVar dst a val
    else if ← Rtype.implements dst src then
      if (← Rtype.kind src) == 20 then
        match val with
        | .nilIface => unsupported (.noEntry "extern/reflectlite: a nil value of one interface type handed on as a value of another")
        | _ => storeVar dst a val
      else storeVar dst a (.iface src val)
    else panicString ("reflectlite.Set: value of type " ++ (← Rtype.spelt src) ++ " is not assignable to type " ++ (← Rtype.spelt dst))
    pure (.tuple #[])) := rfl
theorem Tryz.asPartsFa (b : Addr) (w : World) : (ReflectliteValue.parts (.agg #[.pointer (some ⟨7, 248, none⟩), .pointer (some b), .int .u64 409])).run Tryz.prog w = .ok (some (248, b, 409)) w := by kernel_rfl
theorem Tryz.asPartsF (b : Addr) (w : World) : (ReflectliteValue.parts (.agg #[.pointer (some ⟨7, 248, none⟩), .pointer (some b), .int .u64 153])).run Tryz.prog w = .ok (some (248, b, 153)) w := by kernel_rfl
theorem Tryz.asDirectF (w : World) : (Rtype.directlyAssignable 248 248).run Tryz.prog w = .ok true w := by kernel_rfl
theorem Tryz.asSizeF (w : World) : (sizeOf 248).run Tryz.prog w = .ok 2 w := by kernel_rfl
theorem Tryz.asLoadF (b : Nat) (cs : List Value) (W : World) (hcs : cs.length = 2) (hb : W.heap[b]? = some (.cells ⟨cs⟩ 248 (0, 0))) : (loadVar 248 ⟨b, 0, none⟩).run Tryz.prog W = .ok (.agg ⟨cs⟩) W := by
  have hl := Abs.run_loadCells' (P := Tryz.prog) (blk := b) (o := 0) (r := cs) (w := W) (fun j v hj => by simp [World.cell?, hb, hj]) 2 hcs
  simp only [loadVar, isAgg, Sem.run_bind, underlying, run_program, Result.andThen_ok, Tryz.underlying248, Sem.run_pure, if_true, Tryz.asSizeF, hl]
theorem Tryz.asSetF (ta : Addr) (b : Nat) (cs : List Value) (W W' : World) (hcs : cs.length = 2) (hb : W.heap[b]? = some (.cells ⟨cs⟩ 248 (0, 0))) (hst : (storeCells ta cs).run Tryz.prog W = .ok () W') :
    (ReflectliteValue.set #[.agg #[.pointer (some ⟨7, 248, none⟩), .pointer (some ta), .int .u64 409], .agg #[.pointer (some ⟨7, 248, none⟩), .pointer (some ⟨b, 0, none⟩), .int .u64 153]]).run Tryz.prog W
      = .ok (.tuple #[]) W' := by
  rw [Tryz.asRls]
  have hs : (storeVar 248 ta (.agg ⟨cs⟩)).run Tryz.prog W = .ok () W' := by
    have hz : ¬ (Value.cells (.agg ⟨cs⟩)).size ≠ 2 := by simp [Value.cells, hcs]
    simp only [storeVar, Sem.run_bind, Tryz.asSizeF, Result.andThen_ok, if_neg hz]
    exact hst
  simp only [Sem.run_bind, Tryz.asPartsFa, Tryz.asPartsF, Result.andThen]
  simp [ReflectliteValue.flagAddr, Result.andThen, Tryz.asLoadF b cs W hcs hb, Tryz.asDirectF, hs]

noncomputable def asE : Abs.AsE := ⟨0, 450, 7, 250, 253, 248, 2⟩
set_option maxHeartbeats 4000000 in
theorem as_hit (cs : List Value) (t : Addr) (w w1 : World) (hcs : cs.length = 2) (hg : w.cell? ⟨0, 0, none⟩ = some (.iface 450 (.agg #[.pointer (some ⟨7, 250, none⟩)])))
    (hst : ∀ W : World, (∀ (k : Nat) (o : Obj), w.heap[k]? = some o → W.heap[k]? = some o) → w.heap.size ≤ W.heap.size → W.os = w.os → W.tape = w.tape → W.output = w.output → ∃ W', (storeCells t cs).run Tryz.prog W = .ok () W' ∧ Abs.Kept w1 W') :
    Calls Tryz.prog 156 #[.iface 248 (.agg ⟨cs⟩), .iface 253 (.pointer (some t))] w fun ev w' => ev = .returned (.bool true) ∧ Abs.Kept w1 w' := by
  have h6 := @run_callFunc_extern Tryz.prog 244 _ (fun args => ReflectliteValue.unpack (args.getD 0 (.tuple #[]))) Tryz.func244 (by kernel_rfl) (by kernel_rfl) (by kernel_rfl) (by kernel_rfl)
  have h7 := @run_callFunc_extern Tryz.prog 245 _ (ReflectliteValue.methodAny (ReflectliteValue.valueError "reflectlite.Value.Type" 0) (fun t _ _ _ => ReflectliteType.toType t)) Tryz.func245 (by kernel_rfl) (by kernel_rfl) (by kernel_rfl) (by kernel_rfl)
  have h8 := @run_callFunc_extern Tryz.prog 246 _ (ReflectliteValue.method (ReflectliteValue.valueError "reflectlite.Value.IsNil" 0) ReflectliteValue.isNil) Tryz.func246 (by kernel_rfl) (by kernel_rfl) (by kernel_rfl) (by kernel_rfl)
  have h27 := @run_callFunc_extern Tryz.prog 784 _ (ReflectliteType.abiMethod fun t => do pure (.int .u8 (← Rtype.kind t))) Tryz.func784 (by kernel_rfl) (by kernel_rfl) (by kernel_rfl) (by kernel_rfl)
  have h37 := @run_callFunc_extern Tryz.prog 797 _ (ReflectliteType.method ReflectliteType.elem) Tryz.func797 (by kernel_rfl) (by kernel_rfl) (by kernel_rfl) (by kernel_rfl)
  have h38 := @run_callFunc_extern Tryz.prog 798 _ (ReflectliteType.relation "Implements" ReflectliteType.implements_) Tryz.func798 (by kernel_rfl) (by kernel_rfl) (by kernel_rfl) (by kernel_rfl)
  have h10 := @run_callFunc_extern Tryz.prog 348 _ ReflectliteType.typeOf Tryz.func348 (by kernel_rfl) (by kernel_rfl) (by kernel_rfl) (by kernel_rfl)
  have h35 := @run_callFunc_extern Tryz.prog 795 _ (ReflectliteType.relation "AssignableTo" ReflectliteType.assignableTo) Tryz.func795 (by kernel_rfl) (by kernel_rfl) (by kernel_rfl) (by kernel_rfl)
  have h11 := @run_callFunc_extern Tryz.prog 349 _ (ReflectliteValue.method (ReflectliteValue.valueError "reflectlite.Value.Elem" 0) ReflectliteValue.elem) Tryz.func349 (by kernel_rfl) (by kernel_rfl) (by kernel_rfl) (by kernel_rfl)
  have h12 := @run_callFunc_extern Tryz.prog 350 _ ReflectliteValue.set Tryz.func350 (by kernel_rfl) (by kernel_rfl) (by kernel_rfl) (by kernel_rfl)
  have tO := Tryz.asTypeOfF
  have mA := Tryz.asMethodAssignableTo
  have a25 := Tryz.asAssignableF
  have v25 := Tryz.asValueF
  have f6 := Tryz.asValueP
  have f7 := Tryz.asTypeP
  have mK := Tryz.asMethodKind
  have mE := Tryz.asMethodElem
  have mI := Tryz.asMethodImplements
  have k27 := Tryz.asKindP
  have k25 := Tryz.asKindF
  have e27 := Tryz.asElemP
  have i25 := Tryz.asImplementsF
  have hlt : 0 < w.heap.size := by
    rcases Nat.lt_or_ge 0 w.heap.size with h | h
    · exact h
    · simp [World.cell?, Array.getElem?_eq_none h] at hg
  have n8 := Tryz.asIsNilP ⟨w.heap.size, 0, none⟩ t ((w.alloc (.cells #[.pointer (some t)] 253)).alloc (.cells #[.pointer (some ⟨7, 253, none⟩), .pointer (some ⟨w.heap.size, 0, none⟩), .int .u64 150] 324)) (by simp)
  have hg2 : ((w.alloc (.cells #[.pointer (some t)] 253)).alloc (.cells #[.pointer (some ⟨7, 253, none⟩), .pointer (some ⟨w.heap.size, 0, none⟩), .int .u64 150] 324)).cell? ⟨0, 0, none⟩ = some (.iface 450 (.agg #[.pointer (some ⟨7, 250, none⟩)])) := by
    rw [World.cell?_alloc_lt _ _ ⟨0, 0, none⟩ (by simp), World.cell?_alloc_lt _ _ ⟨0, 0, none⟩ hlt]; exact hg
  have el := Tryz.asElemVP ⟨w.heap.size, 0, none⟩ t (((w.alloc (.cells #[.pointer (some t)] 253)).alloc (.cells #[.pointer (some ⟨7, 253, none⟩), .pointer (some ⟨w.heap.size, 0, none⟩), .int .u64 150] 324)).alloc (.cells #[.pointer (some ⟨7, 253, none⟩), .pointer (some ⟨w.heap.size, 0, none⟩), .int .u64 150] 324)) (by
    rw [World.cell?_alloc_lt _ _ ⟨w.heap.size, 0, none⟩ (by simp; omega), World.cell?_alloc_lt _ _ ⟨w.heap.size, 0, none⟩ (by simp), World.cell?_alloc_at _ _ _ _ (by simp)]; rfl)
  obtain ⟨W', hW', hK⟩ := hst ((((w.alloc (.cells #[.pointer (some t)] 253)).alloc (.cells #[.pointer (some ⟨7, 253, none⟩), .pointer (some ⟨w.heap.size, 0, none⟩), .int .u64 150] 324)).alloc (.cells #[.pointer (some ⟨7, 253, none⟩), .pointer (some ⟨w.heap.size, 0, none⟩), .int .u64 150] 324)).alloc (.cells ⟨cs⟩ 248)) (by
    intro k o hk
    have hk' : k < w.heap.size := by
      rcases Nat.lt_or_ge k w.heap.size with h | h
      · exact h
      · rw [Array.getElem?_eq_none h] at hk; cases hk
    simp only [World.alloc]
    rw [Array.getElem?_push_lt (by simp; omega), Array.getElem_push_lt (by simp; omega), Array.getElem_push_lt (by simp; omega), Array.getElem_push_lt hk']
    rw [Array.getElem?_eq_getElem hk'] at hk
    exact hk) (by simp only [World.alloc, Array.size_push]; omega) rfl rfl rfl
  have st := Tryz.asSetF t (w.heap.size + 1 + 1 + 1) cs ((((w.alloc (.cells #[.pointer (some t)] 253)).alloc (.cells #[.pointer (some ⟨7, 253, none⟩), .pointer (some ⟨w.heap.size, 0, none⟩), .int .u64 150] 324)).alloc (.cells #[.pointer (some ⟨7, 253, none⟩), .pointer (some ⟨w.heap.size, 0, none⟩), .int .u64 150] 324)).alloc (.cells ⟨cs⟩ 248)) W' hcs (by simp only [World.alloc, Array.getElem?_push, Array.size_push]; simp) hW'
  go_enter Tryz.func156, Tryz.ntmps156
  go_wp2
  refine wp_loop_rounds 1 ?_
  rw [rounds_succ]
  go_wp2
  go_ret
  exact ⟨rfl, hK⟩
theorem as_ok : Abs.AsOk Tryz.prog 156 asE := by
  refine ⟨⟨_, Tryz.func156⟩, fun w w1 t cs arr elt lo hi hg hcs hsp hb hsz hfz hone hrun => ?_⟩
  obtain ⟨tb, to, ts⟩ := t
  simp only at hsp hb hsz hfz
  subst hsp
  have run := fun (W : World) (hW : W.heap[tb]? = some (.cells arr elt (lo, hi))) => Abs.run_storeCells (P := Tryz.prog) tb elt lo hi cs to 0 arr W hW (by omega) hone (by
    intro q h1 h2 h3
    rcases hfz q h3.1 h3.2 with h | h <;> omega)
  have e1 := run w hb
  rw [hrun] at e1
  injection e1 with _ e1
  subst e1
  refine as_hit cs ⟨tb, to, none⟩ w _ hcs hg fun W hW hsz ho ht hp => ⟨_, run W (hW tb _ hb), ?_⟩
  refine ⟨by simpa using hsz, ht, ho, hp, fun k o hk => ?_⟩
  simp only [Array.getElem?_setIfInBounds] at hk ⊢
  have hlt : tb < w.heap.size := by
    rcases Nat.lt_or_ge tb w.heap.size with h | h
    · exact h
    · rw [Array.getElem?_eq_none h] at hb; cases hb
  by_cases h : tb = k
  · subst h
    rw [if_pos rfl, if_pos hlt] at hk
    rw [if_pos rfl, if_pos (by omega)]
    exact hk
  · rw [if_neg h] at hk
    rw [if_neg h]
    exact hW k o hk
end Go.Proofs.YtabknehmohoemaaGreatDoor
