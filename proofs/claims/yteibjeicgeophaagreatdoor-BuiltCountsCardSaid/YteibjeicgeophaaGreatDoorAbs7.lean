/- From a checked run to the model's call, at arguments that are read as data; contracts by induction. Conditions: those of each theorem. -/
import Derived.Test.YteibjeicgeophaaGreatDoorAbs6
import Derived.ProofKit
import Derived.HandedShaped
import Derived.Lay
import Derived.LaidMore
import Derived.Stop.Joined
import Derived.ChangeArms
import Derived.DataReads
import Derived.ChangeBook
import Derived.ChangeStays
import Derived.ChangeShapes
import Derived.WideShapes
import Derived.SevenTiedAt
import Derived.JoinedCond
import Derived.LaidLaws
import Derived.Deep.DeepHandedRow
import Derived.FnData
import Derived.LaidSub
namespace Go.Proofs.YteibjeicgeophaaGreatDoor.Abs
open Go
noncomputable def andO (a b : Option (List (List Fact))) : Option (List (List Fact)) :=
  match a with
  | none => none
  | some x => match b with
    | none => none
    | some y => some (x ++ y)
noncomputable def consO (pc : List Fact) (a : Option (List (List Fact))) : Option (List (List Fact)) :=
  match a with
  | none => none
  | some x => some (pc :: x)
noncomputable def okO (b : Bool) : Option (List (List Fact)) :=
  match b with
  | true => some []
  | false => none
noncomputable def R.res {α : Type} (p : α → Bool) (r : R α) : Option (List (List Fact)) :=
  @R.rec α (fun _ => Option (List (List Fact))) (fun a => okO (p a)) (fun _ => none) (fun n _ ih => @Nat.rec (fun _ => Option (List (List Fact))) (some []) (fun i b => andO b (ih i)) n) (fun pc _ ih => consO pc ih) r
def Unsat (pc : List Fact) : Prop := ¬ ∃ γ : G, ∀ f ∈ pc, f.holds γ
def Unsats (l : List (List Fact)) : Prop := ∀ pc ∈ l, Unsat pc
theorem andO_some {a b : Option (List (List Fact))} {l : List (List Fact)} (h : andO a b = some l) : ∃ x y, a = some x ∧ b = some y ∧ l = x ++ y := by
  unfold andO at h
  cases a with
  | none => cases h
  | some x => cases b with
    | none => cases h
    | some y => exact ⟨x, y, rfl, rfl, (Option.some.inj h).symm⟩
theorem R.res_ask {α : Type} (p : α → Bool) (k : Nat → R α) : ∀ (n : Nat) (l : List (List Fact)), R.res p (.ask n k) = some l → ∀ i, i < n → ∃ x, R.res p (k i) = some x ∧ ∀ pc ∈ x, pc ∈ l
  | 0, _, _, i, h => absurd h (Nat.not_lt_zero i)
  | n + 1, l, h, i, hi => by
    have e : R.res p (.ask (n + 1) k) = andO (R.res p (.ask n k)) (R.res p (k n)) := rfl
    rw [e] at h
    obtain ⟨x, y, h1, h2, rfl⟩ := andO_some h
    rcases Nat.lt_or_ge i n with h' | h'
    · obtain ⟨z, h3, h4⟩ := R.res_ask p k n x h1 i h'
      exact ⟨z, h3, fun pc hpc => List.mem_append_left _ (h4 pc hpc)⟩
    · have : i = n := by omega
      subst this
      exact ⟨y, h2, fun pc hpc => List.mem_append_right _ hpc⟩
theorem R.res_must {α : Type} {p : α → Bool} {pc : List Fact} {k : R α} {l : List (List Fact)} (h : R.res p (.must pc k) = some l) : ∃ x, R.res p k = some x ∧ l = pc :: x := by
  have e : R.res p (.must pc k) = consO pc (R.res p k) := rfl
  rw [e] at h
  cases hk : R.res p k with
  | none => rw [hk] at h; cases h
  | some x => rw [hk] at h; exact ⟨x, rfl, (Option.some.inj h).symm⟩
theorem R.res_bind {α β : Type} {p : β → Bool} {Q : α → Prop} {f : α → R β} : ∀ {r : R α} {l : List (List Fact)}, R.res p (r.bind f) = some l → Unsats l → r.path Q → ∃ a x, Q a ∧ R.res p (f a) = some x ∧ Unsats x
  | .ok a, l, h, hu, hq => ⟨a, l, hq, h, hu⟩
  | .bad _, _, h, _, _ => by cases h
  | .ask n k, l, h, hu, ⟨i, hi, hq⟩ => by
    obtain ⟨x, h1, h2⟩ := R.res_ask p (fun i => (k i).bind f) n l h i hi
    exact R.res_bind h1 (fun pc hpc => hu pc (h2 pc hpc)) hq
  | .must pc k, l, h, hu, hq => by
    obtain ⟨x, h1, rfl⟩ := R.res_must (k := k.bind f) h
    rcases hq with hq | hq
    · exact absurd hq (hu pc List.mem_cons_self)
    · exact R.res_bind h1 (fun pc' hpc => hu pc' (List.mem_cons_of_mem _ hpc)) hq
noncomputable def retTrue (o : Out) : Bool :=
  match o.res with
  | .ret v => match v with
    | .bool b => b
    | _ => false
  | .pan _ => false
noncomputable def noNumL : List Func → Bool
  | [] => true
  | f :: l => match f.body.isSome && (f.name == "runtime.NumGoroutine") with
    | true => false
    | false => noNumL l
theorem noNumL_spec : ∀ {l : List Func}, noNumL l = true → ∀ f ∈ l, f.body.isSome = true → (f.name == "runtime.NumGoroutine") = false
  | [], _, _, h => by cases h
  | g :: l, h, f, hf => by
    unfold noNumL at h
    cases hb : (g.body.isSome && (g.name == "runtime.NumGoroutine")) with
    | true => rw [hb] at h; cases h
    | false =>
      rw [hb] at h
      intro hs
      cases hf with
      | head => rw [hs] at hb; simpa using hb
      | tail _ hf => exact noNumL_spec h f hf hs
theorem good_ofL {P : Program} {eqT : Nat → Bool} {X : List (FuncId × Ext)} {M : List (FuncId × Memo)} {K L : List Con} (hL : ∀ c ∈ L, LibOk P c) (hK : ∀ c ∈ K, ConOk P c) (hM : ∀ x ∈ M, MemoOk P x.1 x.2) (h1 : validB P = true) (h2 : noNumL P.funcs.toList = true)
    (h3 : (∀ f g t, extOf f X = some (.closed g t) → ClosedOk P f g t) ∧ (∀ f g, extOf f X = some (.index g) → IndexOk P f g) ∧ (∀ f x, extOf f X = some (.as x) → AsOk P f x) ∧
      ∀ f e, extOf f X = some e → (∀ g, e ≠ .index g) → (∀ g t, e ≠ .closed g t) → (∀ x, e ≠ .as x) → ∃ fn, P.funcs[f]? = some fn ∧ fn.body = none ∧ (fn.name == "runtime.NumGoroutine") = false ∧ Extern.findNext fn = none ∧ Extern.find fn = some (extRow fn e)) : Good (mkCtx P eqT X M K L) :=
  ⟨rfl, hK, hM, hL, h1, fun f fn hf hb => noNumL_spec h2 fn (by have := Array.mem_of_getElem? (xs := P.funcs) hf; simpa using this) hb, h3.1, h3.2.1, h3.2.2.1, h3.2.2.2⟩
theorem good_ofK {P : Program} {eqT : Nat → Bool} {X : List (FuncId × Ext)} {M : List (FuncId × Memo)} {K : List Con} (hK : ∀ c ∈ K, ConOk P c) (hM : ∀ x ∈ M, MemoOk P x.1 x.2) (h1 : validB P = true) (h2 : noNumL P.funcs.toList = true)
    (h3 : (∀ f g t, extOf f X = some (.closed g t) → ClosedOk P f g t) ∧ (∀ f g, extOf f X = some (.index g) → IndexOk P f g) ∧ (∀ f x, extOf f X = some (.as x) → AsOk P f x) ∧
      ∀ f e, extOf f X = some e → (∀ g, e ≠ .index g) → (∀ g t, e ≠ .closed g t) → (∀ x, e ≠ .as x) → ∃ fn, P.funcs[f]? = some fn ∧ fn.body = none ∧ (fn.name == "runtime.NumGoroutine") = false ∧ Extern.findNext fn = none ∧ Extern.find fn = some (extRow fn e)) : Good (mkCtx P eqT X M K) :=
  good_ofL (fun _ h => by cases h) hK hM h1 h2 h3
theorem good_ofM {P : Program} {eqT : Nat → Bool} {X : List (FuncId × Ext)} {M : List (FuncId × Memo)} (hM : ∀ x ∈ M, MemoOk P x.1 x.2) (h1 : validB P = true) (h2 : noNumL P.funcs.toList = true)
    (h3 : (∀ f g t, extOf f X = some (.closed g t) → ClosedOk P f g t) ∧ (∀ f g, extOf f X = some (.index g) → IndexOk P f g) ∧ (∀ f x, extOf f X = some (.as x) → AsOk P f x) ∧
      ∀ f e, extOf f X = some e → (∀ g, e ≠ .index g) → (∀ g t, e ≠ .closed g t) → (∀ x, e ≠ .as x) → ∃ fn, P.funcs[f]? = some fn ∧ fn.body = none ∧ (fn.name == "runtime.NumGoroutine") = false ∧ Extern.findNext fn = none ∧ Extern.find fn = some (extRow fn e)) : Good (mkCtx P eqT X M) :=
  good_ofK (fun _ h => by cases h) hM h1 h2 h3
structure Stayed (γ : G) (s : S) (w w' : World) : Prop where
  size : w.heap.size ≤ w'.heap.size
  tape : w'.tape = w.tape
  os : w'.os = w.os
  output : w'.output = w.output
  stays : ∀ (k : Nat) (o : Obj), w.heap[k]? = some o → ¬ Live γ s k → w'.heap[k]? = some o
def OutIs (γ : G) (o : Out) (e : Ending) : Prop :=
  match o.res with
  | .ret v => ∃ c, conc γ v = some c ∧ e = .returned c
  | .pan ch => ∃ c, concCh γ ch = some c ∧ e = .panicked c
theorem calls_of_res {C : Ctx} (hC : Good C) (hM : C.P.follows .mixedOrders = true) {base : Nat} {γ : G} {s : S} {w : World} (hR : Rel C base γ s w) {f : FuncId} {args : List AV} {cargs : List Value} (hargs : concL γ args = some cargs) (n : Nat)
    {β : Type} {p : β → Bool} {look : Out → R β} {l : List (List Fact)} (h : R.res p ((enterA C (runF C n) f args .normal none s).bind look) = some l) (hu : Unsats l) :
    Calls C.P f ⟨cargs⟩ w fun e w' => ∃ γ' o x, Step C base γ s w γ' o.s w' ∧ R.res p (look o) = some x ∧ Unsats x ∧ OutIs γ' o e := by
  intro cs
  have hs := path_enterA hC (sound_run hC (drawn C base hC hM) n) hR f hargs .normal (ctx := none) (cs := cs) rfl
  obtain ⟨o, x, ⟨⟨fn, hfn⟩, nt, γ', w', cs', hst, hctx, hcs, hres⟩, hx, hux⟩ := R.res_bind h hu hs
  have hcs' : cs' = cs := hcs
  subst hcs'
  obtain ⟨res, octx, os⟩ := o
  cases res with
  | ret v =>
    obtain ⟨cv, hcv, fr', hsteps, hf, hk, hm, hd, fn', hfn', hrs⟩ := hres
    exact ⟨.returned cv, w', fr', ⟨γ', ⟨.ret v, octx, os⟩, x, hst, hx, hux, cv, hcv, rfl⟩, hsteps, hf, hm, hd, hk, fn', by rw [hf]; exact hfn', hrs⟩
  | pan ch =>
    obtain ⟨cch, hch, fr', hsteps, hf, hm, hd⟩ := hres
    exact ⟨.panicked cch, w', fr', ⟨γ', ⟨.pan ch, octx, os⟩, x, hst, hx, hux, cch, hch, rfl⟩, hsteps, hf, hm, hd, fn, by rw [hf]; exact hfn⟩
noncomputable def lookB (p : Out → Bool) (o : Out) : R Unit :=
  match p o with
  | true => .ok ()
  | false => .bad "another end"
theorem lookB_some {p : Out → Bool} {o : Out} {x : List (List Fact)} (h : R.res (fun _ => true) (lookB p o) = some x) : p o = true := by
  unfold lookB at h
  cases hp : p o with
  | true => rfl
  | false => rw [hp] at h; cases h
end Go.Proofs.YteibjeicgeophaaGreatDoor.Abs

namespace Go.Proofs.YteibjeicgeophaaGreatDoor.Abs
open Go
theorem kept_of_stale {s : S} (hs : ∀ g b, s.h.get g = some b → isStale b = true) {γ : G} {w w' : World} (h : Stayed γ s w w') : w.keptBut w' (fun _ => False) := by
  refine ⟨h.os, h.output, fun i hi => ?_⟩
  have hg : w.heap[i]? = some w.heap[i] := Array.getElem?_eq_getElem hi
  have hg' := h.stays i _ hg (fun ⟨id, b, l, h1, h2, _⟩ => by rw [hs id b h1] at h2; cases h2)
  rw [hg, hg']
  cases w.heap[i] with
  | cells c t fr => exact ⟨rfl, rfl, rfl, fun _ _ => rfl⟩
  | map es clock => exact .inr ⟨rfl, rfl⟩
  | _ => rfl
theorem post_old {H : Type} {enc : TypeId × Value → H} {P : Program} {f : Func} {s : ChangeSpec} {apart fresh handsOn : Bool} {W W' : World} {args : Array Value} {v : Value} {ds gs : List (DataW H)} {before pa pv : List MemPlace}
    (hW : DataW.Whole enc P f.params.toList s.vars apart W args.toList ds gs before)
    (hres : ∀ (b : Nat) (sp : Nat → Bool) (hd : Bool), DataW.TrodAll enc P W' b sp hd f.resultTypes.toList (v.resultList f.resultTypes.size) (s.fn H (ds ++ gs)).results [])
    (hargs : ∀ sp : Nat → Bool, (∀ p ∈ before, sp p.block = true) → DataW.TrodAll enc P W' 0 sp true f.params.toList args.toList (s.fn H (ds ++ gs)).args pa)
    (hvars : ∀ sp : Nat → Bool, (∀ p ∈ before, sp p.block = true) → DataW.TrodVars enc P W' sp s.vars (s.fn H (ds ++ gs)).vars pv)
    (hps : before = pa ++ pv) (hk : W.keptBut W' (· ∈ before)) : s.post enc P f apart fresh handsOn false W args v W' := by
  have hold : ∀ p ∈ before, (fun b => decide (b < W.heap.size)) p.block = true := fun p hp => by simpa using hW.lt p hp
  refine ⟨ds, gs, before, [], pa, pv, hW, hres _ _ _, hargs _ hold, hvars _ hold, World.keptBut_mono (fun p hp => ⟨hp, ?_⟩) hk, fun h => by cases h⟩
  rw [hps, List.mem_append] at hp
  exact .inr hp
theorem kept_mono {w w' : World} {may : MemPlace → Prop} (h : w.keptBut w' (fun _ => False)) : w.keptBut w' may := World.keptBut_mono (fun _ f => f.elim) h
def ExtOne (P : Program) (f : FuncId) (e : Ext) : Prop :=
  match e with
  | .index g => IndexOk P f g
  | .closed g t => ClosedOk P f g t
  | .as x => AsOk P f x
  | e => ∃ fn, P.funcs[f]? = some fn ∧ fn.body = none ∧ (fn.name == "runtime.NumGoroutine") = false ∧ Extern.findNext fn = none ∧ Extern.find fn = some (extRow fn e)
def ExtOk (P : Program) : List (FuncId × Ext) → Prop
  | [] => True
  | x :: l => ExtOne P x.1 x.2 ∧ ExtOk P l
theorem ext_one {P : Program} : ∀ {X : List (FuncId × Ext)}, ExtOk P X → ∀ f e, extOf f X = some e → ExtOne P f e
  | [], _, f, e, h => by cases h
  | x :: l, hx, f, e, h => by
    have e1 : extOf f (x :: l) = match Nat.beq x.1 f with | true => some x.2 | false => extOf f l := rfl
    rw [e1] at h
    cases hb : Nat.beq x.1 f with
    | true =>
      rw [hb] at h
      injection h with h
      subst h
      have := Nat.eq_of_beq_eq_true hb
      subst this
      exact hx.1
    | false =>
      rw [hb] at h
      exact ext_one hx.2 f e h
theorem ext_of {P : Program} {X : List (FuncId × Ext)} (h : ExtOk P X) : (∀ f g t, extOf f X = some (.closed g t) → ClosedOk P f g t) ∧ (∀ f g, extOf f X = some (.index g) → IndexOk P f g) ∧ (∀ f x, extOf f X = some (.as x) → AsOk P f x) ∧
    ∀ f e, extOf f X = some e → (∀ g, e ≠ .index g) → (∀ g t, e ≠ .closed g t) → (∀ x, e ≠ .as x) → ∃ fn, P.funcs[f]? = some fn ∧ fn.body = none ∧ (fn.name == "runtime.NumGoroutine") = false ∧ Extern.findNext fn = none ∧ Extern.find fn = some (extRow fn e) := by
  refine ⟨fun f g t he => ext_one h f _ he, fun f g he => ext_one h f _ he, fun f x he => ext_one h f _ he, fun f e he hne hne' hne2 => ?_⟩
  have := ext_one h f e he
  cases e with
  | index g => exact absurd rfl (hne g)
  | closed g t => exact absurd rfl (hne' g t)
  | as x => exact absurd rfl (hne2 x)
  | _ => exact this
def MemosOk (P : Program) : List (FuncId × Memo) → Prop
  | [] => True
  | x :: l => MemoOk P x.1 x.2 ∧ MemosOk P l
theorem memos_of {P : Program} : ∀ {M : List (FuncId × Memo)}, MemosOk P M → ∀ x ∈ M, MemoOk P x.1 x.2
  | [], _, x, hx => by cases hx
  | y :: l, h, x, hx => by
    cases hx with
    | head => exact h.1
    | tail _ hx => exact memos_of h.2 x hx
theorem memo_of {C : Ctx} (hC : Good C) (hM : C.P.follows .mixedOrders = true) {f : FuncId} (n : Nat) {m : Memo} (hf : (C.P.funcs[f]?).isSome = true)
    {l : List (List Fact)} (h : R.res (fun _ => true) ((enterA C (runF C n) f m.args .normal none m.S).bind (lookB (memoHolds m))) = some l) (hu : Unsats l) : MemoOk C.P f m := by
  refine ⟨Option.isSome_iff_exists.1 hf, fun base γ w cargs hR hargs => ?_⟩
  obtain ⟨hT, hG⟩ := good_ctx hC
  refine Calls.mono (calls_of_res hC hM (hR.ctx (show (mkCtx C.P (fun _ => false) []).P = C.P from rfl) hT.symm hG.symm) hargs n h hu) ?_
  rintro e w' ⟨γ', o, x, hst, hx, -, hres⟩
  have hp := lookB_some hx
  unfold memoHolds at hp
  unfold OutIs at hres
  cases hr : o.res with
  | pan ch => rw [hr] at hp; cases hp
  | ret v =>
    rw [hr] at hp hres
    obtain ⟨c, hc, rfl⟩ := hres
    simp only [Bool.and_eq_true] at hp
    obtain ⟨⟨p1, p2⟩, p3⟩ := hp
    have e1 := avEq_spec _ _ p1
    subst e1
    refine ⟨γ', o.s, c, hst.ctx (show C.P = (mkCtx C.P (fun _ => false) []).P from rfl) hT hG, Nat.le_of_ble_eq_true p2, fun x hx => ?_, hc, rfl⟩
    obtain ⟨b, q1, q2, q3⟩ := postOk_spec p3 x hx
    obtain ⟨q4, q5⟩ := blkHold_spec q2
    exact ⟨b, q1, q4, by rw [q5, q3]; rfl⟩
theorem handed_and_shaped {H : Type} {enc : TypeId × Value → H} {a : Assume} {C : Checked} {os : Os} {f : FuncId} {fn : Func} {s : ChangeSpec} {conds : List PathCond} {apart fresh handsOn again : Bool} {X : World → Array Value → Prop}
    (hX : ∀ (w w' : World) (args : Array Value), w.heap = w'.heap → X w args → X w' args)
    (own : ownKnob C.prog.godebug = none) (started : os.Started) (noInit : C.prog.inits.idxOf? f = none) (hfn : C.prog.funcs[f]? = some fn)
    (witness : ∃ (w : World) (tape : Tape) (i : Input), w.os = os ∧ (w.forCall tape i).Shaped C.prog ∧ i.vars = [] ∧ Input.okWide C.prog (w.forCall tape i) .any w.heap.size f i ∧
      ((s.pre enc C.prog fn conds apart (w.forCall tape i).memory i.args ∧ X (w.forCall tape i).memory i.args) ∧ sizedMet enc C.prog fn (OpenSpec.ofChange s) apart (w.forCall tape i).memory i.args) ∧ a.holds C.prog (lone (Frame.enter C.prog f i.args .normal) [] (w.forCall tape i)))
    (contract : ∀ (W : World) (base : Nat) (args : Array Value) (ds gs : List (DataW H)) (before : List MemPlace),
      (∀ (j : Nat) t v, fn.params[j]? = some t → args[j]? = some v → Value.okWide C.prog W .any base t v) →
      DataW.Whole enc C.prog fn.params.toList s.vars apart W args.toList ds gs before →
      conds.all (PathCond.test C.prog ⟨fn.params.toList, ds, s.plain.varTypes C.prog, gs⟩) = true →
      W.ShapedOpen C.prog → X W args →
      Calls C.prog f args W fun e W' => ∃ v, e = .returned v ∧ s.post enc C.prog fn apart fresh handsOn again W args v W') :
    ReturnsInHanded a C os f .any (fun w args => (s.pre enc C.prog fn conds apart w args ∧ X w args) ∧ sizedMet enc C.prog fn (OpenSpec.ofChange s) apart w args) (s.post enc C.prog fn apart fresh handsOn again) := by
  refine returnsInHanded_of_calls own started noInit witness ?_
  intro w tape i _ hsh _ hok hpre _
  obtain ⟨_, _, _, fn', hfn', _, _, _, _, hval⟩ := hok
  have e : fn' = fn := Option.some.inj (hfn'.symm.trans hfn)
  subst e
  obtain ⟨⟨⟨ds, gs, before, hw, hc⟩, hx⟩, _⟩ := hpre
  have hw' := DataW.Whole.of_heap (w' := w.forCall tape i) (by rfl) hw
  refine (contract (w.forCall tape i) w.heap.size i.args ds gs before hval hw' hc hsh (hX _ _ _ (by rfl) hx)).mono fun e W' ⟨v, he, hp⟩ => ?_
  subst he
  exact ChangeSpec.post_blind hp
theorem int_of_shape {P : Program} {w : World} {g t : Nat} (h : w.ShapedOpen P) (hg : Nat.blt g P.globals.size = true)
    (hz : (((begin P (fun _ _ => 0) default).world.heap[g]?).bind Obj.row?) = some (#[.int .i64 0], t)) (hm : ∃ m, w.cell? ⟨g, 0, none⟩ = some (.int .i64 m)) :
    ∃ (vs : Array Value) (m : Int), w.heap[g]? = some (.cells vs t (0, 0)) ∧ vs[0]? = some (.int .i64 m) := by
  obtain ⟨cs, h1, -, -⟩ := h.1 g _ t (Nat.le_of_ble_eq_true hg) hz
  obtain ⟨m, hm⟩ := hm
  refine ⟨cs, m, h1, ?_⟩
  simpa [World.cell?, h1] using hm
end Go.Proofs.YteibjeicgeophaaGreatDoor.Abs

namespace Go.Proofs.YteibjeicgeophaaGreatDoor.Abs
open Go
theorem conMust_res {σ : Nat → SE} {pc : List Fact} {γ : G} (hpc : ∀ f ∈ pc, f.holds γ) : ∀ {l : List Fact} {x : List (List Fact)}, R.res (fun _ => true) (conMust pc σ l) = some x → Unsats x → ∀ f ∈ l, f.pos = true ∧ (f.sub σ).holds γ
  | [], _, _, _ => fun f hf => by cases hf
  | .tr e :: l, x, h, hu => by
    have h : R.res (fun _ => true) (match hasTr (SE.sub σ e) pc with | true => conMust pc σ l | false => R.must (.rel "tr" true pTr [SE.sub σ e] :: pc) (conMust pc σ l)) = some x := h
    cases hk : hasTr (SE.sub σ e) pc with
    | true =>
      rw [hk] at h
      intro f hf
      cases hf with
      | head => exact ⟨rfl, hasTr_spec hpc hk⟩
      | tail _ hf => exact conMust_res hpc h hu f hf
    | false =>
      rw [hk] at h
      obtain ⟨y, h1, rfl⟩ := R.res_must h
      intro f hf
      cases hf with
      | head =>
        refine ⟨rfl, rel_tr.1 ?_⟩
        by_cases hp : ∃ ds, seL γ [SE.sub σ e] = some ds ∧ pTr ds
        · exact hp
        · refine absurd ⟨γ, fun f hf => ?_⟩ (hu _ List.mem_cons_self)
          cases hf with
          | head => exact hp
          | tail _ hf => exact hpc f hf
      | tail _ hf => exact conMust_res hpc h1 (fun pc' hp => hu pc' (List.mem_cons_of_mem _ hp)) f hf
  | .fl e :: l, x, h, hu => by
    have h : R.res (fun _ => true) (match hasFl (SE.sub σ e) pc with | true => conMust pc σ l | false => R.must (.rel "fl" true pFl [SE.sub σ e] :: pc) (conMust pc σ l)) = some x := h
    cases hk : hasFl (SE.sub σ e) pc with
    | true =>
      rw [hk] at h
      intro f hf
      cases hf with
      | head => exact ⟨rfl, hasFl_spec hpc hk⟩
      | tail _ hf => exact conMust_res hpc h hu f hf
    | false =>
      rw [hk] at h
      obtain ⟨y, h1, rfl⟩ := R.res_must h
      intro f hf
      cases hf with
      | head =>
        refine ⟨rfl, rel_fl.1 ?_⟩
        by_cases hp : ∃ ds, seL γ [SE.sub σ e] = some ds ∧ pFl ds
        · exact hp
        · refine absurd ⟨γ, fun f hf => ?_⟩ (hu _ List.mem_cons_self)
          cases hf with
          | head => exact hp
          | tail _ hf => exact hpc f hf
      | tail _ hf => exact conMust_res hpc h1 (fun pc' hp => hu pc' (List.mem_cons_of_mem _ hp)) f hf
  | .inr i n :: l, x, h, hu => by
    have h : R.res (fun _ => true) (match hasInr (SE.sub σ i) (SE.sub σ n) pc with | true => conMust pc σ l | false => R.must (.rel "in" true pIn [SE.sub σ i, SE.sub σ n] :: pc) (conMust pc σ l)) = some x := h
    cases hk : hasInr (SE.sub σ i) (SE.sub σ n) pc with
    | true =>
      rw [hk] at h
      intro f hf
      cases hf with
      | head => exact ⟨rfl, hasInr_spec hpc hk⟩
      | tail _ hf => exact conMust_res hpc h hu f hf
    | false =>
      rw [hk] at h
      obtain ⟨y, h1, rfl⟩ := R.res_must h
      intro f hf
      cases hf with
      | head =>
        refine ⟨rfl, rel_in.1 ?_⟩
        by_cases hp : ∃ ds, seL γ [SE.sub σ i, SE.sub σ n] = some ds ∧ pIn ds
        · exact hp
        · refine absurd ⟨γ, fun f hf => ?_⟩ (hu _ List.mem_cons_self)
          cases hf with
          | head => exact hp
          | tail _ hf => exact hpc f hf
      | tail _ hf => exact conMust_res hpc h1 (fun pc' hp => hu pc' (List.mem_cons_of_mem _ hp)) f hf
  | .rel nm b p args :: l, x, h, hu => by
    cases b with
    | true => cases h
    | false =>
      obtain ⟨y, h1, rfl⟩ := R.res_must (show R.res (fun _ => true) (.must (.rel nm true p (SE.subL σ args) :: pc) (conMust pc σ l)) = some x from h)
      intro f hf
      cases hf with
      | head =>
        refine ⟨rfl, ?_⟩
        by_cases hp : ∃ ds, seL γ (SE.subL σ args) = some ds ∧ p ds
        · exact hp
        · refine absurd ⟨γ, fun f hf => ?_⟩ (hu _ List.mem_cons_self)
          cases hf with
          | head => exact hp
          | tail _ hf => exact hpc f hf
      | tail _ hf => exact conMust_res hpc h1 (fun pc' hp => hu pc' (List.mem_cons_of_mem _ hp)) f hf
theorem postFits_mem {h : Tr Blk} {θ : Nat → Nat} {ν : Nat → SE} : ∀ {l : List (Nat × CB)}, postFits h θ ν l = true → ∀ x ∈ l, ∃ b, h.get (θ x.1) = some b ∧ cbHold b (x.2.sub θ ν) = true ∧ x.2.live = true
  | [], _, x, hx => by cases hx
  | y :: l, e, x, hx => by
    unfold postFits at e
    cases hg : h.get (θ y.1) with
    | none => rw [hg] at e; cases e
    | some b =>
      rw [hg] at e
      simp only [Bool.and_eq_true] at e
      cases hx with
      | head => exact ⟨b, hg, e.1, e.2.1⟩
      | tail _ hx => exact postFits_mem e.2.2 x hx
theorem thOf_spec {n next : Nat} {l : List (Nat × Nat)} (hn : n ≤ next) : (∀ i, i < n → thOf n next l i = i) ∧ ∀ i, n ≤ i → n ≤ thOf n next l i := by
  refine ⟨fun i h => by unfold thOf; rw [blt_true h], fun i h => ?_⟩
  unfold thOf
  rw [blt_false h]
  simp only
  cases lookN i l with
  | none => exact hn
  | some j =>
    simp only
    cases hb : Nat.ble n j with
    | true => exact Nat.le_of_ble_eq_true hb
    | false => exact hn
theorem nuOf_spec {n m : Nat} {l : List (Nat × SE)} : (∀ i, i < n → nuOf n m l i = .var i) ∧ ∀ (γ : G) i, n + m ≤ i → seG γ (nuOf n m l i) = none := by
  refine ⟨fun i h => by unfold nuOf; rw [blt_true h], fun γ i h => ?_⟩
  unfold nuOf
  rw [blt_false (show n ≤ i by omega)]
  simp only
  rw [show Nat.blt i (Nat.add n m) = false from blt_false h]
  rfl
theorem lookOuts_spec {C : Ctx} {base : Nat} {c : Con} {pan : Bool} {s : S} {v : AV} {γ : G} {w : World} {cv : Value} (hR : Rel C base γ s w) (hv : conc γ v = some cv) (hn : c.n ≤ s.next) : ∀ {l : List ConOut} {x : List (List Fact)}, R.res (fun _ => true) (lookOuts C c pan s v l) = some x → Unsats x →
    ∃ o, o ∈ l ∧ o.pan = pan ∧ ∃ (γ' : G) (s' : S) (v' : AV) (θ : Nat → Nat) (ν : Nat → SE), Step C base γ s w γ' s' w ∧ conc γ' v' = some cv ∧ (∀ i, i < c.n → θ i = i ∧ ν i = .var i) ∧ (∀ i, c.n ≤ i → c.n ≤ θ i) ∧ (∀ i, c.n + o.m ≤ i → seG γ' (ν i) = none) ∧
      outFits s' v' o θ ν = true ∧ ∀ f ∈ o.facts, f.pos = true ∧ (f.sub ν).holds γ'
  | [], x, h, hu => by
    obtain ⟨y, -, rfl⟩ := R.res_must (show R.res (fun _ => true) (R.must s.pc (R.ok ())) = some x from h)
    exact absurd ⟨γ, fun f hf => (hR.pc f hf).2⟩ (hu s.pc List.mem_cons_self)
  | o :: l, x, h, hu => by
    unfold lookOuts at h
    cases hp : xorB o.pan pan with
    | true =>
      rw [hp] at h
      obtain ⟨o', h3, h2⟩ := lookOuts_spec hR hv hn h hu
      exact ⟨o', List.mem_cons_of_mem _ h3, h2⟩
    | false =>
    rw [hp] at h
    have hpan : o.pan = pan := by
      cases ho : o.pan <;> cases pan <;> rw [ho] at hp <;> first | rfl | cases hp
    simp only at h
    obtain ⟨r, y, ⟨γ', hst, hc⟩, h1, hu1⟩ := R.res_bind h hu (path_frzV o.res v hR hv)
    revert h1
    obtain ⟨tl, vl⟩ := matPost c.n r.2.h o.post (matV o.res r.1 ([], []))
    intro h1
    simp only at h1
    cases hf : outFits r.2 r.1 o (thOf c.n r.2.next tl) (nuOf c.n o.m vl) with
    | true =>
      rw [hf] at h1
      exact ⟨o, List.mem_cons_self, hpan, γ', r.2, r.1, _, _, hst, hc, fun i hi => ⟨(thOf_spec (Nat.le_trans hn hst.next)).1 i hi, nuOf_spec.1 i hi⟩, (thOf_spec (Nat.le_trans hn hst.next)).2, nuOf_spec.2 γ', hf, conMust_res (fun f hf => (hst.rel.pc f hf).2) h1 hu1⟩
    | false =>
      rw [hf] at h1
      obtain ⟨o', h3, h2⟩ := lookOuts_spec hR hv hn h1 hu1
      exact ⟨o', List.mem_cons_of_mem _ h3, h2⟩
theorem con_of {C : Ctx} (hC : Good C) (hM : C.P.follows .mixedOrders = true) (c : Con) (n : Nat) {l : List (List Fact)}
    (h : ∀ tl, R.res (fun _ => true) ((runF C n (c.fi tl) c.tr c.todo [] .run none c.S).bind (conLook C c)) = some l) (hu : Unsats l) : ConOk C.P c := by
  obtain ⟨hT, hG⟩ := good_ctx hC
  have hP : C.P = (mkCtx C.P (fun _ => false) []).P := rfl
  intro base γ ro tl tm items cs w hfr
  have hs := sound_run hC (drawn C base hC hM) n γ (c.fi tl) ro c.tr c.todo [] .run none c.S tm items tl .run cs w (hfr.over hP.symm hT.symm hG.symm)
  obtain ⟨o, x, ⟨γ1, w', cs', hst, hctx, hcs, hres⟩, hx, hux⟩ := R.res_bind (h tl) hu hs
  have hcs' : cs' = cs := hcs
  subst hcs'
  obtain ⟨res, octx, s1⟩ := o
  have fin : ∀ {v : AV} {cv : Value} {pan : Bool}, conc γ1 v = some cv → R.res (fun _ => true) (lookOuts C c pan s1 v c.outs) = some x → EndC (mkCtx C.P (fun _ => false) []) (c.fi tl) cs' (lone (mkFr (c.fi tl) ro tm items tl .run) cs' w) w' cv pan → ConEnds C.P c base γ (lone (mkFr (c.fi tl) ro tm items tl .run) cs' w) tl cs' w := by
    intro v cv pan hcv hx hend
    obtain ⟨o, ho, hpan, γ2, s2, v2, θ, ν, hfz, hcv2, h1, h2, h3, h4, h5⟩ := lookOuts_spec hst.rel hcv hst.next hx hux
    simp only [outFits, Bool.and_eq_true] at h4
    obtain ⟨g1, g2, g3⟩ := h4
    have g1 := avEq_spec _ _ g1
    subst g1
    exact ⟨o, ho, γ2, s2, w', θ, ν, cv, (hst.trans hfz).ctx hP hT hG, h1, h2, fun x hx => by
      obtain ⟨b, q1, q2, q3⟩ := postFits_mem g2 x hx
      obtain ⟨lc, ob, r1, -, -⟩ := hfz.rel.blk _ b q1
      exact ⟨b, lc, q1, by rw [(cbHold_spec q2).2, live_sub, q3]; rfl, r1, fun ob hob => (cbHold_spec q2).1 _ γ2 lc ob hob⟩, fun x hx y hy hne => nodup_spec g3 x hx y hy hne, h3, h5, hcv2, by rw [hpan]; exact hend⟩
  have none_ : R.res (fun _ => true) (R.must s1.pc (R.ok ())) = some x → False := fun hx => by
    obtain ⟨y, -, rfl⟩ := R.res_must hx
    exact hux s1.pc List.mem_cons_self ⟨γ1, fun f hf => (hst.rel.pc f hf).2⟩
  cases res with
  | pan ch =>
    cases ch with
    | nil => exact (none_ hx).elim
    | cons p l =>
      cases l with
      | cons _ _ => exact (none_ hx).elim
      | nil =>
        obtain ⟨pv, pr⟩ := p
        cases pr with
        | true => exact (none_ hx).elim
        | false =>
          obtain ⟨cch, hcch, fr', k1, k2, k3, k4⟩ := hres
          have hcch : (match concPE γ1 ⟨pv, false⟩, concCh γ1 [] with | some a, some b => some (a :: b) | _, _ => none) = some cch := hcch
          unfold concPE at hcch
          cases hcv : conc γ1 pv with
          | none => rw [hcv] at hcch; cases hcch
          | some cv =>
            rw [hcv] at hcch
            obtain rfl := Option.some.inj (show some [({ v := cv, recovered := false } : PanicEntry)] = some cch from hcch)
            exact fin hcv (show R.res (fun _ => true) (lookOuts C c true s1 pv c.outs) = some x from hx) ⟨fr', k1, k2, k3, k4⟩
  | ret v =>
    obtain ⟨cv, hcv, hend⟩ := hres
    refine fin hcv (show R.res (fun _ => true) (lookOuts C c false s1 v c.outs) = some x from hx) ?_
    show EndR _ _ _ _ _ _
    unfold EndR
    cases hr : (c.fi tl).roundOf with
    | none => rw [hr] at hend; exact hend
    | some i => rw [hr] at hend; exact hend
end Go.Proofs.YteibjeicgeophaaGreatDoor.Abs

namespace Go.Proofs.YteibjeicgeophaaGreatDoor.Abs
open Go
mutual
def msz : Dt → Nat
  | .val _ => 1
  | .sl _ _ _ es => mszL es + 1
  | .pt _ _ _ _ _ _ => 1
  | .ls _ es => mszL es + 1
def mszL : List Dt → Nat
  | [] => 0
  | d :: l => msz d + mszL l
end
theorem mszL_append : ∀ {l m : List Dt}, mszL (l ++ m) = mszL l + mszL m
  | [], m => by simp [mszL]
  | d :: l, m => by simp only [List.cons_append, mszL, mszL_append (l := l)]; omega
mutual
def bulk {H : Type} : DataW H → Nat
  | .lit (.string bytes) => bytes.length + 1
  | .lit _ => 1
  | .nil => 1
  | .ptr d => bulk d + 1
  | .slice elems spare => bulkAll elems + bulkAll spare + 1
  | .agg parts => bulkAll parts + 1
  | .iface _ d => bulk d + 1
  | .map entries => bulkEntries entries + 1
  | .held _ => 1
def bulkAll {H : Type} : List (DataW H) → Nat
  | [] => 0
  | d :: r => bulk d + bulkAll r
def bulkEntries {H : Type} : List (Lit × DataW H) → Nat
  | [] => 0
  | x :: r => bulkEntry x + bulkEntries r
def bulkEntry {H : Type} : Lit × DataW H → Nat
  | (.string bytes, d) => bytes.length + bulk d + 1
  | (_, d) => bulk d + 1
end
def fitL (C : Ctx) (w : World) (F : Nat → Prop) : List Kd → List Dt → Prop
  | [], [] => True
  | k :: ks, d :: ds => k.fits d ∧ d.good C w F ∧ fitL C w F ks ds
  | _, _ => False
section
variable {C : Ctx} {w : World} {F : Nat → Prop}
theorem fitL_len : ∀ {ks : List Kd} {ds : List Dt}, fitL C w F ks ds → ds.length = ks.length
  | [], [], _ => rfl
  | _ :: _, _ :: _, h => by simp [fitL_len h.2.2]
  | [], _ :: _, h => h.elim
  | _ :: _, [], h => h.elim
theorem fitL_get : ∀ {ks : List Kd} {ds : List Dt} {i : Nat} {d : Dt}, fitL C w F ks ds → ds[i]? = some d → ∃ k, ks[i]? = some k ∧ k.fits d ∧ d.good C w F
  | [], [], i, d, _, h => by simp at h
  | k :: ks, d :: ds, 0, d', h, e => by
    simp only [List.getElem?_cons_zero, Option.some.injEq] at e
    subst e
    exact ⟨k, rfl, h.1, h.2.1⟩
  | k :: ks, d :: ds, i + 1, d', h, e => by simpa using fitL_get (i := i) h.2.2 (by simpa using e)
  | [], _ :: _, _, _, h, _ => h.elim
  | _ :: _, [], _, _, h, _ => h.elim
theorem fitL_append : ∀ {ks ks' : List Kd} {ds ds' : List Dt}, fitL C w F ks ds → fitL C w F ks' ds' → fitL C w F (ks ++ ks') (ds ++ ds')
  | [], _, [], _, _, h => h
  | _ :: _, _, _ :: _, _, h, h' => ⟨h.1, h.2.1, fitL_append h.2.2 h'⟩
  | [], _, _ :: _, _, h, _ => h.elim
  | _ :: _, _, [], _, h, _ => h.elim
theorem Dt.goodL.mk {ks : List Kd} : ∀ {l : List Dt} {j : Nat}, (∀ (i : Nat) d, l[i]? = some d → (∃ k, ks[(j + i) % ks.length]? = some k ∧ k.fits d) ∧ d.good C w F) → Dt.goodL C w F ks j l
  | [], _, _ => trivial
  | d :: l, j, h => ⟨(h 0 d rfl).1, (h 0 d rfl).2, Dt.goodL.mk fun i d' hi => by
      have := h (i + 1) d' (by simpa using hi)
      rwa [show j + (i + 1) = j + 1 + i by omega] at this⟩
theorem goodL_join {ks : List Kd} : ∀ {dss : List (List Dt)} {q : Nat}, (∀ x ∈ dss, fitL C w F ks x) → Dt.goodL C w F ks (q * ks.length) dss.flatten
  | [], _, _ => trivial
  | x :: dss, q, h => .mk fun i d hi => by
    have hx := h x List.mem_cons_self
    have hr := goodL_join (dss := dss) (q := q + 1) fun y hy => h y (List.mem_cons_of_mem _ hy)
    rw [List.flatten_cons, List.getElem?_append] at hi
    split at hi
    · next hlt =>
      obtain ⟨k, h1, h2, h3⟩ := fitL_get hx hi
      refine ⟨⟨k, ?_, h2⟩, h3⟩
      have hl : i < ks.length := by rw [← fitL_len hx]; exact hlt
      rw [Nat.mul_comm, Nat.mul_add_mod, Nat.mod_eq_of_lt hl]
      exact h1
    · next hge =>
      have := hr.get hi
      rw [show (q + 1) * ks.length + (i - x.length) = q * ks.length + i by rw [fitL_len hx, Nat.add_mul, Nat.one_mul]; rw [fitL_len hx] at hge; omega] at this
      exact this
end
noncomputable def fieldsOk (C : Ctx) (L : List TypeId) : List Field → Nat → List Kd → Bool
  | [] => fun _ ks => match ks with | [] => true | _ :: _ => false
  | f :: fs => fun off ks => Nat.beq f.offset off && (hasN f.type L && (Nat.beq (C.P.cellsOf f.type) (cellKds C f.type).length && (kdsEq (ks.take (cellKds C f.type).length) (cellKds C f.type) && fieldsOk C L fs (Nat.add off (cellKds C f.type).length) (ks.drop (cellKds C f.type).length))))
noncomputable def tyOk (C : Ctx) (L : List TypeId) (t : TypeId) : Bool :=
  match C.P.underlying t with
  | some d => match d with
    | .int k => kdsEq (cellKds C t) [.int k]
    | .bool => kdsEq (cellKds C t) [.bool]
    | .string => kdsEq (cellKds C t) [.str]
    | .slice e => kdsEq (cellKds C t) [.sl e] && (hasN e L && (!Nat.beq (C.P.cellsOf e) 0 && Nat.beq (C.P.cellsOf e) (cellKds C e).length))
    | .struct fs => fieldsOk C L fs.toList 0 (cellKds C t) && Nat.beq (C.P.cellsOf t) (cellKds C t).length
    | _ => false
  | none => false
noncomputable def tysOk (C : Ctx) (L : List TypeId) : List TypeId → Bool
  | [] => true
  | t :: l => tyOk C L t && tysOk C L l
theorem hasN_in {k : Nat} : ∀ {l : List Nat}, hasN k l = true → k ∈ l
  | [], h => by cases h
  | e :: es, h => by
    unfold hasN at h
    cases hb : Nat.beq k e with
    | true => rw [Nat.eq_of_beq_eq_true hb]; exact List.mem_cons_self
    | false => rw [hb] at h; exact List.mem_cons_of_mem _ (hasN_in h)
theorem tysOk_mem {C : Ctx} {L : List TypeId} : ∀ {l : List TypeId}, tysOk C L l = true → ∀ t ∈ l, tyOk C L t = true
  | [], _, t, ht => by cases ht
  | x :: l, h, t, ht => by
    simp only [tysOk, Bool.and_eq_true] at h
    cases ht with
    | head => exact h.1
    | tail _ ht => exact tysOk_mem h.2 t ht
section
variable {H : Type} {enc : TypeId × Value → H} {C : Ctx} {w : World} {spare : Nat → Bool} {held : Bool} {L : List TypeId}
theorem each_dt {α : Type} {F : Nat → Prop} {ks : List Kd} {g : α → DataW H} : ∀ (n : Nat) (xs : List α) (rd : Nat → List Value), xs.length = n →
    (∀ (i : Nat) x, xs[i]? = some x → ∃ ds : List Dt, ds.map Dt.v = rd i ∧ fitL C w F ks ds ∧ mszL ds ≤ bulk (g x)) →
    ∃ dss : List (List Dt), dss.length = n ∧ (∀ (i : Nat) ds, dss[i]? = some ds → ds.map Dt.v = rd i) ∧ (∀ x ∈ dss, fitL C w F ks x) ∧ mszL dss.flatten ≤ bulkAll (xs.map g)
  | 0, [], rd, _, _ => ⟨[], rfl, (fun i ds h => by simp at h), (fun x hx => by cases hx), by simp [mszL, bulkAll]⟩
  | n + 1, x :: xs, rd, hn, h => by
    obtain ⟨ds, h1, h2, h3⟩ := h 0 x rfl
    obtain ⟨dss, g1, g2, g3, g4⟩ := each_dt n xs (fun i => rd (i + 1)) (by simpa using hn) fun i y hy => h (i + 1) y (by simpa using hy)
    refine ⟨ds :: dss, by simp [g1], fun i e he => ?_, fun y hy => ?_, ?_⟩
    · cases i with
      | zero => simp only [List.getElem?_cons_zero, Option.some.injEq] at he; subst he; exact h1
      | succ i => exact g2 i e (by simpa using he)
    · cases hy with
      | head => exact h2
      | tail _ hy => exact g3 y hy
    · rw [List.flatten_cons, mszL_append, List.map_cons]
      simp only [bulkAll]; omega
theorem fields_dt {F : Nat → Prop} {m : Nat} {cs : List Value} (ih : ∀ (t : TypeId) (cs : List Value) (x : DataW H × List MemPlace), t ∈ L → DataW.trod enc C.P w 0 spare held m t cs = some x → ∃ ds : List Dt, ds.map Dt.v = cs ∧ fitL C w F (cellKds C t) ds ∧ mszL ds ≤ bulk x.1) :
    ∀ (fs : List Field) (xs : List (DataW H × List MemPlace)) (off : Nat) (ks : List Kd), fieldsOk C L fs off ks = true → off + ks.length = cs.length → xs.length = fs.length →
      (∀ (i : Nat) f, fs[i]? = some f → DataW.trod enc C.P w 0 spare held m f.type ((cs.drop f.offset).take (C.P.cellsOf f.type)) = xs[i]?) →
      ∃ ds : List Dt, ds.map Dt.v = cs.drop off ∧ fitL C w F ks ds ∧ mszL ds ≤ bulkAll (xs.map (·.1))
  | [], [], off, ks, h, hl, _, _ => by
    cases ks with
    | cons _ _ => cases h
    | nil =>
      simp only [List.length_nil, Nat.add_zero] at hl
      exact ⟨[], by rw [List.drop_eq_nil_of_le (by omega)]; rfl, trivial, by simp [mszL, bulkAll]⟩
  | f :: fs, x :: xs, off, ks, h, hl, hn, hx => by
    simp only [fieldsOk, Bool.and_eq_true] at h
    obtain ⟨h1, h2, h3, h4, h5⟩ := h
    have h1 := Nat.eq_of_beq_eq_true h1
    have h3 := Nat.eq_of_beq_eq_true h3
    have h4 := kdsEq_spec h4
    have h0 := hx 0 f rfl
    simp only [List.getElem?_cons_zero] at h0
    obtain ⟨ds, d1, d2, d3⟩ := ih f.type _ x (hasN_in h2) h0
    have hle : (cellKds C f.type).length ≤ ks.length := by
      have := congrArg List.length h4
      rw [List.length_take] at this
      omega
    obtain ⟨es, e1, e2, e3⟩ := fields_dt (F := F) (cs := cs) ih fs xs (off + (cellKds C f.type).length) (ks.drop (cellKds C f.type).length) h5 (by rw [List.length_drop]; omega) (by simpa using hn) fun i g hg => by
      have := hx (i + 1) g (by simpa using hg)
      simpa using this
    refine ⟨ds ++ es, ?_, ?_, ?_⟩
    · rw [List.map_append, d1, e1, h1, h3, ← List.drop_drop, List.take_append_drop]
    · have := fitL_append d2 e2
      rwa [← h4, List.length_take, Nat.min_eq_left hle, List.take_append_drop] at this
    · rw [mszL_append, List.map_cons]
      simp only [bulkAll]; omega
  | [], _ :: _, _, _, _, _, h, _ => by simp at h
  | _ :: _, [], _, _, _, _, h, _ => by simp at h
theorem data_of (hL : ∀ t ∈ L, tyOk C L t = true) : ∀ (fuel : Nat) (t : TypeId) (cs : List Value) (x : DataW H × List MemPlace), t ∈ L → DataW.trod enc C.P w 0 spare held fuel t cs = some x →
    ∃ ds : List Dt, ds.map Dt.v = cs ∧ fitL C w (fun k => k < w.heap.size) (cellKds C t) ds ∧ mszL ds ≤ bulk x.1
  | 0, _, _, _, _, h => by simp [DataW.trod] at h
  | fuel + 1, t, cs, x, ht, h => by
    have hok := hL t ht
    unfold tyOk at hok
    cases hu : C.P.underlying t with
    | none => rw [hu] at hok; cases hok
    | some d =>
      rw [hu] at hok
      cases d <;> first | (cases hok; done) | skip
      case bool =>
        obtain ⟨b, rfl, rfl⟩ := DataW.trod_bool hu h
        rw [kdsEq_spec hok]
        exact ⟨[.val (.bool b)], rfl, ⟨⟨b, rfl⟩, rfl, trivial⟩, by simp [mszL, msz, bulk]⟩
      case int k =>
        obtain ⟨n, rfl, rfl, -⟩ := DataW.trod_int hu h
        rw [kdsEq_spec hok]
        exact ⟨[.val (.int k n)], rfl, ⟨⟨n, rfl⟩, rfl, trivial⟩, by simp [mszL, msz, bulk]⟩
      case string =>
        obtain ⟨s, rfl, rfl, -⟩ := DataW.trod_string hu h
        rw [kdsEq_spec hok]
        exact ⟨[.val (.string s)], rfl, ⟨⟨s, rfl⟩, rfl, trivial⟩, by simp [mszL, msz, bulk]⟩
      case slice e =>
        simp only [Bool.and_eq_true, Bool.not_eq_true'] at hok
        obtain ⟨h1, h2, h3, h4⟩ := hok
        have h4 := Nat.eq_of_beq_eq_true h4
        have h0 : C.P.cellsOf e ≠ 0 := by intro q; rw [q] at h3; cases h3
        rw [kdsEq_spec h1]
        rcases DataW.trod_slice hu h with ⟨rfl, rfl⟩ | ⟨a, len, cap, elems, rest, n, hf, rfl, rfl, hb, hl, hm, hlen, hel, hsp, hns⟩
        · exact ⟨[.sl (.slice none 0 0) e 0 []], rfl, ⟨⟨_, _, _, _, _, rfl⟩, .inl ⟨rfl, rfl⟩, trivial⟩, by simp [mszL, msz, bulk]⟩
        · obtain rfl : fuel = n := by omega
          have each : ∀ (i : Nat) y, elems[i]? = some y → ∃ cs', w.cells? 0 (a.add (i * C.P.cellsOf e)) (C.P.cellsOf e) = some cs' ∧ DataW.trod enc C.P w 0 spare held fuel e cs' = some y := by
            intro i y hy
            have hlt : i < len := by rw [← hlen]; exact (List.getElem?_eq_some_iff.1 hy).1
            have := hel i hlt
            rw [hy] at this
            exact Option.bind_eq_some_iff.1 this
          obtain ⟨dss, d1, d2, d3, d4⟩ := each_dt (C := C) (w := w) (F := fun k => k < w.heap.size) (ks := cellKds C e) (g := fun y : DataW H × List MemPlace => y.1) len elems
            (fun i => (w.cells? 0 (a.add (i * C.P.cellsOf e)) (C.P.cellsOf e)).getD []) hlen fun i y hy => by
              obtain ⟨cs', q1, q2⟩ := each i y hy
              rw [q1]
              exact data_of hL fuel e cs' y (hasN_in h2) q2
          have dl : ∀ x ∈ dss, x.length = C.P.cellsOf e := fun x hx => by rw [fitL_len (d3 x hx), h4]
          have flen : ∀ (l : List (List Dt)), (∀ x ∈ l, x.length = C.P.cellsOf e) → l.flatten.length = l.length * C.P.cellsOf e := by
            intro l
            induction l with
            | nil => intro _; simp
            | cons x l ih =>
              intro hx
              rw [List.flatten_cons, List.length_append, hx x List.mem_cons_self, ih fun y hy => hx y (List.mem_cons_of_mem _ hy), List.length_cons, Nat.add_mul]
              omega
          have fget : ∀ (l : List (List Dt)) (j : Nat) (d : Dt), (∀ x ∈ l, x.length = C.P.cellsOf e) → l.flatten[j]? = some d → ∃ i q x, q < C.P.cellsOf e ∧ j = i * C.P.cellsOf e + q ∧ l[i]? = some x ∧ x[q]? = some d := by
            intro l
            induction l with
            | nil => intro j d _ h; simp at h
            | cons x l ih =>
              intro j d hx hj
              have hxl := hx x List.mem_cons_self
              rw [List.flatten_cons, List.getElem?_append] at hj
              split at hj
              · next hlt => exact ⟨0, j, x, by omega, by omega, rfl, hj⟩
              · next hge =>
                obtain ⟨i, q, y, g1, g2, g3, g4⟩ := ih (j - x.length) d (fun y hy => hx y (List.mem_cons_of_mem _ hy)) hj
                exact ⟨i + 1, q, y, g1, by rw [Nat.add_mul]; omega, by simpa using g3, g4⟩
          refine ⟨[.sl (.slice (some a) len cap) e (C.P.cellsOf e) dss.flatten], rfl, ⟨⟨_, _, _, _, _, rfl⟩, .inr ⟨h4, ⟨a, len, cap, rfl, by rw [flen dss dl, d1], fun hne => ?_⟩, ?_⟩, trivial⟩, ?_⟩
          ·
            have cellAt : ∀ (i q : Nat) x d, dss[i]? = some x → x[q]? = some d → q < C.P.cellsOf e → w.cell? ((a.add (i * C.P.cellsOf e)).add q) = some d.v := by
              intro i q x d hx hd hq
              have hlt : i < len := by rw [← d1]; exact (List.getElem?_eq_some_iff.1 hx).1
              have hlt2 : i < elems.length := by rw [hlen]; exact hlt
              obtain ⟨cs', q1, -⟩ := each i _ (List.getElem?_eq_getElem hlt2)
              have hv := d2 i x hx
              simp only [q1, Option.getD_some] at hv
              have := (World.cells?_some q1).2.2 q hq
              rw [this, ← hv, List.getElem?_map, hd]
              rfl
            have hlt0 : 0 < dss.length := by omega
            have hx0 := List.getElem?_eq_getElem hlt0
            have hl0 := dl _ (List.getElem_mem hlt0)
            have hlt1 : 0 < (dss[0]).length := by omega
            have c0 := cellAt 0 0 _ _ hx0 (List.getElem?_eq_getElem hlt1) (by omega)
            simp only [Nat.zero_mul, Addr.add, if_true] at c0
            have hblk : ∃ (vs : Array Value) (t' : TypeId) (lo hi : Nat), w.heap[a.block]? = some (.cells vs t' (lo, hi)) ∧ a.spot = none := by
              unfold World.cell? at c0
              cases hh : w.heap[a.block]? with
              | none => rw [hh] at c0; cases c0
              | some o =>
                rw [hh] at c0
                cases o <;> first | (cases c0; done) | skip
                rename_i vs t' fr
                obtain ⟨lo, hi⟩ := fr
                cases hs : a.spot with
                | none => exact ⟨vs, t', lo, hi, rfl, rfl⟩
                | some p => rw [hs] at c0; cases c0
            obtain ⟨vs, t', lo, hi, hh, hsn⟩ := hblk
            refine ⟨hsn, ?_, vs, t', lo, hi, hh, fun j d hj => ?_⟩
            · rcases Nat.lt_or_ge a.block w.heap.size with h' | h'
              · exact h'
              · rw [Array.getElem?_eq_none h'] at hh; cases hh
            · obtain ⟨i, q, x, g1, g2, g3, g4⟩ := fget dss j d dl hj
              have c := cellAt i q x d g3 g4 g1
              obtain ⟨ab, ao, asp⟩ := a
              simp only at hsn hh
              subst hsn
              rw [addr_add, addr_add] at c
              unfold World.cell? at c
              rw [hh] at c
              rw [g2, ← Nat.add_assoc]
              exact c
          · have := goodL_join (C := C) (w := w) (F := fun k => k < w.heap.size) (ks := cellKds C e) (dss := dss) (q := 0) d3
            rwa [Nat.zero_mul] at this
          · simp only [mszL, msz, bulk]
            omega
      case struct fs =>
        simp only [Bool.and_eq_true] at hok
        obtain ⟨h1, h2⟩ := hok
        have h2 := Nat.eq_of_beq_eq_true h2
        obtain ⟨xs, n, hf, rfl, hl, hlen, hx⟩ := DataW.trod_struct hu h
        obtain rfl : fuel = n := by omega
        obtain ⟨ds, d1, d2, d3⟩ := fields_dt (F := fun k => k < w.heap.size) (cs := cs) (fun t cs x h1 h2 => data_of hL fuel t cs x h1 h2) fs.toList xs 0 (cellKds C t) h1 (by rw [Nat.zero_add, ← h2, hl]) (by simpa using hlen)
          (fun i f hi => by rw [Array.getElem?_toList] at hi; exact hx i f hi)
        exact ⟨ds, by simpa using d1, d2, by simp only [bulk]; omega⟩
end
end Go.Proofs.YteibjeicgeophaaGreatDoor.Abs

namespace Go.Proofs.YteibjeicgeophaaGreatDoor.Abs
open Go
mutual
def Dt.wf (K : TypeId → List Kd) : Dt → Prop
  | .val v => oneV v = true
  | .sl v t sz es => (v = .slice none 0 0 ∧ es = []) ∨ (sz = (K t).length ∧ (∃ a n c, v = .slice (some a) n c ∧ es.length = n * sz) ∧ Dt.wfL K (K t) 0 es)
  | .pt _ _ _ _ _ _ => True
  | .ls ks es => Dt.wfL K ks 0 es
def Dt.wfL (K : TypeId → List Kd) (ks : List Kd) : Nat → List Dt → Prop
  | _, [] => True
  | j, d :: l => (∃ k, ks[j % ks.length]? = some k ∧ k.fits d) ∧ Dt.wf K d ∧ Dt.wfL K ks (j + 1) l
end
mutual
theorem Dt.good.wf {C : Ctx} {w : World} {F : Nat → Prop} : ∀ (d : Dt), d.good C w F → d.wf (cellKds C)
  | .val _, h => h
  | .sl v t sz es, h => by
    rcases h with h | ⟨h0, ⟨a, n, c, e1, e3, -⟩, h2⟩
    · exact .inl h
    · exact .inr ⟨h0, ⟨a, n, c, e1, e3⟩, Dt.goodL.wf _ 0 es h2⟩
  | .pt _ _ _ _ _ _, _ => trivial
  | .ls ks es, h => Dt.goodL.wf ks 0 es h
theorem Dt.goodL.wf {C : Ctx} {w : World} {F : Nat → Prop} (ks : List Kd) : ∀ (j : Nat) (l : List Dt), Dt.goodL C w F ks j l → Dt.wfL (cellKds C) ks j l
  | _, [], _ => trivial
  | j, d :: l, ⟨h1, h2, h3⟩ => ⟨h1, Dt.good.wf d h2, Dt.goodL.wf ks (j + 1) l h3⟩
end
section
variable {K : TypeId → List Kd} {ks : List Kd}
theorem Dt.wfL.mk : ∀ {l : List Dt} {j : Nat}, (∀ (i : Nat) d, l[i]? = some d → (∃ k, ks[(j + i) % ks.length]? = some k ∧ k.fits d) ∧ d.wf K) → Dt.wfL K ks j l
  | [], _, _ => trivial
  | d :: l, j, h => ⟨(h 0 d rfl).1, (h 0 d rfl).2, Dt.wfL.mk fun i d' hi => by
      have := h (i + 1) d' (by simpa using hi)
      rwa [show j + (i + 1) = j + 1 + i by omega] at this⟩
end
def dataOk (K : TypeId → List Kd) : List TypeId → List Dt → Prop
  | [], l => l = []
  | t :: ts, l => ∃ a b, l = a ++ b ∧ a.length = (K t).length ∧ Dt.wfL K (K t) 0 a ∧ dataOk K ts b
theorem fitL_wf {C : Ctx} {w : World} {F : Nat → Prop} {ks : List Kd} {ds : List Dt} (h : fitL C w F ks ds) : Dt.wfL (cellKds C) ks 0 ds := .mk fun i d hi => by
  obtain ⟨k, h1, h2, h3⟩ := fitL_get h hi
  have hlt : i < ks.length := (List.getElem?_eq_some_iff.1 h1).1
  rw [Nat.zero_add, Nat.mod_eq_of_lt hlt]
  exact ⟨⟨k, h1, h2⟩, Dt.good.wf d h3⟩
def pArgs (K : TypeId → List Kd) (ts : List TypeId) (N : Nat) (l : List Dt) : Prop := dataOk K ts l ∧ mszL l ≤ N
end Go.Proofs.YteibjeicgeophaaGreatDoor.Abs

namespace Go.Proofs.YteibjeicgeophaaGreatDoor.Abs
open Go Go.ChangeShapes
noncomputable def opqsD : List Kd → Nat → List AV
  | [] => fun _ => []
  | k :: l => fun i => .opq k (.var i) :: opqsD l (Nat.add i 1)
noncomputable def argAV (C : Ctx) (t : TypeId) (i : Nat) : AV :=
  match C.P.underlying t with
  | none => .junk
  | some d => match d with
    | .struct _ => .agg (opqsD (cellKds C t) i)
    | _ => match opqsD (cellKds C t) i with
      | [] => .junk
      | v :: l => match l with
        | [] => v
        | _ :: _ => .junk
noncomputable def argAVs (C : Ctx) : List TypeId → Nat → List AV
  | [] => fun _ => []
  | t :: ts => fun i => argAV C t i :: argAVs C ts (Nat.add i (cellKds C t).length)
noncomputable def argN (C : Ctx) : List TypeId → Nat
  | [] => 0
  | t :: ts => Nat.add (cellKds C t).length (argN C ts)
section
variable {H : Type} {enc : TypeId × Value → H} {C : Ctx} {w : World} {spare : Nat → Bool} {held : Bool} {L : List TypeId}
theorem conc_opqsD {γ : G} {F : Nat → Prop} : ∀ {ks : List Kd} {ds : List Dt} {i : Nat}, fitL C w F ks ds → (∀ (j : Nat) x, ds[j]? = some x → seG γ (.var (i + j)) = some x) → concL γ (opqsD ks i) = some (ds.map Dt.v)
  | [], [], _, _, _ => rfl
  | k :: ks, d :: ds, i, h, hg => by
    refine concL_cons.2 ⟨d.v, ds.map Dt.v, conc_of (hg 0 d rfl) h.1 rfl, conc_opqsD (i := i + 1) h.2.2 fun j x hx => ?_, rfl⟩
    have := hg (j + 1) x (by simpa using hx)
    rwa [show i + (j + 1) = i + 1 + j by omega] at this
  | [], _ :: _, _, h, _ => h.elim
  | _ :: _, [], _, h, _ => h.elim
theorem one_of_wide {P : Program} {w : World} {r : Reach} {base : Nat} {u : TypeId} {v : Value} (h : Cell.okWide P w r base u v) : oneV v = true := by
  unfold Cell.okWide at h
  split at h <;> first | rfl | skip
  unfold Cell.ok at h
  split at h <;> first | rfl | exact h.elim
theorem cells_one {v : Value} (h : oneV v = true) : v.cells.toList = [v] := by
  cases v <;> first | rfl | cases h
theorem arg_data (hL : ∀ t ∈ L, tyOk C L t = true) {t : TypeId} (ht : t ∈ L) {v : Value} {d : DataW H} {p : List MemPlace} (h : DataW.Trod enc C.P w 0 spare held t v d p) {r : Reach} {base : Nat} (hok : Value.okWide C.P w r base t v) :
    ∃ ds : List Dt, fitL C w (fun k => k < w.heap.size) (cellKds C t) ds ∧ mszL ds ≤ bulk d ∧ ∀ (γ : G) i, (∀ (j : Nat) x, ds[j]? = some x → seG γ (.var (i + j)) = some x) → conc γ (argAV C t i) = some v := by
  obtain ⟨fuel, hf⟩ := h
  obtain ⟨ds, h1, h2, h3⟩ := data_of hL fuel t _ _ ht hf
  refine ⟨ds, h2, h3, fun γ i hg => ?_⟩
  have hc := conc_opqsD h2 hg
  have hty := hL t ht
  unfold tyOk at hty
  unfold argAV
  cases hu : C.P.underlying t with
  | none => rw [hu] at hty; cases hty
  | some dd =>
    rw [hu] at hty
    have single : ∀ k, kdsEq (cellKds C t) [k] = true → Cell.okWide C.P w r base t v → conc γ (match opqsD (cellKds C t) i with | [] => .junk | v :: l => match l with | [] => v | _ :: _ => .junk) = some v := by
      intro k hk hw
      rw [kdsEq_spec hk] at hc ⊢
      rw [h1, cells_one (one_of_wide hw)] at hc
      obtain ⟨a, b, g1, g2, g3⟩ := concL_cons.1 hc
      injection g3 with g3 g4
      rw [g3]; exact g1
    have hcell : (∀ fs, dd ≠ .struct fs) → (∀ n e, dd ≠ .array n e) → Cell.okWide C.P w r base t v := by
      intro n1 n2
      unfold Value.okWide at hok
      rw [hu] at hok
      cases dd <;> first | exact absurd rfl (n1 _) | exact absurd rfl (n2 _ _) | exact hok
    cases dd <;> first | (cases hty; done) | skip
    case bool => exact single _ hty (hcell (fun _ h => by cases h) (fun _ _ h => by cases h))
    case int k => exact single _ hty (hcell (fun _ h => by cases h) (fun _ _ h => by cases h))
    case string => exact single _ hty (hcell (fun _ h => by cases h) (fun _ _ h => by cases h))
    case slice e =>
      simp only [Bool.and_eq_true] at hty
      exact single _ hty.1 (hcell (fun _ h => by cases h) (fun _ _ h => by cases h))
    case struct fs =>
      unfold Value.okWide at hok
      rw [hu] at hok
      obtain ⟨cs, rfl, -, -⟩ := hok
      rw [h1] at hc
      show (concL γ (opqsD (cellKds C t) i)).map _ = _
      rw [hc]
      rfl
theorem args_data (hL : ∀ t ∈ L, tyOk C L t = true) {r : Reach} {base : Nat} : ∀ {ts : List TypeId} {vs : List Value} {ds : List (DataW H)} {ps : List MemPlace}, (∀ t ∈ ts, t ∈ L) → DataW.TrodAll enc C.P w 0 spare held ts vs ds ps →
    (∀ (j : Nat) t v, ts[j]? = some t → vs[j]? = some v → Value.okWide C.P w r base t v) →
    ∃ Ls : List Dt, (∀ d ∈ Ls, d.good C w fun k => k < w.heap.size) ∧ Ls.length = argN C ts ∧ (dataOk (cellKds C) ts Ls ∧ mszL Ls ≤ bulkAll ds) ∧ ∀ (γ : G) i, (∀ (j : Nat) x, Ls[j]? = some x → seG γ (.var (i + j)) = some x) → concL γ (argAVs C ts i) = some vs
  | [], vs, ds, ps, _, h, _ => by
    obtain ⟨rfl, rfl, rfl⟩ := trodAll_nil h
    exact ⟨[], (fun d hd => by cases hd), rfl, ⟨rfl, by simp [mszL, bulkAll]⟩, fun _ _ _ => rfl⟩
  | t :: ts, vs, ds, ps, hin, h, hok => by
    obtain ⟨v, vs', d, ds', p, q, rfl, rfl, rfl, h1, h2⟩ := trodAll_cons h
    obtain ⟨es, e1, e2, e3⟩ := arg_data hL (hin t List.mem_cons_self) h1 (hok 0 t v rfl rfl)
    obtain ⟨Ls, g1, g2, g3, g4⟩ := args_data hL (fun u hu => hin u (List.mem_cons_of_mem _ hu)) h2 fun j u y a b => hok (j + 1) u y (by simpa using a) (by simpa using b)
    refine ⟨es ++ Ls, fun x hx => ?_, ?_, ?_, fun γ i hg => ?_⟩
    · rcases List.mem_append.1 hx with hx | hx
      · obtain ⟨j, hj⟩ := List.getElem?_of_mem hx
        obtain ⟨_, _, _, h⟩ := fitL_get e1 hj
        exact h
      · exact g1 x hx
    · rw [List.length_append, fitL_len e1, g2]; rfl
    · exact ⟨⟨es, Ls, rfl, fitL_len e1, fitL_wf e1, g3.1⟩, by rw [mszL_append]; have := g3.2; simp only [bulkAll]; omega⟩
    · refine concL_cons.2 ⟨v, vs', e3 γ i fun j x hx => hg j x ?_, g4 γ (i + (cellKds C t).length) fun j x hx => ?_, rfl⟩
      · rw [List.getElem?_append_left (List.getElem?_eq_some_iff.1 hx).1]; exact hx
      · have := hg (es.length + j) x (by rw [List.getElem?_append_right (by omega)]; simpa using hx)
        rwa [fitL_len e1, ← Nat.add_assoc] at this
end
def γD (n : Nat) (V : Nat → Option Value) (L : List Dt) : G := fun id => if id < n then some ⟨id, 0, 1, (V id).map .val⟩ else if id < n + L.length then some ⟨0, 0, 0, L[id - n]?⟩ else none
theorem γD_at {n : Nat} {V : Nat → Option Value} {L : List Dt} {j : Nat} {x : Dt} (h : L[j]? = some x) : seG (γD n V L) (.var (n + j)) = some x := by
  have hlt : j < L.length := (List.getElem?_eq_some_iff.1 h).1
  simp only [seG, γD]
  rw [if_neg (by omega), if_pos (by omega), show n + j - n = j by omega, h]
  rfl
theorem rel_givenD {C : Ctx} {w : World} {s : S} {V : Nat → Option Value} {L : List Dt} (hn : C.nG + L.length ≤ s.next) (hpc : ∀ f ∈ s.pc, f.pos = true ∧ f.holds (γD C.nG V L)) (hone : ∀ g v, V g = some v → oneV v = true)
    (hL : ∀ d ∈ L, d.good C w fun k => k < w.heap.size)
    (h : ∀ g b, s.h.get g = some b → g < C.nG ∧ isStale b = true ∧ ∃ o, w.heap[g]? = some o ∧ BlkRel C (γD C.nG V L) ⟨g, 0, 1, (V g).map .val⟩ b o) : Rel C 0 (γD C.nG V L) s w := by
  have at' : ∀ g, g < C.nG → γD C.nG V L g = some ⟨g, 0, 1, (V g).map .val⟩ := fun g hg => by simp [γD, hg]
  have nolive : ∀ k, ¬ Live (γD C.nG V L) s k := by
    rintro k ⟨id, b, l, h1, h2, -, -⟩
    rw [(h id b h1).2.1] at h2; cases h2
  refine ⟨(fun id b hb => ?_), (fun id id' b b' l l' h1 h2 h3 h4 hne he => ?_), (fun id hid => ?_), (fun g hg => ⟨_, at' g hg, rfl, rfl⟩), (fun id b l h1 _ _ => (h id b h1).2.1), Nat.zero_le _, hpc, fun id l d h1 h2 => ?_⟩
  · obtain ⟨h1, -, o, h2, h3⟩ := h id b hb
    exact ⟨_, o, at' id h1, h2, h3⟩
  · rw [at' id (h id b h1).1] at h3
    rw [at' id' (h id' b' h2).1] at h4
    obtain rfl := Option.some.inj h3
    obtain rfl := Option.some.inj h4
    exact absurd he hne
  · unfold γD
    rw [if_neg (by omega), if_neg (by omega)]
  · unfold γD at h1
    split at h1
    · obtain rfl := Option.some.inj h1
      obtain ⟨v, hv, rfl⟩ := Option.map_eq_some_iff.1 h2
      exact hone id v hv
    · split at h1
      · obtain rfl := Option.some.inj h1
        exact Dt.good.stays (fun k hk => ⟨⟨hk, nolive k, fun h => h⟩, rfl⟩) d (hL d (List.mem_of_getElem? h2))
      · cases h1
noncomputable def varsN : Nat → Nat → List SE
  | 0 => fun _ => []
  | n + 1 => fun i => .var i :: varsN n (Nat.add i 1)
theorem seL_vars {γ : G} : ∀ {L : List Dt} {i : Nat}, (∀ (j : Nat) x, L[j]? = some x → seG γ (.var (i + j)) = some x) → seL γ (varsN L.length i) = some L
  | [], _, _ => rfl
  | d :: L, i, h => by
    have h0 := h 0 d rfl
    have hr := seL_vars (L := L) (i := i + 1) fun j x hx => by
      have := h (j + 1) x (by simpa using hx)
      rwa [show i + (j + 1) = i + 1 + j by omega] at this
    show ((seG γ (.var i)).bind fun d => (seL γ (varsN L.length (i + 1))).map fun r => d :: r) = _
    rw [show seG γ (.var i) = some d from h0, hr]
    rfl
noncomputable def argFact (C : Ctx) (ts : List TypeId) (N : Nat) : Fact := .rel "args" false (pArgs (cellKds C) ts N) (varsN (argN C ts) C.nG)
noncomputable def argsFit (P : Program) (ts : List TypeId) : Bool := ts.all fun t => P.readableRec t && decide (t < P.types.size)
theorem args_stay {H : Type} {enc : TypeId × Value → H} {P : Program} (hl : laidOutB P = true) {W W' : World} (hk : W.keptBut W' (fun _ => False)) {sp : Nat → Bool} : ∀ {ts : List TypeId} {vs : List Value} {ds : List (DataW H)} {ps : List MemPlace},
    argsFit P ts = true → DataW.TrodAll enc P W 0 (fun _ => true) true ts vs ds ps → (∀ p ∈ ps, p.block < W.heap.size) → (∀ p ∈ ps, sp p.block = true) → DataW.TrodAll enc P W' 0 sp true ts vs ds ps
  | [], vs, ds, ps, _, h, _, _ => by
    obtain ⟨rfl, rfl, rfl⟩ := trodAll_nil h
    exact rfl
  | t :: ts, vs, ds, ps, hf, h, hlt, hs => by
    obtain ⟨v, vs', d, ds', p, q, rfl, rfl, rfl, ⟨n, hn⟩, h2⟩ := trodAll_cons h
    simp only [argsFit, List.all_cons, Bool.and_eq_true, decide_eq_true_eq] at hf
    obtain ⟨⟨hr, hsz⟩, hf'⟩ := hf
    refine ⟨p, q, ⟨n, DataW.trod_stays (kids_book hl hr) (book_sized hr) (fun h => by cases h) ⟨hsz, book_self t⟩ hn (fun x hx => ?_) (fun x hx => hs x (List.mem_append_left _ hx))⟩,
      args_stay hl hk hf' h2 (fun x hx => hlt x (List.mem_append_right _ hx)) (fun x hx => hs x (List.mem_append_right _ hx)), rfl⟩
    have hb : W'.heap[x.block]? = W.heap[x.block]? := hk.block (hlt x (List.mem_append_left _ hx)) (fun _ f => f.elim)
    cases x with
    | cell b off =>
      show W'.cell? ⟨b, off, none⟩ = W.cell? ⟨b, off, none⟩
      have hb' : W'.heap[b]? = W.heap[b]? := hb
      simp only [World.cell?, hb']
    | map b => exact hb
theorem noStand {P : Program} {ts : List TypeId} (h : (ts.all fun t => !P.wantsStandIn t) = true) (j : Nat) (t : TypeId) (ht : ts[j]? = some t) : P.wantsStandIn t = false := by
  have := List.all_eq_true.1 h t (List.mem_of_getElem? ht)
  simpa using this
end Go.Proofs.YteibjeicgeophaaGreatDoor.Abs

namespace Go.Proofs.YteibjeicgeophaaGreatDoor.Abs
open Go
theorem unsats_of {F : Nat → Fact} {rows pats : List (List Nat)} (hp : ∀ p ∈ pats, ∀ γ : G, (∀ i ∈ p, (F i).holds γ) → False)
    (h : (rows.all fun r => pats.any fun p => p.all fun i => r.contains i) = true) : Unsats (rows.map fun r => r.map F) := by
  rintro pc hpc ⟨γ, hf⟩
  obtain ⟨r, hr, rfl⟩ := List.mem_map.1 hpc
  obtain ⟨p, hp1, hp2⟩ := List.any_eq_true.1 (List.all_eq_true.1 h r hr)
  exact hp p hp1 γ fun i hi => hf _ (List.mem_map.2 ⟨i, by simpa using List.all_eq_true.1 hp2 i hi, rfl⟩)
theorem conOk_vac {P : Program} {c : Con} (h : ∀ γ : G, (∀ f ∈ c.facts, f.holds γ) → False) : ConOk P c := fun _ γ _ _ _ _ _ _ hfr => (h γ fun f hf => (hfr.rel.pc f hf).2).elim
end Go.Proofs.YteibjeicgeophaaGreatDoor.Abs

namespace Go.Proofs.YteibjeicgeophaaGreatDoor.Abs
open Go
end Go.Proofs.YteibjeicgeophaaGreatDoor.Abs

namespace Go.Proofs.YteibjeicgeophaaGreatDoor.Abs
open Go
end Go.Proofs.YteibjeicgeophaaGreatDoor.Abs

namespace Go.Proofs.YteibjeicgeophaaGreatDoor.Abs
open Go
end Go.Proofs.YteibjeicgeophaaGreatDoor.Abs

namespace Go.Proofs.YteibjeicgeophaaGreatDoor.Abs
open Go
noncomputable def lookT (o : Out) : R Unit :=
  match o.res with
  | .ret v => match v with
    | .bool b => match b with
      | true => .ok ()
      | false => .must o.s.pc (.ok ())
    | .opq k e => match kdEq k .bool with
      | true => .must (.fl e :: o.s.pc) (.ok ())
      | false => .bad "another end"
    | _ => .bad "another end"
  | .pan _ => .must o.s.pc (.ok ())
theorem calls_trueT {C : Ctx} (hC : Good C) (hM : C.P.follows .mixedOrders = true) {base : Nat} {γ : G} {s : S} {w : World} (hR : Rel C base γ s w) {f : FuncId} {args : List AV} {cargs : List Value} (hargs : concL γ args = some cargs) (n : Nat)
    {l : List (List Fact)} (h : R.res (fun _ => true) ((enterA C (runF C n) f args .normal none s).bind lookT) = some l) (hu : Unsats l) :
    Calls C.P f ⟨cargs⟩ w fun e w' => e = .returned (.bool true) ∧ Stayed γ s w w' := by
  refine Calls.mono (calls_of_res hC hM hR hargs n h hu) ?_
  rintro e w' ⟨γ', o, x, hst, hx, hux, hres⟩
  refine ⟨?_, hst.keep.size, hst.keep.tape, hst.keep.os, hst.keep.output, hst.keep.stays⟩
  have hpc : ∀ f ∈ o.s.pc, f.holds γ' := fun f hf => (hst.rel.pc f hf).2
  unfold OutIs at hres
  unfold lookT at hx
  cases hr : o.res with
  | pan ch =>
    rw [hr] at hx
    obtain ⟨y, -, rfl⟩ := R.res_must hx
    exact absurd ⟨γ', hpc⟩ (hux o.s.pc List.mem_cons_self)
  | ret v =>
    rw [hr] at hx hres
    obtain ⟨c, hc, rfl⟩ := hres
    cases v with
    | bool b =>
      cases b with
      | true =>
        simp only [conc, Option.some.injEq] at hc
        rw [← hc]
      | false =>
        obtain ⟨y, -, rfl⟩ := R.res_must (show R.res (fun _ => true) (R.must o.s.pc (R.ok ())) = some x from hx)
        exact absurd ⟨γ', hpc⟩ (hux o.s.pc List.mem_cons_self)
    | opq k e =>
      cases hk : kdEq k .bool with
      | false =>
        have hx : R.res (fun _ => true) (match kdEq k .bool with | true => R.must (.fl e :: o.s.pc) (R.ok ()) | false => .bad "another end") = some x := hx
        rw [hk] at hx; cases hx
      | true =>
        have hx : R.res (fun _ => true) (match kdEq k .bool with | true => R.must (.fl e :: o.s.pc) (R.ok ()) | false => .bad "another end") = some x := hx
        rw [hk] at hx
        obtain ⟨y, -, rfl⟩ := R.res_must hx
        obtain rfl := kdEq_spec hk
        obtain ⟨d, g1, ⟨b, rfl⟩, g3⟩ := conc_see hc
        cases b with
        | true => rw [g3]; rfl
        | false =>
          refine absurd ⟨γ', fun f hf => ?_⟩ (hux (.fl e :: o.s.pc) List.mem_cons_self)
          cases hf with
          | head => exact g1
          | tail _ hf => exact hpc f hf
    | _ => cases hx
end Go.Proofs.YteibjeicgeophaaGreatDoor.Abs

namespace Go.Proofs.YteibjeicgeophaaGreatDoor.Abs
open Go
end Go.Proofs.YteibjeicgeophaaGreatDoor.Abs

namespace Go.Proofs.YteibjeicgeophaaGreatDoor.Abs
open Go
end Go.Proofs.YteibjeicgeophaaGreatDoor.Abs

namespace Go.Proofs.YteibjeicgeophaaGreatDoor.Abs
open Go
end Go.Proofs.YteibjeicgeophaaGreatDoor.Abs

namespace Go.Proofs.YteibjeicgeophaaGreatDoor.Abs
open Go
end Go.Proofs.YteibjeicgeophaaGreatDoor.Abs

namespace Go.Proofs.YteibjeicgeophaaGreatDoor.Abs
open Go Go.ChangeShapes
structure GV where
  g : Nat
  t : Nat
  a : List AV
noncomputable def setGV : List GV → Tr Blk → Tr Blk
  | [] => fun h => h
  | x :: l => fun h => setGV l (h.set x.g (.cells x.t (Tr.ofList x.a) x.a.length 0 [] true false))
theorem get_setGV {id : Nat} {b : Blk} : ∀ {l : List GV} {h : Tr Blk}, (setGV l h).get id = some b → (∃ x ∈ l, x.g = id ∧ b = .cells x.t (Tr.ofList x.a) x.a.length 0 [] true false) ∨ h.get id = some b
  | [], _, e => .inr e
  | x :: l, h, e => by
    rcases get_setGV (l := l) (h := h.set x.g (.cells x.t (Tr.ofList x.a) x.a.length 0 [] true false)) e with ⟨y, hy, h1, h2⟩ | h1
    · exact .inl ⟨y, List.mem_cons_of_mem _ hy, h1, h2⟩
    · rw [Tr.get_set] at h1
      split at h1
      · next he => exact .inl ⟨x, List.mem_cons_self, he, (Option.some.inj h1).symm⟩
      · exact .inr h1
noncomputable def SDv (C : Ctx) (ts : List TypeId) (N : Nat) (vars : List GV) : S := ⟨setGV vars .nil, Nat.add C.nG (argN C ts), [argFact C ts N]⟩
theorem SDv_get {C : Ctx} {ts : List TypeId} {N : Nat} {vars : List GV} {id : Nat} {b : Blk} (h : (SDv C ts N vars).h.get id = some b) : ∃ x ∈ vars, x.g = id ∧ b = .cells x.t (Tr.ofList x.a) x.a.length 0 [] true false := by
  rcases get_setGV h with h | h
  · exact h
  · rw [Tr.get_nil] at h; cases h
def gvOk (C : Ctx) (γ : G) (w : World) (x : GV) : Prop :=
  x.g < C.nG ∧ (C.T.get x.t).map (·.size) = some x.a.length ∧ ∃ (vs : Array Value), w.heap[x.g]? = some (.cells vs x.t (0, 0)) ∧ x.a.length ≤ vs.size ∧ ∀ (i : Nat) (a : AV), x.a[i]? = some a → ∃ c, vs[i]? = some c ∧ conc γ a = some c
theorem rel_dataV {C : Ctx} {w : World} {N : Nat} {ts : List TypeId} {V : Nat → Option Value} {vars : List GV} (L : List Dt) (hL : ∀ d ∈ L, d.good C w fun k => k < w.heap.size) (hlen : L.length = argN C ts) (hN : pArgs (cellKds C) ts N L)
    (hone : ∀ g v, V g = some v → oneV v = true) (hv : ∀ x ∈ vars, gvOk C (γD C.nG V L) w x) : Rel C 0 (γD C.nG V L) (SDv C ts N vars) w := by
  refine rel_givenD (by rw [hlen]; exact Nat.le_refl _) (fun f hf => ?_) hone hL fun id b hb => ?_
  · have hf' : f ∈ [argFact C ts N] := hf
    simp only [List.mem_singleton] at hf'
    subst hf'
    exact ⟨rfl, L, by rw [← hlen]; exact seL_vars fun j x hx => γD_at hx, hN⟩
  · obtain ⟨x, hx, rfl, rfl⟩ := SDv_get hb
    obtain ⟨hg, ht, vs, hw, hsz, hc⟩ := hv x hx
    refine ⟨hg, rfl, _, hw, vs, 0, 0, rfl, by show 0 + x.a.length ≤ _; omega, fun i u hi hcu => ?_, ?_, (fun h => by cases h), Nat.le_refl _⟩
    · rw [Tr.get_ofList] at hcu
      obtain ⟨c, h1, h2⟩ := hc i u hcu
      exact ⟨c, by show vs[0 + i]? = _; rw [Nat.zero_add]; exact h1, .inr h2⟩
    · obtain ⟨i, hi, hs⟩ := Option.map_eq_some_iff.1 ht
      exact ⟨i, hi, by rw [hs]; show x.a.length ≤ 1 * x.a.length; omega, by rw [hs]; show 0 + 1 * x.a.length ≤ _; omega, 0, by simp⟩
theorem walk_dataV {C : Ctx} (hC : Good C) (hM : C.P.follows .mixedOrders = true) {f : FuncId} (n : Nat) {N : Nat} {L ts : List TypeId} (hL : tysOk C L L = true) (hts : ∀ u ∈ ts, u ∈ L) (vars : List GV) (V : Nat → Option Value)
    {l : List (List Fact)} (h : R.res (fun _ => true) ((enterA C (runF C n) f (argAVs C ts C.nG) .normal none (SDv C ts N vars)).bind lookT) = some l) (hu : Unsats l)
    (w : World) {H : Type} {enc : TypeId × Value → H} {spare : Nat → Bool} {held : Bool} {r : Reach} {base : Nat} {args : Array Value} {ds : List (DataW H)} {ps : List MemPlace} (hA : DataW.TrodAll enc C.P w 0 spare held ts args.toList ds ps)
    (hok : ∀ (j : Nat) t v, ts[j]? = some t → args[j]? = some v → Value.okWide C.P w r base t v) (hN : bulkAll ds ≤ N)
    (hone : ∀ g v, V g = some v → oneV v = true) (hv : ∀ Ld : List Dt, ∀ x ∈ vars, gvOk C (γD C.nG V Ld) w x) :
    Calls C.P f args w fun e w' => e = .returned (.bool true) ∧ w.keptBut w' (fun _ => False) := by
  obtain ⟨Ls, h1, h2, h3, h4⟩ := args_data (tysOk_mem hL) hts hA fun j t v a b => hok j t v a (by rw [← Array.getElem?_toList]; exact b)
  have hR := rel_dataV (C := C) (w := w) (N := N) (ts := ts) Ls h1 h2 ⟨h3.1, Nat.le_trans h3.2 hN⟩ hone (hv Ls)
  have hc := h4 (γD C.nG V Ls) C.nG fun j x hx => γD_at hx
  refine Calls.mono (calls_trueT hC hM hR hc n h hu) fun _ _ ⟨h1, h2⟩ => ⟨h1, kept_of_stale (fun id b hb => ?_) h2⟩
  obtain ⟨x, -, -, rfl⟩ := SDv_get hb
  rfl
theorem gv_one {C : Ctx} {γ : G} {w : World} {g t : Nat} {a : AV} {vs : Array Value} {v : Value} (hg : Nat.blt g C.nG = true) (ht : (C.T.get t).map (·.size) = some 1) (hw : w.heap[g]? = some (.cells vs t (0, 0))) (hv : vs[0]? = some v)
    (hc : conc γ a = some v) : gvOk C γ w ⟨g, t, [a]⟩ := by
  have hsz : 0 < vs.size := by
    rcases Nat.lt_or_ge 0 vs.size with h | h
    · exact h
    · rw [Array.getElem?_eq_none h] at hv; cases hv
  refine ⟨Nat.le_of_ble_eq_true hg, ht, vs, hw, hsz, fun i b hb => ?_⟩
  cases i with
  | zero =>
    simp only [List.getElem?_cons_zero, Option.some.injEq] at hb
    subst hb
    exact ⟨v, hv, hc⟩
  | succ i => simp at hb
theorem conc_intVar {n : Nat} {V : Nat → Option Value} {L : List Dt} {g : Nat} {m : Int} (hg : g < n) (hV : V g = some (.int .i64 m)) : conc (γD n V L) (.opq (.int .i64) (.var g)) = some (.int .i64 m) :=
  conc_of (d := .val (.int .i64 m)) (by simp only [seG, γD, if_pos hg, Option.bind_some, hV, Option.map_some]) ⟨_, rfl⟩ rfl
end Go.Proofs.YteibjeicgeophaaGreatDoor.Abs

namespace Go.Proofs.YteibjeicgeophaaGreatDoor.Abs
open Go
structure FS where
  to : List Nat
  nm : Option String
  un : Bool
  gs : List Nat
  er : Option String
  go : Bool
  deriving Inhabited
def fsOf (P : Program) (fn : Func) : FS :=
  ⟨P.leadsTo fn, if fn.ours || fn.body.isNone || fn.name == "runtime.NumGoroutine" then some fn.name else none,
   (match fn.body with | some c => c.unfollowed | none => entryCalls fn), fn.body.elim [] Code.globalsNamed,
   if fn.body.isNone then entryReads.lookup fn.name else none, fn.goes⟩
noncomputable def fsTo (T : Tr FS) (g : Nat) : List Nat := (T.get g).elim [] FS.to
noncomputable def clT (T : Tr FS) : Nat → List Nat → List Nat → Nat → List Nat :=
  @Nat.rec (fun _ => List Nat → List Nat → Nat → List Nat) (fun _ seen _ => seen.reverse)
    (fun _ cl todo seen m =>
      @List.rec Nat (fun _ => List Nat) seen.reverse
        (fun f todo _ => @Bool.rec (fun _ => List Nat)
          (cl (fsTo T f ++ todo) (f :: seen) (Nat.lor m (Nat.shiftLeft 1 f)))
          (cl todo seen m)
          (Nat.beq (Nat.land (Nat.shiftRight m f) 1) 1)) todo)
theorem bit_at (m f : Nat) : Nat.beq (Nat.land (Nat.shiftRight m f) 1) 1 = m.testBit f := by
  have h1 : Nat.land (Nat.shiftRight m f) 1 = (m >>> f) % 2 := Nat.and_one_is_mod (m >>> f)
  rw [h1, Nat.testBit_eq_decide_div_mod_eq, Nat.shiftRight_eq_div_pow]
  rcases Nat.mod_two_eq_zero_or_one (m / 2 ^ f) with h | h <;> rw [h] <;> rfl
structure TabOf (P : Program) (L : List FS) : Prop where
  eq : P.funcs.toList.map (fsOf P) = L
theorem TabOf.get {P : Program} {L : List FS} (h : TabOf P L) (g : Nat) : (P.funcs[g]?).map (fsOf P) = (Tr.ofList L).get g := by
  rw [Tr.get_ofList, ← h.eq, List.getElem?_map, Array.getElem?_toList]
theorem TabOf.to {P : Program} {L : List FS} (h : TabOf P L) (g : Nat) : (P.funcs[g]?).elim [] P.leadsTo = fsTo (Tr.ofList L) g := by
  unfold fsTo; rw [← h.get]; cases P.funcs[g]? <;> rfl
theorem closureVia_eq {P : Program} {L : List FS} (h : TabOf P L) : ∀ (n : Nat) (todo seen : List Nat) (m : Nat), (∀ f, m.testBit f = seen.contains f) →
    P.closureVia n todo seen = clT (Tr.ofList L) n todo seen m
  | 0, _, _, _, _ => by unfold Program.closureVia; rfl
  | n + 1, [], _, _, _ => by unfold Program.closureVia; rfl
  | n + 1, f :: todo, seen, m, hm => by
    rw [Program.closureVia]
    show _ = @Bool.rec (fun _ => List Nat) (clT (Tr.ofList L) n (fsTo (Tr.ofList L) f ++ todo) (f :: seen) (Nat.lor m (Nat.shiftLeft 1 f))) (clT (Tr.ofList L) n todo seen m) (Nat.beq (Nat.land (Nat.shiftRight m f) 1) 1)
    rw [bit_at, hm f]
    cases hc : seen.contains f with
    | true => exact closureVia_eq h n todo seen m hm
    | false =>
      show P.closureVia n _ _ = _
      rw [h.to]
      refine closureVia_eq h n _ _ _ fun g => ?_
      show (m ||| 1 <<< f).testBit g = _
      rw [Nat.testBit_or, hm g, Nat.testBit_shiftLeft, List.contains_cons, Bool.or_comm]
      congr 1
      by_cases he : g = f
      · subst he; simp
      · have : (g == f) = false := by simpa using he
        rw [this]
        by_cases hg : g ≥ f
        · simp only [hg, decide_true, Bool.true_and]
          have : g - f ≠ 0 := by omega
          obtain ⟨k, hk⟩ := Nat.exists_eq_succ_of_ne_zero this
          rw [hk]; simp [Nat.testBit_succ]
        · simp [hg]
def fuelT (L : List FS) : Nat := 1 + (L.map fun x => x.to.length + 1).sum
theorem closure_eq {P : Program} {L : List FS} (h : TabOf P L) (f : Nat) : P.closure f = clT (Tr.ofList L) (fuelT L) [f] [] 0 := by
  unfold Program.closure
  rw [closureVia_eq h _ [f] [] 0 (fun g => by simp)]
  congr 1
  unfold fuelT
  rw [← h.eq, List.map_map]; rfl
structure ClOf (P : Program) (T : Tr FS) (N : Nat) (f : Nat) (K : List Nat) : Prop where
  h : ∀ g, (P.funcs[g]?).map (fsOf P) = T.get g
  all : ∀ g, P.closure g = clT T N [g] [] 0
  cl : P.closure f = K
theorem clOf {P : Program} {L : List FS} {f : Nat} {K : List Nat} {T : Tr FS} {N : Nat} (h : TabOf P L) (hT : T = Tr.ofList L) (hN : N = fuelT L) (hk : clT T N [f] [] 0 = K) : ClOf P T N f K :=
  ⟨fun g => by rw [h.get, hT], fun g => by rw [closure_eq h, hT, hN], by rw [closure_eq h, ← hT, ← hN, hk]⟩
theorem map_chunk {α β : Type} {l : List α} {f : α → β} {a n : Nat} {x y : List β} (h1 : ((l.drop a).take n).map f = x) (h2 : (l.drop (a + n)).map f = y) : (l.drop a).map f = x ++ y := by
  rw [← h1, ← h2, ← List.map_append, ← List.drop_drop, List.take_append_drop]
theorem beq_self_of {α : Type} [BEq α] [ReflBEq α] {a b : α} (h : b = a) : (a == b) = true := by rw [h]; exact BEq.refl a
theorem range_end {p : Nat → Bool} {n : Nat} (a : Nat) (h : Nat.ble n a = true) : ∀ i, a ≤ i → i < n → p i = true := fun _ h1 h2 => absurd (Nat.lt_of_lt_of_le h2 (Nat.le_of_ble_eq_true h)) (Nat.not_lt.2 h1)
theorem range_chunk {p : Nat → Bool} {n : Nat} (a k : Nat) (h : (List.range' a k).all p = true) (h2 : ∀ i, a + k ≤ i → i < n → p i = true) : ∀ i, a ≤ i → i < n → p i = true := fun i h3 h4 => by
  rcases Nat.lt_or_ge i (a + k) with h5 | h5
  · exact List.all_eq_true.1 h i (List.mem_range'_1.2 ⟨h3, h5⟩)
  · exact h2 i h5 h4
theorem range_all {p : Nat → Bool} {n : Nat} (h : ∀ i, 0 ≤ i → i < n → p i = true) : (List.range n).all p = true :=
  List.all_eq_true.2 fun i hi => h i (Nat.zero_le i) (List.mem_range.1 hi)
theorem laidOutB_of {P : Program} (h1 : ∀ i, 0 ≤ i → i < P.types.size → rowFine P i = true) (h2 : P.globals.all (fun g => decide (g.type < P.types.size)) = true)
    (h3 : P.funcs.all (fun f => f.params.all fun t => decide (t < P.types.size)) = true) : laidOutB P = true := by
  unfold laidOutB
  rw [range_all h1, h2, h3]; rfl
def mapsP (P : Program) (t : Nat) : Bool := match P.underlying t with | some (.map _ e) => decide (e < P.types.size) | _ => true
theorem mapsRowed_of {P : Program} (h : ∀ i, 0 ≤ i → i < P.types.size → mapsP P i = true) : mapsRowed P = true := by
  unfold mapsRowed
  exact range_all (p := mapsP P) h
def keysP (P : Program) (t : Nat) : Bool := match P.underlying t with
    | some (.map k _) => (match P.underlying k with | some (.array _ _) | some (.struct _) => false | _ => true)
    | _ => true
theorem plainKeys_of {P : Program} (h : ∀ i, 0 ≤ i → i < P.types.size → keysP P i = true) : P.plainKeys = true := by
  unfold Program.plainKeys
  exact range_all (p := keysP P) h
end Go.Proofs.YteibjeicgeophaaGreatDoor.Abs
