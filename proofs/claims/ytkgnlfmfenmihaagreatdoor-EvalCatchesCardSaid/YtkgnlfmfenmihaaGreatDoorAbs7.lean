/- From a checked run to the model's call, at arguments that are read as data; contracts by induction. Conditions: those of each theorem. -/
import Derived.Test.YtkgnlfmfenmihaaGreatDoorAbs6
import Derived.ProofKit
import Derived.HandedShaped
import Derived.Lay
import Derived.LaidMore
import Derived.Stop.Joined
import Derived.ChangeArms
import Derived.DataReads
import Derived.ChangeBook
import Derived.ChangeStays
import Derived.ChangeShapes
import Derived.WideShapes
import Derived.SevenTiedAt
import Derived.JoinedCond
import Derived.LaidLaws
import Derived.Deep.DeepHandedRow
import Derived.FnData
import Derived.LaidSub
namespace Go.Proofs.YtkgnlfmfenmihaaGreatDoor.Abs
open Go
noncomputable def andO (a b : Option (List (List Fact))) : Option (List (List Fact)) :=
  match a with
  | none => none
  | some x => match b with
    | none => none
    | some y => some (x ++ y)
noncomputable def consO (pc : List Fact) (a : Option (List (List Fact))) : Option (List (List Fact)) :=
  match a with
  | none => none
  | some x => some (pc :: x)
noncomputable def okO (b : Bool) : Option (List (List Fact)) :=
  match b with
  | true => some []
  | false => none
noncomputable def R.res {α : Type} (p : α → Bool) (r : R α) : Option (List (List Fact)) :=
  @R.rec α (fun _ => Option (List (List Fact))) (fun a => okO (p a)) (fun _ => none) (fun n _ ih => @Nat.rec (fun _ => Option (List (List Fact))) (some []) (fun i b => andO b (ih i)) n) (fun pc _ ih => consO pc ih) r
def Unsat (pc : List Fact) : Prop := ¬ ∃ γ : G, ∀ f ∈ pc, f.holds γ
def Unsats (l : List (List Fact)) : Prop := ∀ pc ∈ l, Unsat pc
theorem andO_some {a b : Option (List (List Fact))} {l : List (List Fact)} (h : andO a b = some l) : ∃ x y, a = some x ∧ b = some y ∧ l = x ++ y := by
  unfold andO at h
  cases a with
  | none => cases h
  | some x => cases b with
    | none => cases h
    | some y => exact ⟨x, y, rfl, rfl, (Option.some.inj h).symm⟩
theorem R.res_ask {α : Type} (p : α → Bool) (k : Nat → R α) : ∀ (n : Nat) (l : List (List Fact)), R.res p (.ask n k) = some l → ∀ i, i < n → ∃ x, R.res p (k i) = some x ∧ ∀ pc ∈ x, pc ∈ l
  | 0, _, _, i, h => absurd h (Nat.not_lt_zero i)
  | n + 1, l, h, i, hi => by
    have e : R.res p (.ask (n + 1) k) = andO (R.res p (.ask n k)) (R.res p (k n)) := rfl
    rw [e] at h
    obtain ⟨x, y, h1, h2, rfl⟩ := andO_some h
    rcases Nat.lt_or_ge i n with h' | h'
    · obtain ⟨z, h3, h4⟩ := R.res_ask p k n x h1 i h'
      exact ⟨z, h3, fun pc hpc => List.mem_append_left _ (h4 pc hpc)⟩
    · have : i = n := by omega
      subst this
      exact ⟨y, h2, fun pc hpc => List.mem_append_right _ hpc⟩
theorem R.res_must {α : Type} {p : α → Bool} {pc : List Fact} {k : R α} {l : List (List Fact)} (h : R.res p (.must pc k) = some l) : ∃ x, R.res p k = some x ∧ l = pc :: x := by
  have e : R.res p (.must pc k) = consO pc (R.res p k) := rfl
  rw [e] at h
  cases hk : R.res p k with
  | none => rw [hk] at h; cases h
  | some x => rw [hk] at h; exact ⟨x, rfl, (Option.some.inj h).symm⟩
theorem R.res_bind {α β : Type} {p : β → Bool} {Q : α → Prop} {f : α → R β} : ∀ {r : R α} {l : List (List Fact)}, R.res p (r.bind f) = some l → Unsats l → r.path Q → ∃ a x, Q a ∧ R.res p (f a) = some x ∧ Unsats x
  | .ok a, l, h, hu, hq => ⟨a, l, hq, h, hu⟩
  | .bad _, _, h, _, _ => by cases h
  | .ask n k, l, h, hu, ⟨i, hi, hq⟩ => by
    obtain ⟨x, h1, h2⟩ := R.res_ask p (fun i => (k i).bind f) n l h i hi
    exact R.res_bind h1 (fun pc hpc => hu pc (h2 pc hpc)) hq
  | .must pc k, l, h, hu, hq => by
    obtain ⟨x, h1, rfl⟩ := R.res_must (k := k.bind f) h
    rcases hq with hq | hq
    · exact absurd hq (hu pc List.mem_cons_self)
    · exact R.res_bind h1 (fun pc' hpc => hu pc' (List.mem_cons_of_mem _ hpc)) hq
noncomputable def retTrue (o : Out) : Bool :=
  match o.res with
  | .ret v => match v with
    | .bool b => b
    | _ => false
  | .pan _ => false
noncomputable def noNumL : List Func → Bool
  | [] => true
  | f :: l => match f.body.isSome && (f.name == "runtime.NumGoroutine") with
    | true => false
    | false => noNumL l
theorem noNumL_spec : ∀ {l : List Func}, noNumL l = true → ∀ f ∈ l, f.body.isSome = true → (f.name == "runtime.NumGoroutine") = false
  | [], _, _, h => by cases h
  | g :: l, h, f, hf => by
    unfold noNumL at h
    cases hb : (g.body.isSome && (g.name == "runtime.NumGoroutine")) with
    | true => rw [hb] at h; cases h
    | false =>
      rw [hb] at h
      intro hs
      cases hf with
      | head => rw [hs] at hb; simpa using hb
      | tail _ hf => exact noNumL_spec h f hf hs
theorem j3g {P : Program} {eqT : Nat → Bool} {X : List (FuncId × Ext)} {M : List (FuncId × Memo)} {K : List Con} (hK : ∀ c ∈ K, j1w P c) (hM : ∀ x ∈ M, MemoOk P x.1 x.2) (h1 : validB P = true) (h2 : noNumL P.funcs.toList = true)
    (h3 : (∀ f g t, j5d f X = some (.closed g t) → ClosedOk P f g t) ∧ (∀ f g, j5d f X = some (.index g) → IndexOk P f g) ∧ (∀ f x, j5d f X = some (.as x) → AsOk P f x) ∧
      ∀ f e, j5d f X = some e → (∀ g, e ≠ .index g) → (∀ g t, e ≠ .closed g t) → (∀ x, e ≠ .as x) → ∃ fn, P.funcs[f]? = some fn ∧ fn.body = none ∧ (fn.name == "runtime.NumGoroutine") = false ∧ Extern.findNext fn = none ∧ Extern.find fn = some (extRow fn e)) : Good (j1i P eqT X M K) :=
  ⟨rfl, hK, hM, h1, fun f fn hf hb => noNumL_spec h2 fn (by have := Array.mem_of_getElem? (xs := P.funcs) hf; simpa using this) hb, h3.1, h3.2.1, h3.2.2.1, h3.2.2.2⟩
theorem good_ofM {P : Program} {eqT : Nat → Bool} {X : List (FuncId × Ext)} {M : List (FuncId × Memo)} (hM : ∀ x ∈ M, MemoOk P x.1 x.2) (h1 : validB P = true) (h2 : noNumL P.funcs.toList = true)
    (h3 : (∀ f g t, j5d f X = some (.closed g t) → ClosedOk P f g t) ∧ (∀ f g, j5d f X = some (.index g) → IndexOk P f g) ∧ (∀ f x, j5d f X = some (.as x) → AsOk P f x) ∧
      ∀ f e, j5d f X = some e → (∀ g, e ≠ .index g) → (∀ g t, e ≠ .closed g t) → (∀ x, e ≠ .as x) → ∃ fn, P.funcs[f]? = some fn ∧ fn.body = none ∧ (fn.name == "runtime.NumGoroutine") = false ∧ Extern.findNext fn = none ∧ Extern.find fn = some (extRow fn e)) : Good (j1i P eqT X M) :=
  j3g (fun _ h => by cases h) hM h1 h2 h3
structure Stayed (γ : G) (s : S) (w w' : World) : Prop where
  size : w.heap.size ≤ w'.heap.size
  tape : w'.tape = w.tape
  os : w'.os = w.os
  output : w'.output = w.output
  stays : ∀ (k : Nat) (o : Obj), w.heap[k]? = some o → ¬ Live γ s k → w'.heap[k]? = some o
def OutIs (γ : G) (o : Out) (e : Ending) : Prop :=
  match o.res with
  | .ret v => ∃ c, conc γ v = some c ∧ e = .returned c
  | .pan ch => ∃ c, j3o γ ch = some c ∧ e = .panicked c
theorem calls_of_res {C : Ctx} (hC : Good C) (hM : C.P.follows .mixedOrders = true) {base : Nat} {γ : G} {s : S} {w : World} (hR : Rel C base γ s w) {f : FuncId} {args : List AV} {cargs : List Value} (hargs : concL γ args = some cargs) (n : Nat)
    {β : Type} {p : β → Bool} {look : Out → R β} {l : List (List Fact)} (h : R.res p ((j4h C (runF C n) f args .normal none s).bind look) = some l) (hu : Unsats l) :
    Calls C.P f ⟨cargs⟩ w fun e w' => ∃ γ' o x, Step C base γ s w γ' o.s w' ∧ R.res p (look o) = some x ∧ Unsats x ∧ OutIs γ' o e := by
  intro cs
  have hs := path_enterA hC (sound_run hC (drawn C base hC hM) n) hR f hargs .normal (ctx := none) (cs := cs) rfl
  obtain ⟨o, x, ⟨⟨fn, hfn⟩, nt, γ', w', cs', hst, hctx, hcs, hres⟩, hx, hux⟩ := R.res_bind h hu hs
  have hcs' : cs' = cs := hcs
  subst hcs'
  obtain ⟨res, octx, os⟩ := o
  cases res with
  | ret v =>
    obtain ⟨cv, hcv, fr', hsteps, hf, hk, hm, hd, fn', hfn', hrs⟩ := hres
    exact ⟨.returned cv, w', fr', ⟨γ', ⟨.ret v, octx, os⟩, x, hst, hx, hux, cv, hcv, rfl⟩, hsteps, hf, hm, hd, hk, fn', by rw [hf]; exact hfn', hrs⟩
  | pan ch =>
    obtain ⟨cch, hch, fr', hsteps, hf, hm, hd⟩ := hres
    exact ⟨.panicked cch, w', fr', ⟨γ', ⟨.pan ch, octx, os⟩, x, hst, hx, hux, cch, hch, rfl⟩, hsteps, hf, hm, hd, fn, by rw [hf]; exact hfn⟩
noncomputable def lookB (p : Out → Bool) (o : Out) : R Unit :=
  match p o with
  | true => .ok ()
  | false => .bad "another end"
theorem lookB_some {p : Out → Bool} {o : Out} {x : List (List Fact)} (h : R.res (fun _ => true) (lookB p o) = some x) : p o = true := by
  unfold lookB at h
  cases hp : p o with
  | true => rfl
  | false => rw [hp] at h; cases h
end Go.Proofs.YtkgnlfmfenmihaaGreatDoor.Abs

namespace Go.Proofs.YtkgnlfmfenmihaaGreatDoor.Abs
open Go
theorem kept_of_stale {s : S} (hs : ∀ g b, s.h.get g = some b → j0v b = true) {γ : G} {w w' : World} (h : Stayed γ s w w') : w.keptBut w' (fun _ => False) := by
  refine ⟨h.os, h.output, fun i hi => ?_⟩
  have hg : w.heap[i]? = some w.heap[i] := Array.getElem?_eq_getElem hi
  have hg' := h.stays i _ hg (fun ⟨id, b, l, h1, h2, _⟩ => by rw [hs id b h1] at h2; cases h2)
  rw [hg, hg']
  cases w.heap[i] with
  | cells c t fr => exact ⟨rfl, rfl, rfl, fun _ _ => rfl⟩
  | map es clock => exact .inr ⟨rfl, rfl⟩
  | _ => rfl
theorem post_old {H : Type} {enc : TypeId × Value → H} {P : Program} {f : Func} {s : ChangeSpec} {apart fresh handsOn : Bool} {W W' : World} {args : Array Value} {v : Value} {ds gs : List (DataW H)} {before pa pv : List MemPlace}
    (hW : DataW.Whole enc P f.params.toList s.vars apart W args.toList ds gs before)
    (hres : ∀ (b : Nat) (sp : Nat → Bool) (hd : Bool), DataW.TrodAll enc P W' b sp hd f.resultTypes.toList (v.resultList f.resultTypes.size) (s.fn H (ds ++ gs)).results [])
    (hargs : ∀ sp : Nat → Bool, (∀ p ∈ before, sp p.block = true) → DataW.TrodAll enc P W' 0 sp true f.params.toList args.toList (s.fn H (ds ++ gs)).args pa)
    (hvars : ∀ sp : Nat → Bool, (∀ p ∈ before, sp p.block = true) → DataW.TrodVars enc P W' sp s.vars (s.fn H (ds ++ gs)).vars pv)
    (hps : before = pa ++ pv) (hk : W.keptBut W' (· ∈ before)) : s.post enc P f apart fresh handsOn false W args v W' := by
  have hold : ∀ p ∈ before, (fun b => decide (b < W.heap.size)) p.block = true := fun p hp => by simpa using hW.lt p hp
  refine ⟨ds, gs, before, [], pa, pv, hW, hres _ _ _, hargs _ hold, hvars _ hold, World.keptBut_mono (fun p hp => ⟨hp, ?_⟩) hk, fun h => by cases h⟩
  rw [hps, List.mem_append] at hp
  exact .inr hp
theorem kept_mono {w w' : World} {may : MemPlace → Prop} (h : w.keptBut w' (fun _ => False)) : w.keptBut w' may := World.keptBut_mono (fun _ f => f.elim) h
def ExtOne (P : Program) (f : FuncId) (e : Ext) : Prop :=
  match e with
  | .index g => IndexOk P f g
  | .closed g t => ClosedOk P f g t
  | .as x => AsOk P f x
  | e => ∃ fn, P.funcs[f]? = some fn ∧ fn.body = none ∧ (fn.name == "runtime.NumGoroutine") = false ∧ Extern.findNext fn = none ∧ Extern.find fn = some (extRow fn e)
def ExtOk (P : Program) : List (FuncId × Ext) → Prop
  | [] => True
  | x :: l => ExtOne P x.1 x.2 ∧ ExtOk P l
theorem ext_one {P : Program} : ∀ {X : List (FuncId × Ext)}, ExtOk P X → ∀ f e, j5d f X = some e → ExtOne P f e
  | [], _, f, e, h => by cases h
  | x :: l, hx, f, e, h => by
    have e1 : j5d f (x :: l) = match Nat.beq x.1 f with | true => some x.2 | false => j5d f l := rfl
    rw [e1] at h
    cases hb : Nat.beq x.1 f with
    | true =>
      rw [hb] at h
      injection h with h
      subst h
      have := Nat.eq_of_beq_eq_true hb
      subst this
      exact hx.1
    | false =>
      rw [hb] at h
      exact ext_one hx.2 f e h
theorem j3p {P : Program} {X : List (FuncId × Ext)} (h : ExtOk P X) : (∀ f g t, j5d f X = some (.closed g t) → ClosedOk P f g t) ∧ (∀ f g, j5d f X = some (.index g) → IndexOk P f g) ∧ (∀ f x, j5d f X = some (.as x) → AsOk P f x) ∧
    ∀ f e, j5d f X = some e → (∀ g, e ≠ .index g) → (∀ g t, e ≠ .closed g t) → (∀ x, e ≠ .as x) → ∃ fn, P.funcs[f]? = some fn ∧ fn.body = none ∧ (fn.name == "runtime.NumGoroutine") = false ∧ Extern.findNext fn = none ∧ Extern.find fn = some (extRow fn e) := by
  refine ⟨fun f g t he => ext_one h f _ he, fun f g he => ext_one h f _ he, fun f x he => ext_one h f _ he, fun f e he hne hne' hne2 => ?_⟩
  have := ext_one h f e he
  cases e with
  | index g => exact absurd rfl (hne g)
  | closed g t => exact absurd rfl (hne' g t)
  | as x => exact absurd rfl (hne2 x)
  | _ => exact this
def MemosOk (P : Program) : List (FuncId × Memo) → Prop
  | [] => True
  | x :: l => MemoOk P x.1 x.2 ∧ MemosOk P l
theorem j3y {P : Program} : ∀ {M : List (FuncId × Memo)}, MemosOk P M → ∀ x ∈ M, MemoOk P x.1 x.2
  | [], _, x, hx => by cases hx
  | y :: l, h, x, hx => by
    cases hx with
    | head => exact h.1
    | tail _ hx => exact j3y h.2 x hx
theorem memo_of {C : Ctx} (hC : Good C) (hM : C.P.follows .mixedOrders = true) {f : FuncId} (n : Nat) {m : Memo} (hf : (C.P.funcs[f]?).isSome = true)
    {l : List (List Fact)} (h : R.res (fun _ => true) ((j4h C (runF C n) f m.args .normal none m.S).bind (lookB (j2r m))) = some l) (hu : Unsats l) : MemoOk C.P f m := by
  refine ⟨Option.isSome_iff_exists.1 hf, fun base γ w cargs hR hargs => ?_⟩
  obtain ⟨hT, hG⟩ := good_ctx hC
  refine Calls.mono (calls_of_res hC hM (hR.ctx (show (j1i C.P (fun _ => false) []).P = C.P from rfl) hT.symm hG.symm) hargs n h hu) ?_
  rintro e w' ⟨γ', o, x, hst, hx, -, hres⟩
  have hp := lookB_some hx
  unfold j2r at hp
  unfold OutIs at hres
  cases hr : o.res with
  | pan ch => rw [hr] at hp; cases hp
  | ret v =>
    rw [hr] at hp hres
    obtain ⟨c, hc, rfl⟩ := hres
    simp only [Bool.and_eq_true] at hp
    obtain ⟨⟨p1, p2⟩, p3⟩ := hp
    have e1 := j3c _ _ p1
    subst e1
    refine ⟨γ', o.s, c, hst.ctx (show C.P = (j1i C.P (fun _ => false) []).P from rfl) hT hG, Nat.le_of_ble_eq_true p2, fun x hx => ?_, hc, rfl⟩
    obtain ⟨b, q1, q2, q3⟩ := postOk_spec p3 x hx
    obtain ⟨q4, q5⟩ := j4d q2
    exact ⟨b, q1, q4, by rw [q5, q3]; rfl⟩
theorem handed_and_shaped {H : Type} {enc : TypeId × Value → H} {a : Assume} {C : Checked} {os : Os} {f : FuncId} {fn : Func} {s : ChangeSpec} {conds : List PathCond} {apart fresh handsOn again : Bool} {X : World → Array Value → Prop}
    (hX : ∀ (w w' : World) (args : Array Value), w.heap = w'.heap → X w args → X w' args)
    (own : ownKnob C.prog.godebug = none) (started : os.Started) (noInit : C.prog.inits.idxOf? f = none) (hfn : C.prog.funcs[f]? = some fn)
    (witness : ∃ (w : World) (tape : Tape) (i : Input), w.os = os ∧ (w.forCall tape i).Shaped C.prog ∧ i.vars = [] ∧ Input.okWide C.prog (w.forCall tape i) .any w.heap.size f i ∧
      ((s.pre enc C.prog fn conds apart (w.forCall tape i).memory i.args ∧ X (w.forCall tape i).memory i.args) ∧ sizedMet enc C.prog fn (OpenSpec.ofChange s) apart (w.forCall tape i).memory i.args) ∧ a.holds C.prog (lone (Frame.enter C.prog f i.args .normal) [] (w.forCall tape i)))
    (contract : ∀ (W : World) (base : Nat) (args : Array Value) (ds gs : List (DataW H)) (before : List MemPlace),
      (∀ (j : Nat) t v, fn.params[j]? = some t → args[j]? = some v → Value.okWide C.prog W .any base t v) →
      DataW.Whole enc C.prog fn.params.toList s.vars apart W args.toList ds gs before →
      conds.all (PathCond.test C.prog ⟨fn.params.toList, ds, s.plain.varTypes C.prog, gs⟩) = true →
      W.ShapedOpen C.prog → X W args →
      Calls C.prog f args W fun e W' => ∃ v, e = .returned v ∧ s.post enc C.prog fn apart fresh handsOn again W args v W') :
    ReturnsInHanded a C os f .any (fun w args => (s.pre enc C.prog fn conds apart w args ∧ X w args) ∧ sizedMet enc C.prog fn (OpenSpec.ofChange s) apart w args) (s.post enc C.prog fn apart fresh handsOn again) := by
  refine returnsInHanded_of_calls own started noInit witness ?_
  intro w tape i _ hsh _ hok hpre _
  obtain ⟨_, _, _, fn', hfn', _, _, _, _, hval⟩ := hok
  have e : fn' = fn := Option.some.inj (hfn'.symm.trans hfn)
  subst e
  obtain ⟨⟨⟨ds, gs, before, hw, hc⟩, hx⟩, _⟩ := hpre
  have hw' := DataW.Whole.of_heap (w' := w.forCall tape i) (by rfl) hw
  refine (contract (w.forCall tape i) w.heap.size i.args ds gs before hval hw' hc hsh (hX _ _ _ (by rfl) hx)).mono fun e W' ⟨v, he, hp⟩ => ?_
  subst he
  exact ChangeSpec.post_blind hp
theorem int_of_shape {P : Program} {w : World} {g t : Nat} (h : w.ShapedOpen P) (hg : Nat.blt g P.globals.size = true)
    (hz : (((begin P (fun _ _ => 0) default).world.heap[g]?).bind Obj.row?) = some (#[.int .i64 0], t)) (hm : ∃ m, w.cell? ⟨g, 0, none⟩ = some (.int .i64 m)) :
    ∃ (vs : Array Value) (m : Int), w.heap[g]? = some (.cells vs t (0, 0)) ∧ vs[0]? = some (.int .i64 m) := by
  obtain ⟨cs, h1, -, -⟩ := h.1 g _ t (Nat.le_of_ble_eq_true hg) hz
  obtain ⟨m, hm⟩ := hm
  refine ⟨cs, m, h1, ?_⟩
  simpa [World.cell?, h1] using hm
end Go.Proofs.YtkgnlfmfenmihaaGreatDoor.Abs

namespace Go.Proofs.YtkgnlfmfenmihaaGreatDoor.Abs
open Go
theorem conMust_res {σ : Nat → SE} {pc : List Fact} {γ : G} (hpc : ∀ f ∈ pc, f.holds γ) : ∀ {l : List Fact} {x : List (List Fact)}, R.res (fun _ => true) (conMust pc σ l) = some x → Unsats x → ∀ f ∈ l, f.pos = true ∧ (f.sub σ).holds γ
  | [], _, _, _ => fun f hf => by cases hf
  | .tr e :: l, x, h, hu => by
    obtain ⟨y, h1, rfl⟩ := R.res_must (show R.res (fun _ => true) (.must (.rel "tr" true pTr [SE.sub σ e] :: pc) (conMust pc σ l)) = some x from h)
    intro f hf
    cases hf with
    | head =>
      refine ⟨rfl, rel_tr.1 ?_⟩
      by_cases hp : ∃ ds, seL γ [SE.sub σ e] = some ds ∧ pTr ds
      · exact hp
      · refine absurd ⟨γ, fun f hf => ?_⟩ (hu _ List.mem_cons_self)
        cases hf with
        | head => exact hp
        | tail _ hf => exact hpc f hf
    | tail _ hf => exact conMust_res hpc h1 (fun pc' hp => hu pc' (List.mem_cons_of_mem _ hp)) f hf
  | .fl e :: l, x, h, hu => by
    obtain ⟨y, h1, rfl⟩ := R.res_must (show R.res (fun _ => true) (.must (.rel "fl" true pFl [SE.sub σ e] :: pc) (conMust pc σ l)) = some x from h)
    intro f hf
    cases hf with
    | head =>
      refine ⟨rfl, rel_fl.1 ?_⟩
      by_cases hp : ∃ ds, seL γ [SE.sub σ e] = some ds ∧ pFl ds
      · exact hp
      · refine absurd ⟨γ, fun f hf => ?_⟩ (hu _ List.mem_cons_self)
        cases hf with
        | head => exact hp
        | tail _ hf => exact hpc f hf
    | tail _ hf => exact conMust_res hpc h1 (fun pc' hp => hu pc' (List.mem_cons_of_mem _ hp)) f hf
  | .inr i n :: l, x, h, hu => by
    obtain ⟨y, h1, rfl⟩ := R.res_must (show R.res (fun _ => true) (.must (.rel "in" true pIn [SE.sub σ i, SE.sub σ n] :: pc) (conMust pc σ l)) = some x from h)
    intro f hf
    cases hf with
    | head =>
      refine ⟨rfl, rel_in.1 ?_⟩
      by_cases hp : ∃ ds, seL γ [SE.sub σ i, SE.sub σ n] = some ds ∧ pIn ds
      · exact hp
      · refine absurd ⟨γ, fun f hf => ?_⟩ (hu _ List.mem_cons_self)
        cases hf with
        | head => exact hp
        | tail _ hf => exact hpc f hf
    | tail _ hf => exact conMust_res hpc h1 (fun pc' hp => hu pc' (List.mem_cons_of_mem _ hp)) f hf
  | .rel nm b p args :: l, x, h, hu => by
    cases b with
    | true => cases h
    | false =>
      obtain ⟨y, h1, rfl⟩ := R.res_must (show R.res (fun _ => true) (.must (.rel nm true p (SE.subL σ args) :: pc) (conMust pc σ l)) = some x from h)
      intro f hf
      cases hf with
      | head =>
        refine ⟨rfl, ?_⟩
        by_cases hp : ∃ ds, seL γ (SE.subL σ args) = some ds ∧ p ds
        · exact hp
        · refine absurd ⟨γ, fun f hf => ?_⟩ (hu _ List.mem_cons_self)
          cases hf with
          | head => exact hp
          | tail _ hf => exact hpc f hf
      | tail _ hf => exact conMust_res hpc h1 (fun pc' hp => hu pc' (List.mem_cons_of_mem _ hp)) f hf
theorem postFits_mem {h : Tr Blk} {θ : Nat → Nat} {ν : Nat → SE} : ∀ {l : List (Nat × CB)}, postFits h θ ν l = true → ∀ x ∈ l, ∃ b, h.get (θ x.1) = some b ∧ cbHold b (x.2.sub θ ν) = true ∧ x.2.live = true
  | [], _, x, hx => by cases hx
  | y :: l, e, x, hx => by
    unfold postFits at e
    cases hg : h.get (θ y.1) with
    | none => rw [hg] at e; cases e
    | some b =>
      rw [hg] at e
      simp only [Bool.and_eq_true] at e
      cases hx with
      | head => exact ⟨b, hg, e.1, e.2.1⟩
      | tail _ hx => exact postFits_mem e.2.2 x hx
theorem thOf_spec {n next : Nat} {l : List (Nat × Nat)} (hn : n ≤ next) : (∀ i, i < n → thOf n next l i = i) ∧ ∀ i, n ≤ i → n ≤ thOf n next l i := by
  refine ⟨fun i h => by unfold thOf; rw [blt_true h], fun i h => ?_⟩
  unfold thOf
  rw [blt_false h]
  simp only
  cases lookN i l with
  | none => exact hn
  | some j =>
    simp only
    cases hb : Nat.ble n j with
    | true => exact Nat.le_of_ble_eq_true hb
    | false => exact hn
theorem nuOf_spec {n m : Nat} {l : List (Nat × SE)} : (∀ i, i < n → nuOf n m l i = .var i) ∧ ∀ (γ : G) i, n + m ≤ i → seG γ (nuOf n m l i) = none := by
  refine ⟨fun i h => by unfold nuOf; rw [blt_true h], fun γ i h => ?_⟩
  unfold nuOf
  rw [blt_false (show n ≤ i by omega)]
  simp only
  rw [show Nat.blt i (Nat.add n m) = false from blt_false h]
  rfl
theorem lookOuts_spec {C : Ctx} {base : Nat} {c : Con} {s : S} {v : AV} {γ : G} {w : World} {cv : Value} (hR : Rel C base γ s w) (hv : conc γ v = some cv) (hn : c.n ≤ s.next) : ∀ {l : List ConOut} {x : List (List Fact)}, R.res (fun _ => true) (lookOuts C c s v l) = some x → Unsats x →
    ∃ o, o ∈ l ∧ ∃ (γ' : G) (s' : S) (v' : AV) (θ : Nat → Nat) (ν : Nat → SE), Step C base γ s w γ' s' w ∧ conc γ' v' = some cv ∧ (∀ i, i < c.n → θ i = i ∧ ν i = .var i) ∧ (∀ i, c.n ≤ i → c.n ≤ θ i) ∧ (∀ i, c.n + o.m ≤ i → seG γ' (ν i) = none) ∧
      outFits s' v' o θ ν = true ∧ ∀ f ∈ o.facts, f.pos = true ∧ (f.sub ν).holds γ'
  | [], x, h, hu => by
    obtain ⟨y, -, rfl⟩ := R.res_must (show R.res (fun _ => true) (R.must s.pc (R.ok ())) = some x from h)
    exact absurd ⟨γ, fun f hf => (hR.pc f hf).2⟩ (hu s.pc List.mem_cons_self)
  | o :: l, x, h, hu => by
    unfold lookOuts at h
    obtain ⟨r, y, ⟨γ', hst, hc⟩, h1, hu1⟩ := R.res_bind h hu (path_frzV o.res v hR hv)
    revert h1
    obtain ⟨tl, vl⟩ := matPost c.n r.2.h o.post (matV o.res r.1 ([], []))
    intro h1
    simp only at h1
    cases hf : outFits r.2 r.1 o (thOf c.n r.2.next tl) (nuOf c.n o.m vl) with
    | true =>
      rw [hf] at h1
      exact ⟨o, List.mem_cons_self, γ', r.2, r.1, _, _, hst, hc, fun i hi => ⟨(thOf_spec (Nat.le_trans hn hst.next)).1 i hi, nuOf_spec.1 i hi⟩, (thOf_spec (Nat.le_trans hn hst.next)).2, nuOf_spec.2 γ', hf, conMust_res (fun f hf => (hst.rel.pc f hf).2) h1 hu1⟩
    | false =>
      rw [hf] at h1
      obtain ⟨o', h3, h2⟩ := lookOuts_spec hR hv hn h1 hu1
      exact ⟨o', List.mem_cons_of_mem _ h3, h2⟩
theorem con_of {C : Ctx} (hC : Good C) (hM : C.P.follows .mixedOrders = true) (c : Con) (n : Nat) {l : List (List Fact)}
    (h : ∀ tl, R.res (fun _ => true) ((runF C n (c.fi tl) c.tr c.todo [] .run none c.S).bind (conLook C c)) = some l) (hu : Unsats l) : j1w C.P c := by
  obtain ⟨hT, hG⟩ := good_ctx hC
  have hP : C.P = (j1i C.P (fun _ => false) []).P := rfl
  intro base γ ro tl tm items cs w hfr
  have hs := sound_run hC (drawn C base hC hM) n γ (c.fi tl) ro c.tr c.todo [] .run none c.S tm items tl .run cs w (hfr.over hP.symm hT.symm hG.symm)
  obtain ⟨o, x, ⟨γ1, w', cs', hst, hctx, hcs, hres⟩, hx, hux⟩ := R.res_bind (h tl) hu hs
  have hcs' : cs' = cs := hcs
  subst hcs'
  obtain ⟨res, octx, s1⟩ := o
  cases res with
  | pan ch =>
    obtain ⟨y, -, rfl⟩ := R.res_must (show R.res (fun _ => true) (R.must s1.pc (R.ok ())) = some x from hx)
    exact absurd ⟨γ1, fun f hf => (hst.rel.pc f hf).2⟩ (hux s1.pc List.mem_cons_self)
  | ret v =>
    obtain ⟨cv, hcv, hend⟩ := hres
    obtain ⟨o, ho, γ2, s2, v2, θ, ν, hfz, hcv2, h1, h2, h3, h4, h5⟩ := lookOuts_spec hst.rel hcv hst.next (show R.res (fun _ => true) (lookOuts C c s1 v c.outs) = some x from hx) hux
    simp only [outFits, Bool.and_eq_true] at h4
    obtain ⟨g1, g2, g3⟩ := h4
    have g1 := j3c _ _ g1
    subst g1
    refine ⟨o, ho, γ2, s2, w', θ, ν, cv, (hst.trans hfz).ctx hP hT hG, h1, h2, fun x hx => ?_, fun x hx y hy hne => nodup_spec g3 x hx y hy hne, h3, h5, hcv2, ?_⟩
    · obtain ⟨b, q1, q2, q3⟩ := postFits_mem g2 x hx
      obtain ⟨lc, ob, r1, -, -⟩ := hfz.rel.blk _ b q1
      exact ⟨b, lc, q1, by rw [(cbHold_spec q2).2, live_sub, q3]; rfl, r1, fun ob hob => (cbHold_spec q2).1 _ γ2 lc ob hob⟩
    · unfold EndR
      cases hr : (c.fi tl).roundOf with
      | none => rw [hr] at hend; exact hend
      | some i => rw [hr] at hend; exact hend
end Go.Proofs.YtkgnlfmfenmihaaGreatDoor.Abs

namespace Go.Proofs.YtkgnlfmfenmihaaGreatDoor.Abs
open Go
mutual
def msz : Dt → Nat
  | .val _ => 1
  | .sl _ _ _ es => mszL es + 1
  | .pt _ _ _ _ _ _ => 1
  | .ls _ es => mszL es + 1
def mszL : List Dt → Nat
  | [] => 0
  | d :: l => msz d + mszL l
end
theorem j1e : ∀ {l m : List Dt}, mszL (l ++ m) = mszL l + mszL m
  | [], m => by simp [mszL]
  | d :: l, m => by simp only [List.cons_append, mszL, j1e (l := l)]; omega
theorem msz_pos : ∀ (d : Dt), 1 ≤ msz d := by
  intro d; cases d <;> simp only [msz] <;> omega
theorem mszL_len : ∀ {l : List Dt}, l.length ≤ mszL l
  | [] => Nat.zero_le _
  | d :: l => by
    have := msz_pos d
    have := mszL_len (l := l)
    simp only [List.length_cons, mszL]; omega
theorem mszL_take_drop (l : List Dt) (n : Nat) : mszL (l.take n) + mszL (l.drop n) = mszL l := by
  rw [← j1e, List.take_append_drop]
mutual
def bulk {H : Type} : DataW H → Nat
  | .lit (.string bytes) => bytes.length + 1
  | .lit _ => 1
  | .nil => 1
  | .ptr d => bulk d + 1
  | .slice elems spare => j3t elems + j3t spare + 1
  | .agg parts => j3t parts + 1
  | .iface _ d => bulk d + 1
  | .map entries => bulkEntries entries + 1
  | .held _ => 1
def j3t {H : Type} : List (DataW H) → Nat
  | [] => 0
  | d :: r => bulk d + j3t r
def bulkEntries {H : Type} : List (Lit × DataW H) → Nat
  | [] => 0
  | x :: r => bulkEntry x + bulkEntries r
def bulkEntry {H : Type} : Lit × DataW H → Nat
  | (.string bytes, d) => bytes.length + bulk d + 1
  | (_, d) => bulk d + 1
end
def fitL (C : Ctx) (w : World) (F : Nat → Prop) : List Kd → List Dt → Prop
  | [], [] => True
  | k :: ks, d :: ds => k.fits d ∧ d.good C w F ∧ fitL C w F ks ds
  | _, _ => False
section
variable {C : Ctx} {w : World} {F : Nat → Prop}
theorem fitL_len : ∀ {ks : List Kd} {ds : List Dt}, fitL C w F ks ds → ds.length = ks.length
  | [], [], _ => rfl
  | _ :: _, _ :: _, h => by simp [fitL_len h.2.2]
  | [], _ :: _, h => h.elim
  | _ :: _, [], h => h.elim
theorem fitL_get : ∀ {ks : List Kd} {ds : List Dt} {i : Nat} {d : Dt}, fitL C w F ks ds → ds[i]? = some d → ∃ k, ks[i]? = some k ∧ k.fits d ∧ d.good C w F
  | [], [], i, d, _, h => by simp at h
  | k :: ks, d :: ds, 0, d', h, e => by
    simp only [List.getElem?_cons_zero, Option.some.injEq] at e
    subst e
    exact ⟨k, rfl, h.1, h.2.1⟩
  | k :: ks, d :: ds, i + 1, d', h, e => by simpa using fitL_get (i := i) h.2.2 (by simpa using e)
  | [], _ :: _, _, _, h, _ => h.elim
  | _ :: _, [], _, _, h, _ => h.elim
theorem fitL_append : ∀ {ks ks' : List Kd} {ds ds' : List Dt}, fitL C w F ks ds → fitL C w F ks' ds' → fitL C w F (ks ++ ks') (ds ++ ds')
  | [], _, [], _, _, h => h
  | _ :: _, _, _ :: _, _, h, h' => ⟨h.1, h.2.1, fitL_append h.2.2 h'⟩
  | [], _, _ :: _, _, h, _ => h.elim
  | _ :: _, _, [], _, h, _ => h.elim
theorem Dt.goodL.mk {ks : List Kd} : ∀ {l : List Dt} {j : Nat}, (∀ (i : Nat) d, l[i]? = some d → (∃ k, ks[(j + i) % ks.length]? = some k ∧ k.fits d) ∧ d.good C w F) → Dt.goodL C w F ks j l
  | [], _, _ => trivial
  | d :: l, j, h => ⟨(h 0 d rfl).1, (h 0 d rfl).2, Dt.goodL.mk fun i d' hi => by
      have := h (i + 1) d' (by simpa using hi)
      rwa [show j + (i + 1) = j + 1 + i by omega] at this⟩
theorem goodL_join {ks : List Kd} : ∀ {dss : List (List Dt)} {q : Nat}, (∀ x ∈ dss, fitL C w F ks x) → Dt.goodL C w F ks (q * ks.length) dss.flatten
  | [], _, _ => trivial
  | x :: dss, q, h => .mk fun i d hi => by
    have hx := h x List.mem_cons_self
    have hr := goodL_join (dss := dss) (q := q + 1) fun y hy => h y (List.mem_cons_of_mem _ hy)
    rw [List.flatten_cons, List.getElem?_append] at hi
    split at hi
    · next hlt =>
      obtain ⟨k, h1, h2, h3⟩ := fitL_get hx hi
      refine ⟨⟨k, ?_, h2⟩, h3⟩
      have hl : i < ks.length := by rw [← fitL_len hx]; exact hlt
      rw [Nat.mul_comm, Nat.mul_add_mod, Nat.mod_eq_of_lt hl]
      exact h1
    · next hge =>
      have := hr.get hi
      rw [show (q + 1) * ks.length + (i - x.length) = q * ks.length + i by rw [fitL_len hx, Nat.add_mul, Nat.one_mul]; rw [fitL_len hx] at hge; omega] at this
      exact this
end
noncomputable def fieldsOk (C : Ctx) (L : List TypeId) : List Field → Nat → List Kd → Bool
  | [] => fun _ ks => match ks with | [] => true | _ :: _ => false
  | f :: fs => fun off ks => Nat.beq f.offset off && (hasN f.type L && (Nat.beq (C.P.cellsOf f.type) (j0a C f.type).length && (kdsEq (ks.take (j0a C f.type).length) (j0a C f.type) && fieldsOk C L fs (Nat.add off (j0a C f.type).length) (ks.drop (j0a C f.type).length))))
noncomputable def tyOk (C : Ctx) (L : List TypeId) (t : TypeId) : Bool :=
  match C.P.underlying t with
  | some d => match d with
    | .int k => kdsEq (j0a C t) [.int k]
    | .bool => kdsEq (j0a C t) [.bool]
    | .string => kdsEq (j0a C t) [.str]
    | .slice e => kdsEq (j0a C t) [.sl e] && (hasN e L && (!Nat.beq (C.P.cellsOf e) 0 && Nat.beq (C.P.cellsOf e) (j0a C e).length))
    | .struct fs => fieldsOk C L fs.toList 0 (j0a C t) && Nat.beq (C.P.cellsOf t) (j0a C t).length
    | _ => false
  | none => false
noncomputable def tysOk (C : Ctx) (L : List TypeId) : List TypeId → Bool
  | [] => true
  | t :: l => tyOk C L t && tysOk C L l
theorem hasN_in {k : Nat} : ∀ {l : List Nat}, hasN k l = true → k ∈ l
  | [], h => by cases h
  | e :: es, h => by
    unfold hasN at h
    cases hb : Nat.beq k e with
    | true => rw [Nat.eq_of_beq_eq_true hb]; exact List.mem_cons_self
    | false => rw [hb] at h; exact List.mem_cons_of_mem _ (hasN_in h)
theorem tysOk_mem {C : Ctx} {L : List TypeId} : ∀ {l : List TypeId}, tysOk C L l = true → ∀ t ∈ l, tyOk C L t = true
  | [], _, t, ht => by cases ht
  | x :: l, h, t, ht => by
    simp only [tysOk, Bool.and_eq_true] at h
    cases ht with
    | head => exact h.1
    | tail _ ht => exact tysOk_mem h.2 t ht
section
variable {H : Type} {enc : TypeId × Value → H} {C : Ctx} {w : World} {spare : Nat → Bool} {held : Bool} {L : List TypeId}
theorem each_dt {α : Type} {F : Nat → Prop} {ks : List Kd} {g : α → DataW H} : ∀ (n : Nat) (xs : List α) (rd : Nat → List Value), xs.length = n →
    (∀ (i : Nat) x, xs[i]? = some x → ∃ ds : List Dt, ds.map Dt.v = rd i ∧ fitL C w F ks ds ∧ mszL ds ≤ bulk (g x)) →
    ∃ dss : List (List Dt), dss.length = n ∧ (∀ (i : Nat) ds, dss[i]? = some ds → ds.map Dt.v = rd i) ∧ (∀ x ∈ dss, fitL C w F ks x) ∧ mszL dss.flatten ≤ j3t (xs.map g)
  | 0, [], rd, _, _ => ⟨[], rfl, (fun i ds h => by simp at h), (fun x hx => by cases hx), by simp [mszL, j3t]⟩
  | n + 1, x :: xs, rd, hn, h => by
    obtain ⟨ds, h1, h2, h3⟩ := h 0 x rfl
    obtain ⟨dss, g1, g2, g3, g4⟩ := each_dt n xs (fun i => rd (i + 1)) (by simpa using hn) fun i y hy => h (i + 1) y (by simpa using hy)
    refine ⟨ds :: dss, by simp [g1], fun i e he => ?_, fun y hy => ?_, ?_⟩
    · cases i with
      | zero => simp only [List.getElem?_cons_zero, Option.some.injEq] at he; subst he; exact h1
      | succ i => exact g2 i e (by simpa using he)
    · cases hy with
      | head => exact h2
      | tail _ hy => exact g3 y hy
    · rw [List.flatten_cons, j1e, List.map_cons]
      simp only [j3t]; omega
theorem fields_dt {F : Nat → Prop} {m : Nat} {cs : List Value} (ih : ∀ (t : TypeId) (cs : List Value) (x : DataW H × List MemPlace), t ∈ L → DataW.trod enc C.P w 0 spare held m t cs = some x → ∃ ds : List Dt, ds.map Dt.v = cs ∧ fitL C w F (j0a C t) ds ∧ mszL ds ≤ bulk x.1) :
    ∀ (fs : List Field) (xs : List (DataW H × List MemPlace)) (off : Nat) (ks : List Kd), fieldsOk C L fs off ks = true → off + ks.length = cs.length → xs.length = fs.length →
      (∀ (i : Nat) f, fs[i]? = some f → DataW.trod enc C.P w 0 spare held m f.type ((cs.drop f.offset).take (C.P.cellsOf f.type)) = xs[i]?) →
      ∃ ds : List Dt, ds.map Dt.v = cs.drop off ∧ fitL C w F ks ds ∧ mszL ds ≤ j3t (xs.map (·.1))
  | [], [], off, ks, h, hl, _, _ => by
    cases ks with
    | cons _ _ => cases h
    | nil =>
      simp only [List.length_nil, Nat.add_zero] at hl
      exact ⟨[], by rw [List.drop_eq_nil_of_le (by omega)]; rfl, trivial, by simp [mszL, j3t]⟩
  | f :: fs, x :: xs, off, ks, h, hl, hn, hx => by
    simp only [fieldsOk, Bool.and_eq_true] at h
    obtain ⟨h1, h2, h3, h4, h5⟩ := h
    have h1 := Nat.eq_of_beq_eq_true h1
    have h3 := Nat.eq_of_beq_eq_true h3
    have h4 := j3i h4
    have h0 := hx 0 f rfl
    simp only [List.getElem?_cons_zero] at h0
    obtain ⟨ds, d1, d2, d3⟩ := ih f.type _ x (hasN_in h2) h0
    have hle : (j0a C f.type).length ≤ ks.length := by
      have := congrArg List.length h4
      rw [List.length_take] at this
      omega
    obtain ⟨es, e1, e2, e3⟩ := fields_dt (F := F) (cs := cs) ih fs xs (off + (j0a C f.type).length) (ks.drop (j0a C f.type).length) h5 (by rw [List.length_drop]; omega) (by simpa using hn) fun i g hg => by
      have := hx (i + 1) g (by simpa using hg)
      simpa using this
    refine ⟨ds ++ es, ?_, ?_, ?_⟩
    · rw [List.map_append, d1, e1, h1, h3, ← List.drop_drop, List.take_append_drop]
    · have := fitL_append d2 e2
      rwa [← h4, List.length_take, Nat.min_eq_left hle, List.take_append_drop] at this
    · rw [j1e, List.map_cons]
      simp only [j3t]; omega
  | [], _ :: _, _, _, _, _, h, _ => by simp at h
  | _ :: _, [], _, _, _, _, h, _ => by simp at h
theorem data_of (hL : ∀ t ∈ L, tyOk C L t = true) : ∀ (fuel : Nat) (t : TypeId) (cs : List Value) (x : DataW H × List MemPlace), t ∈ L → DataW.trod enc C.P w 0 spare held fuel t cs = some x →
    ∃ ds : List Dt, ds.map Dt.v = cs ∧ fitL C w (fun k => k < w.heap.size) (j0a C t) ds ∧ mszL ds ≤ bulk x.1
  | 0, _, _, _, _, h => by simp [DataW.trod] at h
  | fuel + 1, t, cs, x, ht, h => by
    have hok := hL t ht
    unfold tyOk at hok
    cases hu : C.P.underlying t with
    | none => rw [hu] at hok; cases hok
    | some d =>
      rw [hu] at hok
      cases d <;> first | (cases hok; done) | skip
      case bool =>
        obtain ⟨b, rfl, rfl⟩ := DataW.trod_bool hu h
        rw [j3i hok]
        exact ⟨[.val (.bool b)], rfl, ⟨⟨b, rfl⟩, rfl, trivial⟩, by simp [mszL, msz, bulk]⟩
      case int k =>
        obtain ⟨n, rfl, rfl, -⟩ := DataW.trod_int hu h
        rw [j3i hok]
        exact ⟨[.val (.int k n)], rfl, ⟨⟨n, rfl⟩, rfl, trivial⟩, by simp [mszL, msz, bulk]⟩
      case string =>
        obtain ⟨s, rfl, rfl, -⟩ := DataW.trod_string hu h
        rw [j3i hok]
        exact ⟨[.val (.string s)], rfl, ⟨⟨s, rfl⟩, rfl, trivial⟩, by simp [mszL, msz, bulk]⟩
      case slice e =>
        simp only [Bool.and_eq_true, Bool.not_eq_true'] at hok
        obtain ⟨h1, h2, h3, h4⟩ := hok
        have h4 := Nat.eq_of_beq_eq_true h4
        have h0 : C.P.cellsOf e ≠ 0 := by intro q; rw [q] at h3; cases h3
        rw [j3i h1]
        rcases DataW.trod_slice hu h with ⟨rfl, rfl⟩ | ⟨a, len, cap, elems, rest, n, hf, rfl, rfl, hb, hl, hm, hlen, hel, hsp, hns⟩
        · exact ⟨[.sl (.slice none 0 0) e 0 []], rfl, ⟨⟨_, _, _, _, _, rfl⟩, .inl ⟨rfl, rfl⟩, trivial⟩, by simp [mszL, msz, bulk]⟩
        · obtain rfl : fuel = n := by omega
          have each : ∀ (i : Nat) y, elems[i]? = some y → ∃ cs', w.cells? 0 (a.add (i * C.P.cellsOf e)) (C.P.cellsOf e) = some cs' ∧ DataW.trod enc C.P w 0 spare held fuel e cs' = some y := by
            intro i y hy
            have hlt : i < len := by rw [← hlen]; exact (List.getElem?_eq_some_iff.1 hy).1
            have := hel i hlt
            rw [hy] at this
            exact Option.bind_eq_some_iff.1 this
          obtain ⟨dss, d1, d2, d3, d4⟩ := each_dt (C := C) (w := w) (F := fun k => k < w.heap.size) (ks := j0a C e) (g := fun y : DataW H × List MemPlace => y.1) len elems
            (fun i => (w.cells? 0 (a.add (i * C.P.cellsOf e)) (C.P.cellsOf e)).getD []) hlen fun i y hy => by
              obtain ⟨cs', q1, q2⟩ := each i y hy
              rw [q1]
              exact data_of hL fuel e cs' y (hasN_in h2) q2
          have dl : ∀ x ∈ dss, x.length = C.P.cellsOf e := fun x hx => by rw [fitL_len (d3 x hx), h4]
          have flen : ∀ (l : List (List Dt)), (∀ x ∈ l, x.length = C.P.cellsOf e) → l.flatten.length = l.length * C.P.cellsOf e := by
            intro l
            induction l with
            | nil => intro _; simp
            | cons x l ih =>
              intro hx
              rw [List.flatten_cons, List.length_append, hx x List.mem_cons_self, ih fun y hy => hx y (List.mem_cons_of_mem _ hy), List.length_cons, Nat.add_mul]
              omega
          have fget : ∀ (l : List (List Dt)) (j : Nat) (d : Dt), (∀ x ∈ l, x.length = C.P.cellsOf e) → l.flatten[j]? = some d → ∃ i q x, q < C.P.cellsOf e ∧ j = i * C.P.cellsOf e + q ∧ l[i]? = some x ∧ x[q]? = some d := by
            intro l
            induction l with
            | nil => intro j d _ h; simp at h
            | cons x l ih =>
              intro j d hx hj
              have hxl := hx x List.mem_cons_self
              rw [List.flatten_cons, List.getElem?_append] at hj
              split at hj
              · next hlt => exact ⟨0, j, x, by omega, by omega, rfl, hj⟩
              · next hge =>
                obtain ⟨i, q, y, g1, g2, g3, g4⟩ := ih (j - x.length) d (fun y hy => hx y (List.mem_cons_of_mem _ hy)) hj
                exact ⟨i + 1, q, y, g1, by rw [Nat.add_mul]; omega, by simpa using g3, g4⟩
          refine ⟨[.sl (.slice (some a) len cap) e (C.P.cellsOf e) dss.flatten], rfl, ⟨⟨_, _, _, _, _, rfl⟩, .inr ⟨h4, ⟨a, len, cap, rfl, by rw [flen dss dl, d1], fun hne => ?_⟩, ?_⟩, trivial⟩, ?_⟩
          ·
            have cellAt : ∀ (i q : Nat) x d, dss[i]? = some x → x[q]? = some d → q < C.P.cellsOf e → w.cell? ((a.add (i * C.P.cellsOf e)).add q) = some d.v := by
              intro i q x d hx hd hq
              have hlt : i < len := by rw [← d1]; exact (List.getElem?_eq_some_iff.1 hx).1
              have hlt2 : i < elems.length := by rw [hlen]; exact hlt
              obtain ⟨cs', q1, -⟩ := each i _ (List.getElem?_eq_getElem hlt2)
              have hv := d2 i x hx
              simp only [q1, Option.getD_some] at hv
              have := (World.cells?_some q1).2.2 q hq
              rw [this, ← hv, List.getElem?_map, hd]
              rfl
            have hlt0 : 0 < dss.length := by omega
            have hx0 := List.getElem?_eq_getElem hlt0
            have hl0 := dl _ (List.getElem_mem hlt0)
            have hlt1 : 0 < (dss[0]).length := by omega
            have c0 := cellAt 0 0 _ _ hx0 (List.getElem?_eq_getElem hlt1) (by omega)
            simp only [Nat.zero_mul, Addr.add, if_true] at c0
            have hblk : ∃ (vs : Array Value) (t' : TypeId) (lo hi : Nat), w.heap[a.block]? = some (.cells vs t' (lo, hi)) ∧ a.spot = none := by
              unfold World.cell? at c0
              cases hh : w.heap[a.block]? with
              | none => rw [hh] at c0; cases c0
              | some o =>
                rw [hh] at c0
                cases o <;> first | (cases c0; done) | skip
                rename_i vs t' fr
                obtain ⟨lo, hi⟩ := fr
                cases hs : a.spot with
                | none => exact ⟨vs, t', lo, hi, rfl, rfl⟩
                | some p => rw [hs] at c0; cases c0
            obtain ⟨vs, t', lo, hi, hh, hsn⟩ := hblk
            refine ⟨hsn, ?_, vs, t', lo, hi, hh, fun j d hj => ?_⟩
            · rcases Nat.lt_or_ge a.block w.heap.size with h' | h'
              · exact h'
              · rw [Array.getElem?_eq_none h'] at hh; cases hh
            · obtain ⟨i, q, x, g1, g2, g3, g4⟩ := fget dss j d dl hj
              have c := cellAt i q x d g3 g4 g1
              obtain ⟨ab, ao, asp⟩ := a
              simp only at hsn hh
              subst hsn
              rw [j1l, j1l] at c
              unfold World.cell? at c
              rw [hh] at c
              rw [g2, ← Nat.add_assoc]
              exact c
          · have := goodL_join (C := C) (w := w) (F := fun k => k < w.heap.size) (ks := j0a C e) (dss := dss) (q := 0) d3
            rwa [Nat.zero_mul] at this
          · simp only [mszL, msz, bulk]
            omega
      case struct fs =>
        simp only [Bool.and_eq_true] at hok
        obtain ⟨h1, h2⟩ := hok
        have h2 := Nat.eq_of_beq_eq_true h2
        obtain ⟨xs, n, hf, rfl, hl, hlen, hx⟩ := DataW.trod_struct hu h
        obtain rfl : fuel = n := by omega
        obtain ⟨ds, d1, d2, d3⟩ := fields_dt (F := fun k => k < w.heap.size) (cs := cs) (fun t cs x h1 h2 => data_of hL fuel t cs x h1 h2) fs.toList xs 0 (j0a C t) h1 (by rw [Nat.zero_add, ← h2, hl]) (by simpa using hlen)
          (fun i f hi => by rw [Array.getElem?_toList] at hi; exact hx i f hi)
        exact ⟨ds, by simpa using d1, d2, by simp only [bulk]; omega⟩
end
end Go.Proofs.YtkgnlfmfenmihaaGreatDoor.Abs

namespace Go.Proofs.YtkgnlfmfenmihaaGreatDoor.Abs
open Go
mutual
def Dt.wf (K : TypeId → List Kd) : Dt → Prop
  | .val v => oneV v = true
  | .sl v t sz es => (v = .slice none 0 0 ∧ es = []) ∨ (sz = (K t).length ∧ (∃ a n c, v = .slice (some a) n c ∧ es.length = n * sz) ∧ Dt.wfL K (K t) 0 es)
  | .pt _ _ _ _ _ _ => True
  | .ls ks es => Dt.wfL K ks 0 es
def Dt.wfL (K : TypeId → List Kd) (ks : List Kd) : Nat → List Dt → Prop
  | _, [] => True
  | j, d :: l => (∃ k, ks[j % ks.length]? = some k ∧ k.fits d) ∧ Dt.wf K d ∧ Dt.wfL K ks (j + 1) l
end
mutual
theorem Dt.good.wf {C : Ctx} {w : World} {F : Nat → Prop} : ∀ (d : Dt), d.good C w F → d.wf (j0a C)
  | .val _, h => h
  | .sl v t sz es, h => by
    rcases h with h | ⟨h0, ⟨a, n, c, e1, e3, -⟩, h2⟩
    · exact .inl h
    · exact .inr ⟨h0, ⟨a, n, c, e1, e3⟩, Dt.goodL.wf _ 0 es h2⟩
  | .pt _ _ _ _ _ _, _ => trivial
  | .ls ks es, h => Dt.goodL.wf ks 0 es h
theorem Dt.goodL.wf {C : Ctx} {w : World} {F : Nat → Prop} (ks : List Kd) : ∀ (j : Nat) (l : List Dt), Dt.goodL C w F ks j l → Dt.wfL (j0a C) ks j l
  | _, [], _ => trivial
  | j, d :: l, ⟨h1, h2, h3⟩ => ⟨h1, Dt.good.wf d h2, Dt.goodL.wf ks (j + 1) l h3⟩
end
section
variable {K : TypeId → List Kd} {ks : List Kd}
theorem Dt.wfL.get : ∀ {l : List Dt} {j i : Nat} {d : Dt}, Dt.wfL K ks j l → l[i]? = some d → (∃ k, ks[(j + i) % ks.length]? = some k ∧ k.fits d) ∧ d.wf K
  | [], _, _, _, _, h => by simp at h
  | x :: l, j, 0, d, ⟨h1, h2, h3⟩, h => by
    simp only [List.getElem?_cons_zero, Option.some.injEq] at h
    subst h
    exact ⟨h1, h2⟩
  | x :: l, j, i + 1, d, ⟨h1, h2, h3⟩, h => by
    have := h3.get (i := i) (d := d) (by simpa using h)
    rwa [show j + 1 + i = j + (i + 1) by omega] at this
theorem Dt.wfL.mk : ∀ {l : List Dt} {j : Nat}, (∀ (i : Nat) d, l[i]? = some d → (∃ k, ks[(j + i) % ks.length]? = some k ∧ k.fits d) ∧ d.wf K) → Dt.wfL K ks j l
  | [], _, _ => trivial
  | d :: l, j, h => ⟨(h 0 d rfl).1, (h 0 d rfl).2, Dt.wfL.mk fun i d' hi => by
      have := h (i + 1) d' (by simpa using hi)
      rwa [show j + (i + 1) = j + 1 + i by omega] at this⟩
theorem Dt.wfL.take {l : List Dt} {j : Nat} (n : Nat) (h : Dt.wfL K ks j l) : Dt.wfL K ks j (l.take n) := .mk fun i d hi => by
  rw [List.getElem?_take] at hi
  split at hi
  · exact h.get hi
  · cases hi
theorem Dt.wfL.append {l m : List Dt} {j : Nat} (h : Dt.wfL K ks j l) (hm : ∀ (i : Nat) d, m[i]? = some d → (∃ k, ks[(j + l.length + i) % ks.length]? = some k ∧ k.fits d) ∧ d.wf K) : Dt.wfL K ks j (l ++ m) := .mk fun i d hi => by
  rw [List.getElem?_append] at hi
  split at hi
  · exact h.get hi
  · next hge =>
    have := hm (i - l.length) d hi
    rwa [show j + l.length + (i - l.length) = j + i by omega] at this
end
def SlOf (K : TypeId → List Kd) (T : TypeId) (a : Option Addr) (k sz : Nat) (ss : List Dt) : Prop := ss.length = k * (K T).length ∧ Dt.wfL K (K T) 0 ss ∧ (k ≠ 0 → sz = (K T).length ∧ ∃ b, a = some b)
theorem slT_spec {K : TypeId → List Kd} {T : TypeId} {d : Dt} (hf : Kd.fits (.sl T) d) (hw : d.wf K) : ∃ a n c sz es, d = .sl (.slice a n c) T sz es ∧ SlOf K T a n sz es := by
  obtain ⟨a, n, c, sz, es, rfl⟩ := hf
  rcases hw with ⟨h1, rfl⟩ | ⟨h0, ⟨a', n', c', h1, h2⟩, h3⟩
  · injection h1 with e1 e2 e3
    subst e2
    exact ⟨_, _, _, _, _, rfl, by simp, trivial, fun h => absurd rfl h⟩
  · injection h1 with e1 e2 e3
    subst e2
    exact ⟨_, _, _, _, _, rfl, by rw [h2, h0], h3, fun _ => ⟨h0, a', e1⟩⟩
theorem mszL_mono_take {l : List Dt} {a b : Nat} (h : a ≤ b) : mszL (l.take a) ≤ mszL (l.take b) := by
  have := mszL_take_drop (l.take b) a
  rw [List.take_take, Nat.min_eq_left h] at this
  omega
theorem take_four {l : List Dt} {n : Nat} (h : n * 4 + 4 ≤ l.length) : ∃ a b c d, l[n * 4]? = some a ∧ l[n * 4 + 1]? = some b ∧ l[n * 4 + 2]? = some c ∧ l[n * 4 + 3]? = some d ∧ l.take ((n + 1) * 4) = l.take (n * 4) ++ [a, b, c, d] := by
  refine ⟨l[n * 4], l[n * 4 + 1], l[n * 4 + 2], l[n * 4 + 3], List.getElem?_eq_getElem _, List.getElem?_eq_getElem _, List.getElem?_eq_getElem _, List.getElem?_eq_getElem _, ?_⟩
  rw [show (n + 1) * 4 = n * 4 + 1 + 1 + 1 + 1 by omega]
  rw [List.take_add_one, List.take_add_one, List.take_add_one, List.take_add_one]
  rw [List.getElem?_eq_getElem (show n * 4 < l.length by omega), List.getElem?_eq_getElem (show n * 4 + 1 < l.length by omega), List.getElem?_eq_getElem (show n * 4 + 1 + 1 < l.length by omega), List.getElem?_eq_getElem (show n * 4 + 1 + 1 + 1 < l.length by omega)]
  simp only [Option.toList_some, List.append_assoc, List.cons_append, List.nil_append]
theorem wrap_id {x : Int} (h1 : -9223372036854775808 ≤ x) (h2 : x ≤ 9223372036854775807) : IntKind.i64.wrap x = x := by
  simp only [IntKind.wrap, IntKind.signed, IntKind.bits]
  simp
  omega
def dataOk (K : TypeId → List Kd) : List TypeId → List Dt → Prop
  | [], l => l = []
  | t :: ts, l => ∃ a b, l = a ++ b ∧ a.length = (K t).length ∧ Dt.wfL K (K t) 0 a ∧ dataOk K ts b
theorem fitL_wf {C : Ctx} {w : World} {F : Nat → Prop} {ks : List Kd} {ds : List Dt} (h : fitL C w F ks ds) : Dt.wfL (j0a C) ks 0 ds := .mk fun i d hi => by
  obtain ⟨k, h1, h2, h3⟩ := fitL_get h hi
  have hlt : i < ks.length := (List.getElem?_eq_some_iff.1 h1).1
  rw [Nat.zero_add, Nat.mod_eq_of_lt hlt]
  exact ⟨⟨k, h1, h2⟩, Dt.good.wf d h3⟩
def pArgs (K : TypeId → List Kd) (ts : List TypeId) (N : Nat) (l : List Dt) : Prop := dataOk K ts l ∧ mszL l ≤ N
end Go.Proofs.YtkgnlfmfenmihaaGreatDoor.Abs

namespace Go.Proofs.YtkgnlfmfenmihaaGreatDoor.Abs
open Go Go.ChangeShapes
noncomputable def opqsD : List Kd → Nat → List AV
  | [] => fun _ => []
  | k :: l => fun i => .opq k (.var i) :: opqsD l (Nat.add i 1)
noncomputable def argAV (C : Ctx) (t : TypeId) (i : Nat) : AV :=
  match C.P.underlying t with
  | none => .junk
  | some d => match d with
    | .struct _ => .agg (opqsD (j0a C t) i)
    | _ => match opqsD (j0a C t) i with
      | [] => .junk
      | v :: l => match l with
        | [] => v
        | _ :: _ => .junk
noncomputable def argAVs (C : Ctx) : List TypeId → Nat → List AV
  | [] => fun _ => []
  | t :: ts => fun i => argAV C t i :: argAVs C ts (Nat.add i (j0a C t).length)
noncomputable def argN (C : Ctx) : List TypeId → Nat
  | [] => 0
  | t :: ts => Nat.add (j0a C t).length (argN C ts)
section
variable {H : Type} {enc : TypeId × Value → H} {C : Ctx} {w : World} {spare : Nat → Bool} {held : Bool} {L : List TypeId}
theorem conc_opqsD {γ : G} {F : Nat → Prop} : ∀ {ks : List Kd} {ds : List Dt} {i : Nat}, fitL C w F ks ds → (∀ (j : Nat) x, ds[j]? = some x → seG γ (.var (i + j)) = some x) → concL γ (opqsD ks i) = some (ds.map Dt.v)
  | [], [], _, _, _ => rfl
  | k :: ks, d :: ds, i, h, hg => by
    refine concL_cons.2 ⟨d.v, ds.map Dt.v, j1z (hg 0 d rfl) h.1 rfl, conc_opqsD (i := i + 1) h.2.2 fun j x hx => ?_, rfl⟩
    have := hg (j + 1) x (by simpa using hx)
    rwa [show i + (j + 1) = i + 1 + j by omega] at this
  | [], _ :: _, _, h, _ => h.elim
  | _ :: _, [], _, h, _ => h.elim
theorem one_of_wide {P : Program} {w : World} {r : Reach} {base : Nat} {u : TypeId} {v : Value} (h : Cell.okWide P w r base u v) : oneV v = true := by
  unfold Cell.okWide at h
  split at h <;> first | rfl | skip
  unfold Cell.ok at h
  split at h <;> first | rfl | exact h.elim
theorem cells_one {v : Value} (h : oneV v = true) : v.cells.toList = [v] := by
  cases v <;> first | rfl | cases h
theorem arg_data (hL : ∀ t ∈ L, tyOk C L t = true) {t : TypeId} (ht : t ∈ L) {v : Value} {d : DataW H} {p : List MemPlace} (h : DataW.Trod enc C.P w 0 spare held t v d p) {r : Reach} {base : Nat} (hok : Value.okWide C.P w r base t v) :
    ∃ ds : List Dt, fitL C w (fun k => k < w.heap.size) (j0a C t) ds ∧ mszL ds ≤ bulk d ∧ ∀ (γ : G) i, (∀ (j : Nat) x, ds[j]? = some x → seG γ (.var (i + j)) = some x) → conc γ (argAV C t i) = some v := by
  obtain ⟨fuel, hf⟩ := h
  obtain ⟨ds, h1, h2, h3⟩ := data_of hL fuel t _ _ ht hf
  refine ⟨ds, h2, h3, fun γ i hg => ?_⟩
  have hc := conc_opqsD h2 hg
  have hty := hL t ht
  unfold tyOk at hty
  unfold argAV
  cases hu : C.P.underlying t with
  | none => rw [hu] at hty; cases hty
  | some dd =>
    rw [hu] at hty
    have single : ∀ k, kdsEq (j0a C t) [k] = true → Cell.okWide C.P w r base t v → conc γ (match opqsD (j0a C t) i with | [] => .junk | v :: l => match l with | [] => v | _ :: _ => .junk) = some v := by
      intro k hk hw
      rw [j3i hk] at hc ⊢
      rw [h1, cells_one (one_of_wide hw)] at hc
      obtain ⟨a, b, g1, g2, g3⟩ := concL_cons.1 hc
      injection g3 with g3 g4
      rw [g3]; exact g1
    have hcell : (∀ fs, dd ≠ .struct fs) → (∀ n e, dd ≠ .array n e) → Cell.okWide C.P w r base t v := by
      intro n1 n2
      unfold Value.okWide at hok
      rw [hu] at hok
      cases dd <;> first | exact absurd rfl (n1 _) | exact absurd rfl (n2 _ _) | exact hok
    cases dd <;> first | (cases hty; done) | skip
    case bool => exact single _ hty (hcell (fun _ h => by cases h) (fun _ _ h => by cases h))
    case int k => exact single _ hty (hcell (fun _ h => by cases h) (fun _ _ h => by cases h))
    case string => exact single _ hty (hcell (fun _ h => by cases h) (fun _ _ h => by cases h))
    case slice e =>
      simp only [Bool.and_eq_true] at hty
      exact single _ hty.1 (hcell (fun _ h => by cases h) (fun _ _ h => by cases h))
    case struct fs =>
      unfold Value.okWide at hok
      rw [hu] at hok
      obtain ⟨cs, rfl, -, -⟩ := hok
      rw [h1] at hc
      show (concL γ (opqsD (j0a C t) i)).map _ = _
      rw [hc]
      rfl
theorem args_data (hL : ∀ t ∈ L, tyOk C L t = true) {r : Reach} {base : Nat} : ∀ {ts : List TypeId} {vs : List Value} {ds : List (DataW H)} {ps : List MemPlace}, (∀ t ∈ ts, t ∈ L) → DataW.TrodAll enc C.P w 0 spare held ts vs ds ps →
    (∀ (j : Nat) t v, ts[j]? = some t → vs[j]? = some v → Value.okWide C.P w r base t v) →
    ∃ Ls : List Dt, (∀ d ∈ Ls, d.good C w fun k => k < w.heap.size) ∧ Ls.length = argN C ts ∧ (dataOk (j0a C) ts Ls ∧ mszL Ls ≤ j3t ds) ∧ ∀ (γ : G) i, (∀ (j : Nat) x, Ls[j]? = some x → seG γ (.var (i + j)) = some x) → concL γ (argAVs C ts i) = some vs
  | [], vs, ds, ps, _, h, _ => by
    obtain ⟨rfl, rfl, rfl⟩ := trodAll_nil h
    exact ⟨[], (fun d hd => by cases hd), rfl, ⟨rfl, by simp [mszL, j3t]⟩, fun _ _ _ => rfl⟩
  | t :: ts, vs, ds, ps, hin, h, hok => by
    obtain ⟨v, vs', d, ds', p, q, rfl, rfl, rfl, h1, h2⟩ := trodAll_cons h
    obtain ⟨es, e1, e2, e3⟩ := arg_data hL (hin t List.mem_cons_self) h1 (hok 0 t v rfl rfl)
    obtain ⟨Ls, g1, g2, g3, g4⟩ := args_data hL (fun u hu => hin u (List.mem_cons_of_mem _ hu)) h2 fun j u y a b => hok (j + 1) u y (by simpa using a) (by simpa using b)
    refine ⟨es ++ Ls, fun x hx => ?_, ?_, ?_, fun γ i hg => ?_⟩
    · rcases List.mem_append.1 hx with hx | hx
      · obtain ⟨j, hj⟩ := List.getElem?_of_mem hx
        obtain ⟨_, _, _, h⟩ := fitL_get e1 hj
        exact h
      · exact g1 x hx
    · rw [List.length_append, fitL_len e1, g2]; rfl
    · exact ⟨⟨es, Ls, rfl, fitL_len e1, fitL_wf e1, g3.1⟩, by rw [j1e]; have := g3.2; simp only [j3t]; omega⟩
    · refine concL_cons.2 ⟨v, vs', e3 γ i fun j x hx => hg j x ?_, g4 γ (i + (j0a C t).length) fun j x hx => ?_, rfl⟩
      · rw [List.getElem?_append_left (List.getElem?_eq_some_iff.1 hx).1]; exact hx
      · have := hg (es.length + j) x (by rw [List.getElem?_append_right (by omega)]; simpa using hx)
        rwa [fitL_len e1, ← Nat.add_assoc] at this
end
def γD (n : Nat) (V : Nat → Option Value) (L : List Dt) : G := fun id => if id < n then some ⟨id, 0, 1, (V id).map .val⟩ else if id < n + L.length then some ⟨0, 0, 0, L[id - n]?⟩ else none
theorem γD_at {n : Nat} {V : Nat → Option Value} {L : List Dt} {j : Nat} {x : Dt} (h : L[j]? = some x) : seG (γD n V L) (.var (n + j)) = some x := by
  have hlt : j < L.length := (List.getElem?_eq_some_iff.1 h).1
  simp only [seG, γD]
  rw [if_neg (by omega), if_pos (by omega), show n + j - n = j by omega, h]
  rfl
theorem rel_givenD {C : Ctx} {w : World} {s : S} {V : Nat → Option Value} {L : List Dt} (hn : C.nG + L.length ≤ s.next) (hpc : ∀ f ∈ s.pc, f.pos = true ∧ f.holds (γD C.nG V L)) (hone : ∀ g v, V g = some v → oneV v = true)
    (hL : ∀ d ∈ L, d.good C w fun k => k < w.heap.size)
    (h : ∀ g b, s.h.get g = some b → g < C.nG ∧ j0v b = true ∧ ∃ o, w.heap[g]? = some o ∧ BlkRel C (γD C.nG V L) ⟨g, 0, 1, (V g).map .val⟩ b o) : Rel C 0 (γD C.nG V L) s w := by
  have at' : ∀ g, g < C.nG → γD C.nG V L g = some ⟨g, 0, 1, (V g).map .val⟩ := fun g hg => by simp [γD, hg]
  have nolive : ∀ k, ¬ Live (γD C.nG V L) s k := by
    rintro k ⟨id, b, l, h1, h2, -, -⟩
    rw [(h id b h1).2.1] at h2; cases h2
  refine ⟨(fun id b hb => ?_), (fun id id' b b' l l' h1 h2 h3 h4 hne he => ?_), (fun id hid => ?_), (fun g hg => ⟨_, at' g hg, rfl, rfl⟩), (fun id b l h1 _ _ => (h id b h1).2.1), Nat.zero_le _, hpc, fun id l d h1 h2 => ?_⟩
  · obtain ⟨h1, -, o, h2, h3⟩ := h id b hb
    exact ⟨_, o, at' id h1, h2, h3⟩
  · rw [at' id (h id b h1).1] at h3
    rw [at' id' (h id' b' h2).1] at h4
    obtain rfl := Option.some.inj h3
    obtain rfl := Option.some.inj h4
    exact absurd he hne
  · unfold γD
    rw [if_neg (by omega), if_neg (by omega)]
  · unfold γD at h1
    split at h1
    · obtain rfl := Option.some.inj h1
      obtain ⟨v, hv, rfl⟩ := Option.map_eq_some_iff.1 h2
      exact hone id v hv
    · split at h1
      · obtain rfl := Option.some.inj h1
        exact Dt.good.stays (fun k hk => ⟨⟨hk, nolive k, fun h => h⟩, rfl⟩) d (hL d (List.mem_of_getElem? h2))
      · cases h1
noncomputable def varsN : Nat → Nat → List SE
  | 0 => fun _ => []
  | n + 1 => fun i => .var i :: varsN n (Nat.add i 1)
theorem seL_vars {γ : G} : ∀ {L : List Dt} {i : Nat}, (∀ (j : Nat) x, L[j]? = some x → seG γ (.var (i + j)) = some x) → seL γ (varsN L.length i) = some L
  | [], _, _ => rfl
  | d :: L, i, h => by
    have h0 := h 0 d rfl
    have hr := seL_vars (L := L) (i := i + 1) fun j x hx => by
      have := h (j + 1) x (by simpa using hx)
      rwa [show i + (j + 1) = i + 1 + j by omega] at this
    show ((seG γ (.var i)).bind fun d => (seL γ (varsN L.length (i + 1))).map fun r => d :: r) = _
    rw [show seG γ (.var i) = some d from h0, hr]
    rfl
noncomputable def argFact (C : Ctx) (ts : List TypeId) (N : Nat) : Fact := .rel "args" false (pArgs (j0a C) ts N) (varsN (argN C ts) C.nG)
noncomputable def argsFit (P : Program) (ts : List TypeId) : Bool := ts.all fun t => P.readableRec t && decide (t < P.types.size)
theorem args_stay {H : Type} {enc : TypeId × Value → H} {P : Program} (hl : laidOutB P = true) {W W' : World} (hk : W.keptBut W' (fun _ => False)) {sp : Nat → Bool} : ∀ {ts : List TypeId} {vs : List Value} {ds : List (DataW H)} {ps : List MemPlace},
    argsFit P ts = true → DataW.TrodAll enc P W 0 (fun _ => true) true ts vs ds ps → (∀ p ∈ ps, p.block < W.heap.size) → (∀ p ∈ ps, sp p.block = true) → DataW.TrodAll enc P W' 0 sp true ts vs ds ps
  | [], vs, ds, ps, _, h, _, _ => by
    obtain ⟨rfl, rfl, rfl⟩ := trodAll_nil h
    exact rfl
  | t :: ts, vs, ds, ps, hf, h, hlt, hs => by
    obtain ⟨v, vs', d, ds', p, q, rfl, rfl, rfl, ⟨n, hn⟩, h2⟩ := trodAll_cons h
    simp only [argsFit, List.all_cons, Bool.and_eq_true, decide_eq_true_eq] at hf
    obtain ⟨⟨hr, hsz⟩, hf'⟩ := hf
    refine ⟨p, q, ⟨n, DataW.trod_stays (kids_book hl hr) (book_sized hr) (fun h => by cases h) ⟨hsz, book_self t⟩ hn (fun x hx => ?_) (fun x hx => hs x (List.mem_append_left _ hx))⟩,
      args_stay hl hk hf' h2 (fun x hx => hlt x (List.mem_append_right _ hx)) (fun x hx => hs x (List.mem_append_right _ hx)), rfl⟩
    have hb : W'.heap[x.block]? = W.heap[x.block]? := hk.block (hlt x (List.mem_append_left _ hx)) (fun _ f => f.elim)
    cases x with
    | cell b off =>
      show W'.cell? ⟨b, off, none⟩ = W.cell? ⟨b, off, none⟩
      have hb' : W'.heap[b]? = W.heap[b]? := hb
      simp only [World.cell?, hb']
    | map b => exact hb
theorem noStand {P : Program} {ts : List TypeId} (h : (ts.all fun t => !P.wantsStandIn t) = true) (j : Nat) (t : TypeId) (ht : ts[j]? = some t) : P.wantsStandIn t = false := by
  have := List.all_eq_true.1 h t (List.mem_of_getElem? ht)
  simpa using this
end Go.Proofs.YtkgnlfmfenmihaaGreatDoor.Abs

namespace Go.Proofs.YtkgnlfmfenmihaaGreatDoor.Abs
open Go
section
variable (K : TypeId → List Kd) (T : TypeId)
def j0q (M : Nat) (l : List Dt) : Prop := ∃ (n : Nat) (es : List Dt), l = [.val (.int .i64 (.ofNat n)), .ls (K T) es] ∧ n * 4 ≤ es.length ∧ Dt.wfL K (K T) 0 es ∧ mszL (es.take (n * 4)) < M
def j4k (N M : Nat) (l : List Dt) : Prop := ∃ (n : Nat) (es : List Dt) (a : Option Addr) (k c sz : Nat) (ss : List Dt) (i : Int), l = [.val (.int .i64 (.ofNat n)), .ls (K T) es, .sl (.slice a k c) T sz ss, .val (.int .i64 i)] ∧
  n * 4 ≤ es.length ∧ Dt.wfL K (K T) 0 es ∧ SlOf K T a k sz ss ∧ -1 ≤ i ∧ i < k ∧ i + 1 < N ∧ mszL (es.take (n * 4)) + mszL (ss.take ((i + 1).toNat * 4)) < M
def j0r (B : Nat) (l : List Dt) : Prop := l.length = 4 ∧ Dt.wfL K (K T) 0 l ∧ mszL l < B
end
theorem seL_two {γ : G} {x y : SE} {l : List Dt} (h : seL γ [x, y] = some l) : ∃ a b, l = [a, b] ∧ seG γ x = some a ∧ seG γ y = some b := by
  simp only [seL, Option.bind_eq_some_iff, Option.map_eq_some_iff] at h
  obtain ⟨a, ha, q, ⟨b, hb, r, hr, rfl⟩, rfl⟩ := h
  obtain rfl := Option.some.inj hr
  exact ⟨a, b, rfl, ha, hb⟩
theorem seL_four {γ : G} {x y z t : SE} {l : List Dt} (h : seL γ [x, y, z, t] = some l) : ∃ a b c d, l = [a, b, c, d] ∧ seG γ x = some a ∧ seG γ y = some b ∧ seG γ z = some c ∧ seG γ t = some d := by
  simp only [seL, Option.bind_eq_some_iff, Option.map_eq_some_iff] at h
  obtain ⟨a, ha, q, ⟨b, hb, q2, ⟨c, hc, q3, ⟨d, hd, r, hr, rfl⟩, rfl⟩, rfl⟩, rfl⟩ := h
  obtain rfl := Option.some.inj hr
  exact ⟨a, b, c, d, rfl, ha, hb, hc, hd⟩
theorem seL4 {γ : G} {x y z t : SE} {a b c d : Dt} (h1 : seG γ x = some a) (h2 : seG γ y = some b) (h3 : seG γ z = some c) (h4 : seG γ t = some d) : seL γ [x, y, z, t] = some [a, b, c, d] := by simp [seL, h1, h2, h3, h4]
theorem seG_cmp {γ : G} {op : BinOp} {x y : SE} {a b : Int} (hop : isCmp op = true) (hx : seG γ x = some (.val (.int .i64 a))) (hy : seG γ y = some (.val (.int .i64 b))) : seG γ (.a2 (.bin op) x y) = okV (intOp op .i64 a b) := by
  simp only [seG, hx, hy, Option.bind_some, e2, binV]
  cases op <;> first | (cases hop; done) | rfl
theorem seG_add {γ : G} {x y : SE} {a b : Int} (hx : seG γ x = some (.val (.int .i64 a))) (hy : seG γ y = some (.val (.int .i64 b))) (h1 : -9223372036854775808 ≤ a + b) (h2 : a + b ≤ 9223372036854775807) : seG γ (.a2 (.bin .add) x y) = some (.val (.int .i64 (a + b))) := by
  simp only [seG, hx, hy, Option.bind_some, e2, binV, j2j, if_true, intOp, okV]
  rw [wrap_id h1 h2]
theorem seG_sub {γ : G} {x y : SE} {a b : Int} (hx : seG γ x = some (.val (.int .i64 a))) (hy : seG γ y = some (.val (.int .i64 b))) (h1 : -9223372036854775808 ≤ a - b) (h2 : a - b ≤ 9223372036854775807) : seG γ (.a2 (.bin .sub) x y) = some (.val (.int .i64 (a - b))) := by
  simp only [seG, hx, hy, Option.bind_some, e2, binV, j2j, if_true, intOp, okV]
  rw [wrap_id h1 h2]
theorem tr_geq {γ : G} {x : SE} {a c : Int} (h : (Fact.tr (.a2 (.bin .geq) x (.int .i64 c))).holds γ) (hx : seG γ x = some (.val (.int .i64 a))) : c ≤ a := by
  have h : seG γ _ = _ := h
  rw [seG_cmp (b := c) rfl hx rfl] at h
  have h := Option.some.inj h
  injection h with h; injection h with h
  exact of_decide_eq_true h
theorem tr_gtr {γ : G} {x : SE} {a c : Int} (h : (Fact.tr (.a2 (.bin .gtr) x (.int .i64 c))).holds γ) (hx : seG γ x = some (.val (.int .i64 a))) : c < a := by
  have h : seG γ _ = _ := h
  rw [seG_cmp (b := c) rfl hx rfl] at h
  have h := Option.some.inj h
  injection h with h; injection h with h
  exact of_decide_eq_true h
theorem term_cells {K : TypeId → List Kd} {T : TypeId} (hK : K T = [.int .i64, .int .i64, .str, .sl T]) {es : List Dt} (hw : Dt.wfL K (K T) 0 es) {n : Nat} (h : n * 4 + 4 ≤ es.length) :
    ∃ (x y : Int) (s : ByteArray) (a : Option Addr) (k c sz : Nat) (ss : List Dt), es[n * 4]? = some (.val (.int .i64 x)) ∧ es[n * 4 + 1]? = some (.val (.int .i64 y)) ∧ es[n * 4 + 2]? = some (.val (.string s)) ∧ es[n * 4 + 3]? = some (.sl (.slice a k c) T sz ss) ∧
      SlOf K T a k sz ss ∧ mszL (es.take ((n + 1) * 4)) = mszL (es.take (n * 4)) + 4 + mszL ss := by
  obtain ⟨d0, d1, d2, d3, h0, h1, h2, h3, ht⟩ := take_four h
  have hl : (K T).length = 4 := by rw [hK]; rfl
  have kd : ∀ (q : Nat) d, q < 4 → es[n * 4 + q]? = some d → (∃ k, (K T)[q]? = some k ∧ k.fits d) ∧ d.wf K := by
    intro q d hq hd
    have := hw.get hd
    rwa [hl, Nat.zero_add, Nat.mul_comm, Nat.mul_add_mod, Nat.mod_eq_of_lt hq] at this
  obtain ⟨⟨k0, q0, f0⟩, -⟩ := kd 0 d0 (by omega) h0
  obtain ⟨⟨k1, q1, f1⟩, -⟩ := kd 1 d1 (by omega) h1
  obtain ⟨⟨k2, q2, f2⟩, -⟩ := kd 2 d2 (by omega) h2
  obtain ⟨⟨k3, q3, f3⟩, w3⟩ := kd 3 d3 (by omega) h3
  rw [hK] at q0 q1 q2 q3
  simp only [List.getElem?_cons_zero, List.getElem?_cons_succ, Option.some.injEq] at q0 q1 q2 q3
  subst q0; subst q1; subst q2; subst q3
  obtain ⟨x, rfl⟩ := f0
  obtain ⟨y, rfl⟩ := f1
  obtain ⟨s, rfl⟩ := f2
  obtain ⟨a, k, c, sz, ss, rfl, g1⟩ := slT_spec f3 w3
  refine ⟨x, y, s, a, k, c, sz, ss, h0, h1, h2, h3, g1, ?_⟩
  rw [ht, j1e]
  simp only [mszL, msz]
  omega
section
variable {K : TypeId → List Kd} {T : TypeId} {γ : G}
theorem left_vals {nm : String} {M : Nat} {n e : SE} (h : (Fact.rel nm false (j0q K T M) [n, e]).holds γ) : ∃ (k : Nat) (es : List Dt), seG γ n = some (.val (.int .i64 (.ofNat k))) ∧ seG γ e = some (.ls (K T) es) ∧ k * 4 ≤ es.length ∧ Dt.wfL K (K T) 0 es ∧ mszL (es.take (k * 4)) < M := by
  obtain ⟨l, hl, k, es, rfl, h1, h2, h3⟩ := h
  obtain ⟨a, b, e1, e2, e3⟩ := seL_two hl
  injection e1 with e1 e4; injection e4 with e4 _
  subst e1; subst e4
  exact ⟨k, es, e2, e3, h1, h2, h3⟩
theorem back_vals {nm : String} {N M : Nat} {n e s i : SE} (h : (Fact.rel nm false (j4k K T N M) [n, e, s, i]).holds γ) : ∃ (m : Nat) (es : List Dt) (a : Option Addr) (k c sz : Nat) (ss : List Dt) (j : Int),
    seG γ n = some (.val (.int .i64 (.ofNat m))) ∧ seG γ e = some (.ls (K T) es) ∧ seG γ s = some (.sl (.slice a k c) T sz ss) ∧ seG γ i = some (.val (.int .i64 j)) ∧
    m * 4 ≤ es.length ∧ Dt.wfL K (K T) 0 es ∧ SlOf K T a k sz ss ∧ -1 ≤ j ∧ j < k ∧ j + 1 < N ∧ mszL (es.take (m * 4)) + mszL (ss.take ((j + 1).toNat * 4)) < M := by
  obtain ⟨l, hl, m, es, a, k, c, sz, ss, j, rfl, h1⟩ := h
  obtain ⟨d1, d2, d3, d4, e1, e2, e3, e4, e5⟩ := seL_four hl
  injection e1 with q1 e1; injection e1 with q2 e1; injection e1 with q3 e1; injection e1 with q4 _
  subst q1; subst q2; subst q3; subst q4
  exact ⟨m, es, a, k, c, sz, ss, j, e2, e3, e4, e5, h1⟩
theorem len4 {es : List Dt} {n : Nat} (h : n * 4 ≤ es.length) : n * 4 ≤ mszL (es.take (n * 4)) := by
  have := mszL_len (l := es.take (n * 4))
  rw [List.length_take] at this
  omega
theorem j2d {ks : List Kd} {es : List Dt} {x y : SE} {d : Dt} {q : Kd} (hx : seG γ x = some (.ls ks es)) (hy : seG γ y = some d) (hq : ks[es.length % ks.length]? = some q) (hf : q.fits d) : seG γ (.a2 .sn x y) = some (.ls ks (es ++ [d])) := by
  simp only [seG, hx, hy, Option.bind_some, Go.Proofs.YtkgnlfmfenmihaaGreatDoor.Abs.e2]
  rw [if_pos ⟨q, hq, hf⟩]
theorem back_out {nm : String} {N M : Nat} {n e s i : SE} (h2 : (Fact.rel nm false (j4k K T N M) [n, e, s, i]).holds γ) (h1 : (Fact.tr (.a2 (.bin .geq) i (.int .i64 (.ofNat 0)))).holds γ) (h0 : (Fact.rel "out" false pOut [i, .a1 .len s]).holds γ) : False := by
  obtain ⟨m, es, a, k, c, sz, ss, j, g1, g2, g3, g4, -, -, -, -, g5, -⟩ := back_vals h2
  have hj := tr_geq h1 g4
  obtain ⟨l, hl, k1, q, m1, rfl, hn⟩ := h0
  obtain ⟨x, y, e1, e2', e3'⟩ := seL_two hl
  injection e1 with e1 e4; injection e4 with e4 _
  subst e1; subst e4
  rw [g4] at e2'
  simp only [seG, g3, Option.bind_some, Go.Proofs.YtkgnlfmfenmihaaGreatDoor.Abs.e1] at e3'
  have e2' := Option.some.inj e2'
  have e3' := Option.some.inj e3'
  injection e2' with e2'; injection e2' with _ e2'
  injection e3' with e3'; injection e3' with _ e3'
  apply hn
  simp only [Int.ofNat_eq_natCast] at hj
  omega
theorem back_grow {nm : String} {N M bytes : Nat} (hM : M ≤ 1073741824) (hb : bytes ≤ 56) {n e s i : SE} (h2 : (Fact.rel nm false (j4k K T N M) [n, e, s, i]).holds γ) (h0 : (Fact.rel "grow" false (pGrow 4 bytes 1) [e, n]).holds γ) : False := by
  obtain ⟨m, es, a, k, c, sz, ss, j, g1, g2, g3, g4, g5, -, -, -, -, -, g6⟩ := back_vals h2
  obtain ⟨l, hl, ks, es', q, rfl, hn⟩ := h0
  obtain ⟨x, y, e1, e2', e3'⟩ := seL_two hl
  injection e1 with e1 e4; injection e4 with e4 _
  subst e1; subst e4
  rw [g2] at e2'
  rw [g1] at e3'
  have e2' := Option.some.inj e2'
  have e3' := Option.some.inj e3'
  injection e2' with _ e2'
  injection e3' with e3'; injection e3' with _ e3'
  subst e2'
  have h4 := len4 g5
  have hq : q.toNat = m := by rw [← e3']; rfl
  have hbm : (m + 1) * bytes ≤ (m + 1) * 56 := Nat.mul_le_mul_left _ hb
  apply hn
  rw [hq]
  refine ⟨by rw [← e3']; exact Int.natCast_nonneg m, g5, by omega, by omega⟩
theorem back_next {nm nm' : String} {N M : Nat} (hK : K T = [.int .i64, .int .i64, .str, .sl T]) (hM : M ≤ 1073741824) {n e s i : SE} (h2 : (Fact.rel nm false (j4k K T (N + 1) M) [n, e, s, i]).holds γ) (h1 : (Fact.tr (.a2 (.bin .geq) i (.int .i64 (.ofNat 0)))).holds γ)
    (h0 : (Fact.rel nm' true (j4k K T N M) [.a2 (.bin .add) n (.int .i64 (.ofNat 1)), .a2 .sn (.a2 .sn (.a2 .sn (.a2 .sn (.a2 (.tk 4) e n) (.a1 (.ld 0) (.a2 .el s i))) (.a1 (.ld 1) (.a2 .el s i))) (.a1 (.ld 2) (.a2 .el s i))) (.a1 (.ld 3) (.a2 .el s i)), s, .a2 (.bin .sub) i (.int .i64 (.ofNat 1))]).holds γ) : False := by
  obtain ⟨m, es, a, k, c, sz, ss, j, g1, g2, g3, g4, g5, g6, g7, g9, g10, g11, g12⟩ := back_vals h2
  have hj : 0 ≤ j := tr_geq h1 g4
  obtain ⟨p, rfl⟩ := Int.eq_ofNat_of_zero_le hj
  have hp : p < k := by omega
  have hl4 : (K T).length = 4 := by rw [hK]; rfl
  obtain ⟨g7a, g8, g7c⟩ := g7
  obtain ⟨hsz, b, rfl⟩ := g7c (by omega)
  rw [hl4] at g7a hsz
  subst hsz
  obtain ⟨x, y, str, a', k', c', sz', ss', c0, c1, c2, c3, l1, l3⟩ := term_cells hK g8 (n := p) (by omega)
  have h4 := len4 g5
  have hp1 : ((p : Int) + 1).toNat = p + 1 := by omega
  rw [hp1, l3] at g12
  have hel : seG γ (.a2 .el s i) = some (.pt (.pointer (some ⟨b.block, b.off + p * 4, none⟩)) T 4 ss (p * 4) 0) := by
    simp only [seG, g3, g4, Option.bind_some, Go.Proofs.YtkgnlfmfenmihaaGreatDoor.Abs.e2]
    show (if p < k then _ else _) = _
    rw [if_pos hp]
  have hld : ∀ q, seG γ (.a1 (.ld q) (.a2 .el s i)) = ss[p * 4 + 0 + q]? := fun q => by
    show (seG γ (.a2 .el s i)).bind _ = _
    rw [hel]; rfl
  have htk : seG γ (.a2 (.tk 4) e n) = some (.ls (K T) (es.take (m * 4))) := by
    simp only [seG, g2, g1, Option.bind_some, Go.Proofs.YtkgnlfmfenmihaaGreatDoor.Abs.e2]
    rw [if_pos g5]
  have hlen : (es.take (m * 4)).length = m * 4 := by rw [List.length_take]; omega
  have k0 : (K T)[0]? = some (.int .i64) := by rw [hK]; rfl
  have k1 : (K T)[1]? = some (.int .i64) := by rw [hK]; rfl
  have k2 : (K T)[2]? = some .str := by rw [hK]; rfl
  have k3 : (K T)[3]? = some (.sl T) := by rw [hK]; rfl
  have s0 := j2d htk ((hld 0).trans c0) (q := .int .i64) (by rw [hlen, hl4, Nat.mul_mod_left]; exact k0) ⟨_, rfl⟩
  have s1 := j2d s0 ((hld 1).trans c1) (q := .int .i64) (by rw [List.length_append, hlen, hl4, List.length_singleton, Nat.mul_add_mod_of_lt (by omega)]; exact k1) ⟨_, rfl⟩
  have s2 := j2d s1 ((hld 2).trans c2) (q := .str) (by rw [List.length_append, List.length_append, hlen, hl4, List.length_singleton, List.length_singleton, Nat.add_assoc, Nat.mul_add_mod_of_lt (by omega)]; exact k2) ⟨_, rfl⟩
  have s3 := j2d s2 ((hld 3).trans c3) (q := .sl T) (by rw [List.length_append, List.length_append, List.length_append, hlen, hl4, List.length_singleton, List.length_singleton, List.length_singleton, Nat.add_assoc, Nat.add_assoc, Nat.mul_add_mod_of_lt (by omega)]; exact k3) ⟨_, _, _, _, _, rfl⟩
  rw [List.append_assoc, List.append_assoc, List.append_assoc] at s3
  simp only [List.cons_append, List.nil_append] at s3
  have h5 : (p + 1) * 4 ≤ mszL (ss.take ((p + 1) * 4)) := len4 (by omega)
  have hadd : seG γ (.a2 (.bin .add) n (.int .i64 (.ofNat 1))) = some (.val (.int .i64 (.ofNat (m + 1)))) := seG_add (b := 1) g1 rfl (by simp only [Int.ofNat_eq_natCast]; omega) (by simp only [Int.ofNat_eq_natCast]; omega)
  have hsub : seG γ (.a2 (.bin .sub) i (.int .i64 (.ofNat 1))) = some (.val (.int .i64 ((p : Int) - 1))) := seG_sub (b := 1) g4 rfl (by omega) (by omega)
  have hwn : Dt.wfL K (K T) 0 (es.take (m * 4) ++ [.val (.int .i64 x), .val (.int .i64 y), .val (.string str), .sl (.slice a' k' c') T sz' ss']) := by
    refine Dt.wfL.append (g6.take _) fun q d hd => ?_
    rw [hlen, hl4, Nat.zero_add]
    have hw := fun (q : Nat) d (hd : ss[p * 4 + q]? = some d) => (g8.get hd).2
    rcases q with _ | _ | _ | _ | q
    · simp only [List.getElem?_cons_zero, Option.some.injEq] at hd
      subst hd
      exact ⟨⟨.int .i64, by rw [Nat.add_zero, Nat.mul_mod_left]; exact k0, _, rfl⟩, hw 0 _ c0⟩
    · simp only [List.getElem?_cons_succ, List.getElem?_cons_zero, Option.some.injEq] at hd
      subst hd
      exact ⟨⟨.int .i64, by rw [Nat.mul_add_mod_of_lt (by omega)]; exact k1, _, rfl⟩, hw 1 _ c1⟩
    · simp only [List.getElem?_cons_succ, List.getElem?_cons_zero, Option.some.injEq] at hd
      subst hd
      exact ⟨⟨.str, by rw [Nat.mul_add_mod_of_lt (by omega)]; exact k2, _, rfl⟩, hw 2 _ c2⟩
    · simp only [List.getElem?_cons_succ, List.getElem?_cons_zero, Option.some.injEq] at hd
      subst hd
      exact ⟨⟨.sl T, by rw [Nat.mul_add_mod_of_lt (by omega)]; exact k3, _, _, _, _, _, rfl⟩, hw 3 _ c3⟩
    · simp at hd
  refine h0 ⟨_, seL4 hadd s3 g3 hsub, m + 1, _, _, k, c, 4, ss, (p : Int) - 1, rfl, ?_, hwn, ⟨by rw [hl4]; exact g7a, g8, fun _ => ⟨hl4.symm, b, rfl⟩⟩, by omega, by omega, by omega, ?_⟩
  · rw [List.length_append, hlen]; simp only [List.length_cons, List.length_nil]; omega
  · have e1 : ((p : Int) - 1 + 1).toNat = p := by omega
    rw [e1, List.take_of_length_le (by rw [List.length_append, hlen]; simp only [List.length_cons, List.length_nil]; omega), j1e]
    simp only [mszL, msz]
    omega
theorem back_end {nm nm' : String} {N M : Nat} {n e s i : SE} (h2 : (Fact.rel nm false (j4k K T N M) [n, e, s, i]).holds γ) (h0 : (Fact.rel nm' true (j0q K T M) [n, e]).holds γ) : False := by
  obtain ⟨m, es, a, k, c, sz, ss, j, g1, g2, g3, g4, g5, g6, -, -, -, -, g7⟩ := back_vals h2
  exact h0 ⟨_, seL2 g1 g2, m, es, rfl, g5, g6, by omega⟩
theorem parts_pos {nm : String} {N : Nat} {n e : SE} (h2 : (Fact.rel nm false (j0q K T N) [n, e]).holds γ) (h1 : (Fact.tr (.a2 (.bin .gtr) n (.int .i64 (.ofNat 0)))).holds γ) (hN : N ≤ 1073741824) :
    ∃ (k : Nat) (es : List Dt), seG γ n = some (.val (.int .i64 (.ofNat (k + 1)))) ∧ seG γ e = some (.ls (K T) es) ∧ (k + 1) * 4 ≤ es.length ∧ Dt.wfL K (K T) 0 es ∧ mszL (es.take ((k + 1) * 4)) < N ∧ seG γ (.a2 (.bin .sub) n (.int .i64 (.ofNat 1))) = some (.val (.int .i64 (.ofNat k))) := by
  obtain ⟨k, es, g1, g2, g3, g4, g5⟩ := left_vals h2
  have hk := tr_gtr h1 g1
  have hl := len4 g3
  simp only [Int.ofNat_eq_natCast] at hk
  obtain ⟨q, rfl⟩ : ∃ q, k = q + 1 := ⟨k - 1, by omega⟩
  refine ⟨q, es, g1, g2, g3, g4, g5, ?_⟩
  rw [seG_sub g1 rfl (by simp only [Int.ofNat_eq_natCast]; omega) (by simp only [Int.ofNat_eq_natCast]; omega)]
  congr 3
  simp only [Int.ofNat_eq_natCast]; omega
theorem parts_out {nm : String} {N : Nat} {n e : SE} (hN : N ≤ 1073741824) (h2 : (Fact.rel nm false (j0q K T N) [n, e]).holds γ) (h1 : (Fact.tr (.a2 (.bin .gtr) n (.int .i64 (.ofNat 0)))).holds γ) (h0 : (Fact.rel "out" false pOut [.a2 (.bin .sub) n (.int .i64 (.ofNat 1)), n]).holds γ) : False := by
  obtain ⟨k, es, g1, g2, g3, g4, g5, g6⟩ := parts_pos h2 h1 hN
  obtain ⟨l, hl, k1, q, m1, rfl, hn⟩ := h0
  obtain ⟨x, y, e1, e2', e3'⟩ := seL_two hl
  injection e1 with e1 e4; injection e4 with e4 _
  subst e1; subst e4
  rw [g6] at e2'
  rw [g1] at e3'
  have e2' := Option.some.inj e2'
  have e3' := Option.some.inj e3'
  injection e2' with e2'; injection e2' with _ e2'
  injection e3' with e3'; injection e3' with _ e3'
  apply hn
  simp only [Int.ofNat_eq_natCast] at e2' e3'
  omega
theorem parts_hole {nm : String} {N : Nat} {n e : SE} (hN : N ≤ 1073741824) (h2 : (Fact.rel nm false (j0q K T N) [n, e]).holds γ) (h1 : (Fact.tr (.a2 (.bin .gtr) n (.int .i64 (.ofNat 0)))).holds γ) (h0 : (Fact.rel "hole" false (pHole 4) [e, .a2 (.bin .sub) n (.int .i64 (.ofNat 1))]).holds γ) : False := by
  obtain ⟨k, es, g1, g2, g3, g4, g5, g6⟩ := parts_pos h2 h1 hN
  obtain ⟨l, hl, ks, es', k1, q, rfl, hn⟩ := h0
  obtain ⟨x, y, e1, e2', e3'⟩ := seL_two hl
  injection e1 with e1 e4; injection e4 with e4 _
  subst e1; subst e4
  rw [g2] at e2'
  rw [g6] at e3'
  have e2' := Option.some.inj e2'
  have e3' := Option.some.inj e3'
  injection e2' with _ e2'
  injection e3' with e3'; injection e3' with _ e3'
  subst e2'
  apply hn
  have hq : q.toNat = k := by rw [← e3']; rfl
  rw [hq]
  exact ⟨by rw [← e3']; exact Int.natCast_nonneg k, by omega⟩
theorem parts_cut {nm : String} {N : Nat} {n e : SE} (hN : N ≤ 1073741824) (h2 : (Fact.rel nm false (j0q K T N) [n, e]).holds γ) (h1 : (Fact.tr (.a2 (.bin .gtr) n (.int .i64 (.ofNat 0)))).holds γ) (h0 : (Fact.rel "cut" false pCut [.int .i64 (.ofNat 0), .a2 (.bin .sub) n (.int .i64 (.ofNat 1)), n]).holds γ) : False := by
  obtain ⟨k, es, g1, g2, g3, g4, g5, g6⟩ := parts_pos h2 h1 hN
  obtain ⟨l, hl, k1, q, k2, m1, q1, rfl, hn⟩ := h0
  have := seL3 (show seG γ (.int .i64 (.ofNat 0)) = some (.val (.int .i64 (.ofNat 0))) from rfl) g6 g1
  rw [this] at hl
  have hl := Option.some.inj hl
  injection hl with a1 hl; injection hl with a2 hl; injection hl with a3 _
  injection a1 with a1; injection a1 with _ a1
  injection a2 with a2; injection a2 with _ a2
  injection a3 with a3; injection a3 with _ a3
  apply hn
  simp only [Int.ofNat_eq_natCast] at a1 a2 a3
  omega
theorem parts_back {nm nm' : String} {N NN : Nat} (hK : K T = [.int .i64, .int .i64, .str, .sl T]) (hN : N + 1 ≤ 1073741824) (hNN : 1073741824 ≤ NN) {n e : SE} (h2 : (Fact.rel nm false (j0q K T (N + 1)) [n, e]).holds γ) (h1 : (Fact.tr (.a2 (.bin .gtr) n (.int .i64 (.ofNat 0)))).holds γ)
    (h0 : (Fact.rel nm' true (j4k K T NN N) [.a2 (.bin .sub) n (.int .i64 (.ofNat 1)), e, .a2 (.at 4 3) e (.a2 (.bin .sub) n (.int .i64 (.ofNat 1))), .a2 (.bin .sub) (.a1 .len (.a2 (.at 4 3) e (.a2 (.bin .sub) n (.int .i64 (.ofNat 1))))) (.int .i64 (.ofNat 1))]).holds γ) : False := by
  obtain ⟨k, es, g1, g2, g3, g4, g5, g6⟩ := parts_pos h2 h1 hN
  have hl4 : (K T).length = 4 := by rw [hK]; rfl
  obtain ⟨x, y, str, a', k', c', sz', ss', c0, c1, c2, c3, l1, l3⟩ := term_cells hK g4 (n := k) (by omega)
  rw [l3] at g5
  have hat : seG γ (.a2 (.at 4 3) e (.a2 (.bin .sub) n (.int .i64 (.ofNat 1)))) = some (.sl (.slice a' k' c') T sz' ss') := by
    show (seG γ e).bind (fun u => (seG γ (.a2 (.bin .sub) n (.int .i64 (.ofNat 1)))).bind (Go.Proofs.YtkgnlfmfenmihaaGreatDoor.Abs.e2 (.at 4 3) u)) = _
    rw [g2, g6]
    exact c3
  have hlen : seG γ (.a1 .len (.a2 (.at 4 3) e (.a2 (.bin .sub) n (.int .i64 (.ofNat 1))))) = some (.val (.int .i64 k')) := by
    show (seG γ (.a2 (.at 4 3) e (.a2 (.bin .sub) n (.int .i64 (.ofNat 1))))).bind _ = _
    rw [hat]; rfl
  have hk' : ss'.length = k' * 4 := by have := l1.1; rwa [hl4] at this
  have hml := mszL_len (l := ss')
  have hsub := seG_sub hlen (show seG γ (.int .i64 (.ofNat 1)) = some (.val (.int .i64 (.ofNat 1))) from rfl) (by simp only [Int.ofNat_eq_natCast]; omega) (by simp only [Int.ofNat_eq_natCast]; omega)
  refine h0 ⟨_, seL4 g6 g2 hat hsub, k, es, a', k', c', sz', ss', _, rfl, by omega, g4, l1, ?_, ?_, ?_, ?_⟩
  · simp only [Int.ofNat_eq_natCast]; omega
  · simp only [Int.ofNat_eq_natCast]; omega
  · simp only [Int.ofNat_eq_natCast]; omega
  · have e1 : ((k' : Int) - Int.ofNat 1 + 1).toNat = k' := by simp only [Int.ofNat_eq_natCast]; omega
    have e2 : ss'.take (k' * 4) = ss' := List.take_of_length_le (by omega)
    rw [e1, e2]
    omega
theorem check_parts {nm nm' : String} {B : Nat} (hK : K T = [.int .i64, .int .i64, .str, .sl T]) {x y z t : SE} (h1 : (Fact.rel nm false (j0r K T B) [x, y, z, t]).holds γ)
    (h0 : (Fact.rel nm' true (j0q K T B) [.int .i64 (.ofNat 1), .a2 .sn (.a2 .sn (.a2 .sn (.a2 .sn (.a1 (.nl [.int .i64, .int .i64, .str, .sl T]) (.bool true)) x) y) z) t]).holds γ) : False := by
  obtain ⟨l, hl, -, h2, h3⟩ := h1
  obtain ⟨a, b, c, d, rfl, e1, e2', e3', e4⟩ := seL_four hl
  have hl4 : (K T).length = 4 := by rw [hK]; rfl
  have hnl : seG γ (.a1 (.nl [.int .i64, .int .i64, .str, .sl T]) (.bool true)) = some (.ls (K T) []) := by rw [hK]; rfl
  have kd : ∀ (q : Nat) d', q < 4 → ([a, b, c, d] : List Dt)[q]? = some d' → ∃ k, (K T)[q]? = some k ∧ k.fits d' := by
    intro q d' hq hd
    have := (h2.get hd).1
    rwa [Nat.zero_add, hl4, Nat.mod_eq_of_lt hq] at this
  obtain ⟨k0, q0, f0⟩ := kd 0 a (by omega) rfl
  obtain ⟨k1, q1, f1⟩ := kd 1 b (by omega) rfl
  obtain ⟨k2, q2, f2⟩ := kd 2 c (by omega) rfl
  obtain ⟨k3, q3, f3⟩ := kd 3 d (by omega) rfl
  have s0 := j2d hnl e1 (q := k0) (by rw [hl4]; exact q0) f0
  have s1 := j2d s0 e2' (q := k1) (by rw [hl4]; exact q1) f1
  have s2 := j2d s1 e3' (q := k2) (by rw [hl4]; exact q2) f2
  have s3 := j2d s2 e4 (q := k3) (by rw [hl4]; exact q3) f3
  exact h0 ⟨_, seL2 rfl s3, 1, [a, b, c, d], rfl, by simp, h2, by
    rw [List.take_of_length_le (by simp)]; exact h3⟩
end
theorem j2q {F : Nat → Fact} {rows pats : List (List Nat)} (hp : ∀ p ∈ pats, ∀ γ : G, (∀ i ∈ p, (F i).holds γ) → False)
    (h : (rows.all fun r => pats.any fun p => p.all fun i => r.contains i) = true) : Unsats (rows.map fun r => r.map F) := by
  rintro pc hpc ⟨γ, hf⟩
  obtain ⟨r, hr, rfl⟩ := List.mem_map.1 hpc
  obtain ⟨p, hp1, hp2⟩ := List.any_eq_true.1 (List.all_eq_true.1 h r hr)
  exact hp p hp1 γ fun i hi => hf _ (List.mem_map.2 ⟨i, by simpa using List.all_eq_true.1 hp2 i hi, rfl⟩)
theorem j4m {P : Program} {c : Con} (h : ∀ γ : G, (∀ f ∈ c.facts, f.holds γ) → False) : j1w P c := fun _ γ _ _ _ _ _ _ hfr => (h γ fun f hf => (hfr.rel.pc f hf).2).elim
end Go.Proofs.YtkgnlfmfenmihaaGreatDoor.Abs

namespace Go.Proofs.YtkgnlfmfenmihaaGreatDoor.Abs
open Go
end Go.Proofs.YtkgnlfmfenmihaaGreatDoor.Abs

namespace Go.Proofs.YtkgnlfmfenmihaaGreatDoor.Abs
open Go
mutual
inductive Alike : Dt → Dt → Prop
  | val (v : Value) : Alike (.val v) (.val v)
  | sl (a a' : Option Addr) (n c c' : Nat) (t t' : TypeId) (sz sz' : Nat) (es es' : List Dt) : AlikeL es es' → Alike (.sl (.slice a n c) t sz es) (.sl (.slice a' n c') t' sz' es')
inductive AlikeL : List Dt → List Dt → Prop
  | nil : AlikeL [] []
  | cons (x y : Dt) (l m : List Dt) : Alike x y → AlikeL l m → AlikeL (x :: l) (y :: m)
end
theorem AlikeL.append : ∀ {a b c d : List Dt}, AlikeL a b → AlikeL c d → AlikeL (a ++ c) (b ++ d)
  | _, _, _, _, .nil, h => h
  | _, _, _, _, .cons _ _ _ _ h1 h2, h => .cons _ _ _ _ h1 (h2.append h)
theorem AlikeL.length : ∀ {a b : List Dt}, AlikeL a b → a.length = b.length
  | _, _, .nil => rfl
  | _, _, .cons _ _ _ _ _ h => by simp only [List.length_cons, h.length]
theorem AlikeL.get : ∀ {a b : List Dt} {i : Nat} {x : Dt}, AlikeL a b → a[i]? = some x → ∃ y, b[i]? = some y ∧ Alike x y
  | _, _, _, _, .nil, h => by simp at h
  | _, _, 0, _, .cons x y l m h1 _, h => by
    simp only [List.getElem?_cons_zero, Option.some.injEq] at h
    subst h
    exact ⟨y, by simp, h1⟩
  | _, _, i + 1, _, .cons x y l m _ h2, h => by
    obtain ⟨z, h3, h4⟩ := h2.get (i := i) (by simpa using h)
    exact ⟨z, by simpa using h3, h4⟩
section
variable (K : TypeId → List Kd) (T : TypeId)
def pSl (N M : Nat) (l : List Dt) : Prop := ∃ (a : Option Addr) (k c sz : Nat) (ss : List Dt) (i : Int), l = [.sl (.slice a k c) T sz ss, .val (.int .i64 i)] ∧ SlOf K T a k sz ss ∧ mszL ss < N ∧ 0 ≤ i ∧ i ≤ k ∧ (k : Int) - i < M
def j4p (N M : Nat) (l : List Dt) : Prop := ∃ (a : Option Addr) (k c sz : Nat) (ss es : List Dt) (i : Int), l = [.sl (.slice a k c) T sz ss, .ls (K T) es, .val (.int .i64 (.ofNat k)), .val (.int .i64 i)] ∧
  SlOf K T a k sz ss ∧ mszL ss < N ∧ 0 ≤ i ∧ i ≤ k ∧ (k : Int) - i < M ∧ es.length = k * 4 ∧ Dt.wfL K (K T) 0 es ∧ mszL (es.take (i.toNat * 4)) ≤ mszL (ss.take (i.toNat * 4)) ∧ AlikeL (ss.take (i.toNat * 4)) (es.take (i.toNat * 4))
def pCop (l : List Dt) : Prop := ∃ (d : Dt) (a : Option Addr) (k c sz : Nat) (ss : List Dt), l = [d, .sl (.slice a k c) T sz ss] ∧ (Dt.sl (.slice a k c) T sz ss).wf K ∧ mszL ss + 1 ≤ msz d ∧ Alike d (.sl (.slice a k c) T sz ss)
end
section
variable {K : TypeId → List Kd} {T : TypeId} {γ : G}
theorem sl_vals {nm : String} {N M : Nat} {s i : SE} (h : (Fact.rel nm false (pSl K T N M) [s, i]).holds γ) : ∃ (a : Option Addr) (k c sz : Nat) (ss : List Dt) (j : Int),
    seG γ s = some (.sl (.slice a k c) T sz ss) ∧ seG γ i = some (.val (.int .i64 j)) ∧ SlOf K T a k sz ss ∧ mszL ss < N ∧ 0 ≤ j ∧ j ≤ k ∧ (k : Int) - j < M := by
  obtain ⟨l, hl, a, k, c, sz, ss, j, rfl, h1⟩ := h
  obtain ⟨d1, d2, e1, e2, e3⟩ := seL_two hl
  injection e1 with q1 e1; injection e1 with q2 _
  subst q1; subst q2
  exact ⟨a, k, c, sz, ss, j, e2, e3, h1⟩
theorem copy_vals {nm : String} {N M : Nat} {s x n i : SE} (h : (Fact.rel nm false (j4p K T N M) [s, x, n, i]).holds γ) : ∃ (a : Option Addr) (k c sz : Nat) (ss es : List Dt) (j : Int),
    seG γ s = some (.sl (.slice a k c) T sz ss) ∧ seG γ x = some (.ls (K T) es) ∧ seG γ n = some (.val (.int .i64 (.ofNat k))) ∧ seG γ i = some (.val (.int .i64 j)) ∧
    SlOf K T a k sz ss ∧ mszL ss < N ∧ 0 ≤ j ∧ j ≤ k ∧ (k : Int) - j < M ∧ es.length = k * 4 ∧ Dt.wfL K (K T) 0 es ∧ mszL (es.take (j.toNat * 4)) ≤ mszL (ss.take (j.toNat * 4)) ∧ AlikeL (ss.take (j.toNat * 4)) (es.take (j.toNat * 4)) := by
  obtain ⟨l, hl, a, k, c, sz, ss, es, j, rfl, h1⟩ := h
  obtain ⟨d1, d2, d3, d4, e1, e2, e3, e4, e5⟩ := seL_four hl
  injection e1 with q1 e1; injection e1 with q2 e1; injection e1 with q3 e1; injection e1 with q4 _
  subst q1; subst q2; subst q3; subst q4
  exact ⟨a, k, c, sz, ss, es, j, e2, e3, e4, e5, h1⟩
theorem j1y {s : SE} {a : Option Addr} {k c sz : Nat} {t : TypeId} {ss : List Dt} (h : seG γ s = some (.sl (.slice a k c) t sz ss)) : seG γ (.a1 .len s) = some (.val (.int .i64 k)) := by
  show (seG γ s).bind _ = _
  rw [h]; rfl
theorem tr_lss {x y : SE} {a b : Int} (h : (Fact.tr (.a2 (.bin .lss) x y)).holds γ) (hx : seG γ x = some (.val (.int .i64 a))) (hy : seG γ y = some (.val (.int .i64 b))) : a < b := by
  have h : seG γ _ = _ := h
  rw [seG_cmp (b := b) rfl hx hy] at h
  have h := Option.some.inj h
  injection h with h; injection h with h
  exact of_decide_eq_true h
theorem fl_lss {x y : SE} {a b : Int} (h : (Fact.fl (.a2 (.bin .lss) x y)).holds γ) (hx : seG γ x = some (.val (.int .i64 a))) (hy : seG γ y = some (.val (.int .i64 b))) : b ≤ a := by
  have h : seG γ _ = _ := h
  rw [seG_cmp (b := b) rfl hx hy] at h
  have h := Option.some.inj h
  injection h with h; injection h with h
  have := of_decide_eq_false h
  omega
theorem out_of {nm : String} {i n : SE} {j m : Int} (hi : seG γ i = some (.val (.int .i64 j))) (hn : seG γ n = some (.val (.int .i64 m))) (h1 : 0 ≤ j) (h2 : j < m) (h : (Fact.rel nm false pOut [i, n]).holds γ) : False := by
  obtain ⟨l, hl, k1, q, m1, rfl, hno⟩ := h
  obtain ⟨x, y, e1, e2, e3⟩ := seL_two hl
  injection e1 with q1 e1; injection e1 with q2 _
  subst q1; subst q2
  rw [hi] at e2
  rw [hn] at e3
  have e2 := Option.some.inj e2
  have e3 := Option.some.inj e3
  injection e2 with e2; injection e2 with _ e2
  injection e3 with e3; injection e3 with _ e3
  exact hno ⟨by omega, by omega⟩
theorem j5a (hK : K T = [.int .i64, .int .i64, .str, .sl T]) {s i : SE} {a : Option Addr} {k c sz p : Nat} {ss : List Dt} (hs : seG γ s = some (.sl (.slice a k c) T sz ss)) (hi : seG γ i = some (.val (.int .i64 (p : Int)))) (hsl : SlOf K T a k sz ss) (hp : p < k) :
    ∃ (x y : Int) (str : ByteArray) (a' : Option Addr) (k' c' sz' : Nat) (ss' : List Dt), seG γ (.a1 (.ld 0) (.a2 .el s i)) = some (.val (.int .i64 x)) ∧ seG γ (.a1 (.ld 1) (.a2 .el s i)) = some (.val (.int .i64 y)) ∧ seG γ (.a1 (.ld 2) (.a2 .el s i)) = some (.val (.string str)) ∧
      seG γ (.a1 (.ld 3) (.a2 .el s i)) = some (.sl (.slice a' k' c') T sz' ss') ∧ SlOf K T a' k' sz' ss' ∧ Dt.wfL K (K T) 0 [.val (.int .i64 x), .val (.int .i64 y), .val (.string str), .sl (.slice a' k' c') T sz' ss'] ∧
      mszL (ss.take ((p + 1) * 4)) = mszL (ss.take (p * 4)) + 4 + mszL ss' ∧ ss.length = k * 4 := by
  have hl4 : (K T).length = 4 := by rw [hK]; rfl
  obtain ⟨g7a, g8, g7c⟩ := hsl
  obtain ⟨hsz, b, rfl⟩ := g7c (by omega)
  rw [hl4] at g7a hsz
  subst hsz
  obtain ⟨x, y, str, a', k', c', sz', ss', c0, c1, c2, c3, l1, l3⟩ := term_cells hK g8 (n := p) (by omega)
  have hel : seG γ (.a2 .el s i) = some (.pt (.pointer (some ⟨b.block, b.off + p * 4, none⟩)) T 4 ss (p * 4) 0) := by
    simp only [seG, hs, hi, Option.bind_some, Go.Proofs.YtkgnlfmfenmihaaGreatDoor.Abs.e2]
    show (if p < k then _ else _) = _
    rw [if_pos hp]
  have hld : ∀ q, seG γ (.a1 (.ld q) (.a2 .el s i)) = ss[p * 4 + 0 + q]? := fun q => by
    show (seG γ (.a2 .el s i)).bind _ = _
    rw [hel]; rfl
  have key : ∀ (q : Nat) d, q < 4 → ss[p * 4 + q]? = some d → (∃ k, (K T)[(0 + q) % (K T).length]? = some k ∧ k.fits d) ∧ d.wf K := fun q d hq h' => by
    have := g8.get h'
    rw [hl4, Nat.zero_add, Nat.mul_comm p 4, Nat.mul_add_mod] at this
    rw [hl4, Nat.zero_add]
    exact this
  refine ⟨x, y, str, a', k', c', sz', ss', (hld 0).trans c0, (hld 1).trans c1, (hld 2).trans c2, (hld 3).trans c3, l1, .mk fun q d hd => ?_, l3, g7a⟩
  rcases q with _ | _ | _ | _ | q
  · simp only [List.getElem?_cons_zero, Option.some.injEq] at hd
    subst hd
    exact key 0 _ (by omega) c0
  · simp only [List.getElem?_cons_succ, List.getElem?_cons_zero, Option.some.injEq] at hd
    subst hd
    exact key 1 _ (by omega) c1
  · simp only [List.getElem?_cons_succ, List.getElem?_cons_zero, Option.some.injEq] at hd
    subst hd
    exact key 2 _ (by omega) c2
  · simp only [List.getElem?_cons_succ, List.getElem?_cons_zero, Option.some.injEq] at hd
    subst hd
    exact key 3 _ (by omega) c3
  · simp at hd
theorem elem_at (hK : K T = [.int .i64, .int .i64, .str, .sl T]) {s i : SE} {a : Option Addr} {k c sz p : Nat} {ss : List Dt} (hs : seG γ s = some (.sl (.slice a k c) T sz ss)) (hi : seG γ i = some (.val (.int .i64 (p : Int)))) (hsl : SlOf K T a k sz ss) (hp : p < k) (q : Nat) :
    seG γ (.a1 (.ld q) (.a2 .el s i)) = ss[p * 4 + q]? := by
  have hl4 : (K T).length = 4 := by rw [hK]; rfl
  obtain ⟨g7a, g8, g7c⟩ := hsl
  obtain ⟨hsz, b, rfl⟩ := g7c (by omega)
  rw [hl4] at g7a hsz
  subst hsz
  have hel : seG γ (.a2 .el s i) = some (.pt (.pointer (some ⟨b.block, b.off + p * 4, none⟩)) T 4 ss (p * 4) 0) := by
    simp only [seG, hs, hi, Option.bind_some, Go.Proofs.YtkgnlfmfenmihaaGreatDoor.Abs.e2]
    show (if p < k then _ else _) = _
    rw [if_pos hp]
  show (seG γ (.a2 .el s i)).bind _ = _
  rw [hel]; rfl
theorem elem_take (hK : K T = [.int .i64, .int .i64, .str, .sl T]) {s i : SE} {a : Option Addr} {k c sz p : Nat} {ss : List Dt} (hs : seG γ s = some (.sl (.slice a k c) T sz ss)) (hi : seG γ i = some (.val (.int .i64 (p : Int)))) (hsl : SlOf K T a k sz ss) (hp : p < k) {d0 d1 d2 d3 : Dt}
    (h0 : seG γ (.a1 (.ld 0) (.a2 .el s i)) = some d0) (h1 : seG γ (.a1 (.ld 1) (.a2 .el s i)) = some d1) (h2 : seG γ (.a1 (.ld 2) (.a2 .el s i)) = some d2) (h3 : seG γ (.a1 (.ld 3) (.a2 .el s i)) = some d3) : ss.take ((p + 1) * 4) = ss.take (p * 4) ++ [d0, d1, d2, d3] := by
  rw [elem_at hK hs hi hsl hp] at h0 h1 h2 h3
  obtain ⟨hlt, -⟩ := List.getElem?_eq_some_iff.1 h3
  obtain ⟨u0, u1, u2, u3, q0, q1, q2, q3, qt⟩ := take_four (l := ss) (n := p) (by omega)
  have h0' : ss[p * 4]? = some d0 := h0
  rw [h0'] at q0; rw [h1] at q1; rw [h2] at q2; rw [h3] at q3
  rw [qt, Option.some.inj q0, Option.some.inj q1, Option.some.inj q2, Option.some.inj q3]
theorem sl_small (hK : K T = [.int .i64, .int .i64, .str, .sl T]) {a : Option Addr} {k sz : Nat} {ss : List Dt} (h : SlOf K T a k sz ss) : k * 4 ≤ mszL ss := by
  have hl4 : (K T).length = 4 := by rw [hK]; rfl
  have := h.1
  rw [hl4] at this
  have := mszL_len (l := ss)
  omega
theorem sl_term {nm nm' : String} {N M : Nat} (hK : K T = [.int .i64, .int .i64, .str, .sl T]) {s i : SE} (h2 : (Fact.rel nm false (pSl K T N M) [s, i]).holds γ) (h1 : (Fact.tr (.a2 (.bin .lss) i (.a1 .len s))).holds γ)
    (h0 : (Fact.rel nm' true (j0r K T N) [.a1 (.ld 0) (.a2 .el s i), .a1 (.ld 1) (.a2 .el s i), .a1 (.ld 2) (.a2 .el s i), .a1 (.ld 3) (.a2 .el s i)]).holds γ) : False := by
  obtain ⟨a, k, c, sz, ss, j, g1, g2, g3, g4, g5, g6, g7⟩ := sl_vals h2
  have hj := tr_lss h1 g2 (j1y g1)
  obtain ⟨p, rfl⟩ := Int.eq_ofNat_of_zero_le g5
  obtain ⟨x, y, str, a', k', c', sz', ss', c0, c1, c2, c3, l1, l2, l3, l4⟩ := j5a hK g1 g2 g3 (by omega)
  have h5 := mszL_mono_take (l := ss) (a := (p + 1) * 4) (b := k * 4) (by omega)
  rw [List.take_of_length_le (show ss.length ≤ k * 4 by omega)] at h5
  exact h0 ⟨_, seL4 c0 c1 c2 c3, rfl, l2, by simp only [mszL, msz]; omega⟩
theorem term_slice {nm : String} {B : Nat} (hK : K T = [.int .i64, .int .i64, .str, .sl T]) {x y z t : SE} (h1 : (Fact.rel nm false (j0r K T B) [x, y, z, t]).holds γ) :
    ∃ (a : Option Addr) (k c sz : Nat) (ss : List Dt), seG γ t = some (.sl (.slice a k c) T sz ss) ∧ SlOf K T a k sz ss ∧ mszL ss + 4 < B := by
  obtain ⟨l, hl, -, h2, h3⟩ := h1
  obtain ⟨a, b, c, d, rfl, e1, e2', e3', e4⟩ := seL_four hl
  have hl4 : (K T).length = 4 := by rw [hK]; rfl
  have kd := h2.get (i := 3) (d := d) rfl
  rw [Nat.zero_add, hl4, hK] at kd
  obtain ⟨⟨q, q1, q2⟩, q3⟩ := kd
  have q1 : Kd.sl T = q := by simpa using q1
  subst q1
  obtain ⟨a', n, c', sz, es, rfl, g⟩ := slT_spec q2 q3
  refine ⟨a', n, c', sz, es, e4, g, ?_⟩
  have := msz_pos a; have := msz_pos b; have := msz_pos c
  simp only [mszL, msz] at h3
  omega
theorem term_make {nm : String} {B bytes : Nat} (hK : K T = [.int .i64, .int .i64, .str, .sl T]) (hB : B ≤ 1073741824) (hb : bytes ≤ 56) {x y z t : SE} (h1 : (Fact.rel nm false (j0r K T B) [x, y, z, t]).holds γ) (h0 : (Fact.rel "make" false (pMake bytes) [.a1 .len t]).holds γ) : False := by
  obtain ⟨a, k, c, sz, ss, g1, g2, g3⟩ := term_slice hK h1
  have hk := sl_small hK g2
  obtain ⟨l, hl, k1, n, rfl, hno⟩ := h0
  have hl2 := seL1 (j1y g1)
  rw [hl2] at hl
  have hl := Option.some.inj hl
  injection hl with hl _; injection hl with hl; injection hl with _ hl
  subst hl
  have : k * bytes ≤ k * 56 := Nat.mul_le_mul_left _ hb
  exact hno ⟨by omega, by rw [Int.toNat_natCast]; omega, by omega⟩
theorem zeros_wf {ks : List Kd} {szs : List Nat} (hz : ks.all zeroKd = true) (n : Nat) : Dt.wfL K ks 0 (repD (j2y ks szs) n) := by
  refine .mk fun i d hi => ?_
  have hlt : i < n * (j2y ks szs).length := by rw [← repD_len]; exact (List.getElem?_eq_some_iff.1 hi).1
  rw [repD_get _ _ _ hlt, zeroDs_len] at hi
  obtain ⟨k, m, h1, rfl⟩ := zeroDs_get ks szs _ d hi
  refine ⟨⟨k, by rw [Nat.zero_add]; exact h1, zeroDt_fits k m ?_⟩, ?_⟩
  · exact List.all_eq_true.1 hz k (List.mem_of_getElem? h1)
  · cases k <;> first | rfl | exact .inl ⟨rfl, rfl⟩
theorem term_copy {nm nm' : String} {N : Nat} (hK : K T = [.int .i64, .int .i64, .str, .sl T]) {x y z t : SE} {szs : List Nat} (h1 : (Fact.rel nm false (j0r K T (N + 1)) [x, y, z, t]).holds γ)
    (h0 : (Fact.rel nm' true (j4p K T N (N + 1)) [t, .a1 (.zs [.int .i64, .int .i64, .str, .sl T] szs) (.a1 .len t), .a1 .len t, .int .i64 (.ofNat 0)]).holds γ) : False := by
  obtain ⟨a, k, c, sz, ss, g1, g2, g3⟩ := term_slice hK h1
  have hk := sl_small hK g2
  have hz : (K T).all zeroKd = true := by rw [hK]; rfl
  have hx : seG γ (.a1 (.zs [.int .i64, .int .i64, .str, .sl T] szs) (.a1 .len t)) = some (.ls (K T) (repD (j2y (K T) szs) k)) := by
    show (seG γ (.a1 .len t)).bind _ = _
    rw [j1y g1, ← hK]
    show (if (K T).all zeroKd = true then _ else _) = _
    rw [if_pos hz]
  refine h0 ⟨_, seL4 g1 hx (j1y g1) rfl, a, k, c, sz, ss, _, 0, rfl, g2, by omega, by omega, by omega, by omega, ?_, zeros_wf hz k, by simp [mszL], by simp only [Int.toNat_zero, Nat.zero_mul, List.take_zero]; exact .nil⟩
  rw [repD_len, zeroDs_len, hK]; rfl
theorem copy_out {nm : String} {N M : Nat} {s x n i : SE} (h2 : (Fact.rel nm false (j4p K T N M) [s, x, n, i]).holds γ) (h1 : (Fact.tr (.a2 (.bin .lss) i (.a1 .len s))).holds γ) (h0 : (Fact.rel "out" false pOut [i, .a1 .len s]).holds γ) : False := by
  obtain ⟨a, k, c, sz, ss, es, j, g1, g2, g3, g4, g5, g6, g7, g8, g9, -⟩ := copy_vals h2
  exact out_of g4 (j1y g1) g7 (tr_lss h1 g4 (j1y g1)) h0
theorem copy_out2 {nm : String} {N M : Nat} {s x n i : SE} (h2 : (Fact.rel nm false (j4p K T N M) [s, x, n, i]).holds γ) (h1 : (Fact.tr (.a2 (.bin .lss) i (.a1 .len s))).holds γ) (h0 : (Fact.rel "out" false pOut [i, n]).holds γ) : False := by
  obtain ⟨a, k, c, sz, ss, es, j, g1, g2, g3, g4, g5, g6, g7, g8, g9, -⟩ := copy_vals h2
  exact out_of g4 g3 g7 (tr_lss h1 g4 (j1y g1)) h0
theorem copy_hole {nm : String} {N M : Nat} {s x n i : SE} (h2 : (Fact.rel nm false (j4p K T N M) [s, x, n, i]).holds γ) (h1 : (Fact.tr (.a2 (.bin .lss) i (.a1 .len s))).holds γ) (h0 : (Fact.rel "hole" false (pHole 4) [x, i]).holds γ) : False := by
  obtain ⟨a, k, c, sz, ss, es, j, g1, g2, g3, g4, g5, g6, g7, g8, g9, g10, -⟩ := copy_vals h2
  have hj := tr_lss h1 g4 (j1y g1)
  obtain ⟨l, hl, ks, es', k1, q, rfl, hno⟩ := h0
  have hl2 := seL2 g2 g4
  rw [hl2] at hl
  have hl := Option.some.inj hl
  injection hl with a1 hl; injection hl with a2 _
  injection a1 with _ a1
  injection a2 with a2; injection a2 with _ a2
  subst a1; subst a2
  exact hno ⟨g7, by omega⟩
theorem copy_term {nm nm' : String} {N M : Nat} (hK : K T = [.int .i64, .int .i64, .str, .sl T]) {s x n i : SE} (h2 : (Fact.rel nm false (j4p K T N M) [s, x, n, i]).holds γ) (h1 : (Fact.tr (.a2 (.bin .lss) i (.a1 .len s))).holds γ)
    (h0 : (Fact.rel nm' true (j0r K T N) [.a1 (.ld 0) (.a2 .el s i), .a1 (.ld 1) (.a2 .el s i), .a1 (.ld 2) (.a2 .el s i), .a1 (.ld 3) (.a2 .el s i)]).holds γ) : False := by
  obtain ⟨a, k, c, sz, ss, es, j, g1, g2, g3, g4, g5, g6, g7, g8, g9, -⟩ := copy_vals h2
  have hj := tr_lss h1 g4 (j1y g1)
  obtain ⟨p, rfl⟩ := Int.eq_ofNat_of_zero_le g7
  obtain ⟨x', y, str, a', k', c', sz', ss', c0, c1, c2, c3, l1, l2, l3, l4⟩ := j5a hK g1 g4 g5 (by omega)
  have h5 := mszL_mono_take (l := ss) (a := (p + 1) * 4) (b := k * 4) (by omega)
  rw [List.take_of_length_le (show ss.length ≤ k * 4 by omega)] at h5
  exact h0 ⟨_, seL4 c0 c1 c2 c3, rfl, l2, by simp only [mszL, msz]; omega⟩
theorem up_step {ks : List Kd} {es : List Dt} {x i y : SE} {d : Dt} {kd : IntKind} {p sz q : Nat} {kq : Kd} (hx : seG γ x = some (.ls ks es)) (hi : seG γ i = some (.val (.int kd (.ofNat p)))) (hy : seG γ y = some d) (hl : ks.length = sz) (hq : q < sz) (h : p * sz + sz ≤ es.length) (hk : ks[q]? = some kq) (hf : kq.fits d) :
    seG γ (.a3 (.up sz q) x i y) = some (.ls ks (es.set (p * sz + q) d)) := by
  simp only [seG, hx, hi, hy, Option.bind_some, Go.Proofs.YtkgnlfmfenmihaaGreatDoor.Abs.e3]
  rw [if_pos ⟨by omega, kq, by rw [hl, Nat.mul_comm, Nat.mul_add_mod, Nat.mod_eq_of_lt hq]; exact hk, hf⟩]
theorem copy_step {nm nm' : String} {N M : Nat} (hK : K T = [.int .i64, .int .i64, .str, .sl T]) (hN : N ≤ 1073741824) {s x n i v : SE} {dv : Dt} (h2 : (Fact.rel nm false (j4p K T N (M + 1)) [s, x, n, i]).holds γ) (h1 : (Fact.tr (.a2 (.bin .lss) i (.a1 .len s))).holds γ)
    (hv : seG γ v = some dv) (hf : (Kd.sl T).fits dv) (hw : dv.wf K) (hm : ∀ d, seG γ (.a1 (.ld 3) (.a2 .el s i)) = some d → msz dv ≤ msz d ∧ Alike d dv)
    (h0 : (Fact.rel nm' true (j4p K T N M) [s, .a3 (.up 4 3) (.a3 (.up 4 2) (.a3 (.up 4 1) (.a3 (.up 4 0) x i (.a1 (.ld 0) (.a2 .el s i))) i (.a1 (.ld 1) (.a2 .el s i))) i (.a1 (.ld 2) (.a2 .el s i))) i v, n, .a2 (.bin .add) i (.int .i64 (.ofNat 1))]).holds γ) : False := by
  obtain ⟨a, k, c, sz, ss, es, j, g1, g2, g3, g4, g5, g6, g7, g8, g9, g10, g11, g12, g13⟩ := copy_vals h2
  have hj := tr_lss h1 g4 (j1y g1)
  obtain ⟨p, rfl⟩ := Int.eq_ofNat_of_zero_le g7
  have hp : p < k := by omega
  have hk := sl_small hK g5
  have hl4 : (K T).length = 4 := by rw [hK]; rfl
  obtain ⟨x', y, str, a', k', c', sz', ss', c0, c1, c2, c3, l1, l2, l3, l4⟩ := j5a hK g1 g4 g5 hp
  obtain ⟨hmv, hsame⟩ := hm _ c3
  simp only [msz] at hmv
  have k0 : (K T)[0]? = some (.int .i64) := by rw [hK]; rfl
  have k1 : (K T)[1]? = some (.int .i64) := by rw [hK]; rfl
  have k2 : (K T)[2]? = some .str := by rw [hK]; rfl
  have k3 : (K T)[3]? = some (.sl T) := by rw [hK]; rfl
  have s0 := up_step g2 g4 c0 hl4 (by omega : 0 < 4) (by omega) k0 ⟨_, rfl⟩
  have s1 := up_step s0 g4 c1 hl4 (by omega : 1 < 4) (by rw [List.length_set]; omega) k1 ⟨_, rfl⟩
  have s2 := up_step s1 g4 c2 hl4 (by omega : 2 < 4) (by rw [List.length_set, List.length_set]; omega) k2 ⟨_, rfl⟩
  have s3 := up_step s2 g4 hv hl4 (by omega : 3 < 4) (by rw [List.length_set, List.length_set, List.length_set]; omega) k3 hf
  have hadd := seG_add (γ := γ) (b := 1) g4 (show seG γ (.int .i64 (.ofNat 1)) = _ from rfl) (by omega) (by omega)
  have hset : ∀ (q : Nat) (l : List Dt) d, Dt.wfL K (K T) 0 l → q < 4 → (∃ kd, (K T)[q]? = some kd ∧ kd.fits d) → d.wf K → Dt.wfL K (K T) 0 (l.set (p * 4 + q) d) := by
    intro q l d hl hq hkd hd
    refine .mk fun m u hu => ?_
    rw [List.getElem?_set] at hu
    split at hu
    · next e =>
      subst e
      split at hu
      · obtain rfl := Option.some.inj hu
        refine ⟨?_, hd⟩
        rw [hl4, Nat.zero_add, Nat.mul_comm, Nat.mul_add_mod, Nat.mod_eq_of_lt hq]
        exact hkd
      · cases hu
    · exact hl.get hu
  have w0 := hset 0 es _ g11 (by omega) ⟨_, k0, ⟨x', rfl⟩⟩ rfl
  have w1 := hset 1 _ _ w0 (by omega) ⟨_, k1, ⟨y, rfl⟩⟩ rfl
  have w2 := hset 2 _ _ w1 (by omega) ⟨_, k2, ⟨str, rfl⟩⟩ rfl
  have w3 := hset 3 _ _ w2 (by omega) ⟨_, k3, hf⟩ hw
  have e1 : ((p : Int) + 1).toNat = p + 1 := by omega
  have e2 : ((p : Int)).toNat = p := by omega
  rw [e2] at g12 g13
  obtain ⟨d0, d1, d2, d3, q0, q1, q2, q3, qt⟩ := take_four (l := (((es.set (p * 4 + 0) (.val (.int .i64 x'))).set (p * 4 + 1) (.val (.int .i64 y))).set (p * 4 + 2) (.val (.string str))).set (p * 4 + 3) dv) (n := p) (by simp only [List.length_set]; omega)
  have hlen : p * 4 + 3 < es.length := by omega
  have t0 : (((((es.set (p * 4 + 0) (.val (.int .i64 x'))).set (p * 4 + 1) (.val (.int .i64 y))).set (p * 4 + 2) (.val (.string str))).set (p * 4 + 3) dv)).take (p * 4) = es.take (p * 4) := by
    simp only [List.take_set]
    rw [List.set_eq_of_length_le (by simp only [List.length_set, List.length_take]; omega), List.set_eq_of_length_le (by simp only [List.length_set, List.length_take]; omega), List.set_eq_of_length_le (by simp only [List.length_set, List.length_take]; omega), List.set_eq_of_length_le (by simp only [List.length_take]; omega)]
  have r0 : d0 = .val (.int .i64 x') := by
    have := q0
    simp only [List.getElem?_set] at this
    simp at this
    exact this.2.symm
  have r1 : d1 = .val (.int .i64 y) := by
    have := q1
    simp only [List.getElem?_set] at this
    simp at this
    exact this.2.symm
  have r2 : d2 = .val (.string str) := by
    have := q2
    simp only [List.getElem?_set] at this
    simp at this
    exact this.2.symm
  have r3 : d3 = dv := by
    have := q3
    simp only [List.getElem?_set] at this
    simp at this
    exact this.2.symm
  subst r0; subst r1; subst r2; subst r3
  rw [t0] at qt
  refine h0 ⟨_, seL4 g1 s3 g3 hadd, a, k, c, sz, ss, _, (p : Int) + 1, rfl, g5, g6, by omega, by omega, by omega, by simp only [List.length_set]; exact g10, w3, ?_, ?_⟩
  · rw [e1, l3, qt, j1e]
    simp only [mszL, msz] at hmv ⊢
    omega
  · rw [e1, qt, elem_take hK g1 g4 g5 hp c0 c1 c2 c3]
    exact g13.append (.cons _ _ _ _ (.val _) (.cons _ _ _ _ (.val _) (.cons _ _ _ _ (.val _) (.cons _ _ _ _ hsame .nil))))
theorem copy_next {nm nm' nm2 : String} {N M : Nat} (hK : K T = [.int .i64, .int .i64, .str, .sl T]) (hN : N ≤ 1073741824) {s x n i v : SE} (h2 : (Fact.rel nm false (j4p K T N (M + 1)) [s, x, n, i]).holds γ) (h1 : (Fact.tr (.a2 (.bin .lss) i (.a1 .len s))).holds γ)
    (h3 : (Fact.rel nm2 false (pCop K T) [.a1 (.ld 3) (.a2 .el s i), v]).holds γ)
    (h0 : (Fact.rel nm' true (j4p K T N M) [s, .a3 (.up 4 3) (.a3 (.up 4 2) (.a3 (.up 4 1) (.a3 (.up 4 0) x i (.a1 (.ld 0) (.a2 .el s i))) i (.a1 (.ld 1) (.a2 .el s i))) i (.a1 (.ld 2) (.a2 .el s i))) i v, n, .a2 (.bin .add) i (.int .i64 (.ofNat 1))]).holds γ) : False := by
  obtain ⟨l, hl, d, a, k, c, sz, ss, rfl, hw, hm, hs⟩ := h3
  obtain ⟨u1, u2, e1, e2, e3⟩ := seL_two hl
  injection e1 with q1 e1; injection e1 with q2 _
  subst q1; subst q2
  refine copy_step hK hN h2 h1 e3 ⟨_, _, _, _, _, rfl⟩ hw (fun d' hd' => ?_) h0
  rw [e2] at hd'
  obtain rfl := Option.some.inj hd'
  simp only [msz]
  exact ⟨hm, hs⟩
theorem copy_short {nm : String} {N M : Nat} {s x n i : SE} (h2 : (Fact.rel nm false (j4p K T N M) [s, x, n, i]).holds γ) (h0 : (Fact.rel "short" false (pShort 4) [x, n]).holds γ) : False := by
  obtain ⟨a, k, c, sz, ss, es, j, g1, g2, g3, g4, g5, g6, g7, g8, g9, g10, -⟩ := copy_vals h2
  obtain ⟨l, hl, ks, es', q, rfl, hno⟩ := h0
  have hl2 := seL2 g2 g3
  rw [hl2] at hl
  have hl := Option.some.inj hl
  injection hl with a1 hl; injection hl with a2 _
  injection a1 with _ a1
  injection a2 with a2; injection a2 with _ a2
  subst a1; subst a2
  exact hno ⟨Int.natCast_nonneg k, by rw [g10]; exact Nat.le_refl _⟩
theorem copy_end {nm nm' nm2 : String} {N M : Nat} (hK : K T = [.int .i64, .int .i64, .str, .sl T]) {s x n i v : SE} (h2 : (Fact.rel nm false (j4p K T N M) [s, x, n, i]).holds γ) (h1 : (Fact.fl (.a2 (.bin .lss) i (.a1 .len s))).holds γ)
    (h3 : (Fact.rel nm2 false (pFrz T 4) [v, x, n]).holds γ) (h0 : (Fact.rel nm' true (pCop K T) [s, v]).holds γ) : False := by
  obtain ⟨a, k, c, sz, ss, es, j, g1, g2, g3, g4, g5, g6, g7, g8, g9, g10, g11, g12, g13⟩ := copy_vals h2
  have hj := fl_lss h1 g4 (j1y g1)
  obtain rfl : j = k := by omega
  obtain ⟨l, hl, b, k', c', ks, es', rfl, hle⟩ := h3
  simp only [seL, g2, g3, Option.bind_some, Option.map_some, Option.bind_eq_some_iff] at hl
  obtain ⟨dv, hdv, hl⟩ := hl
  have hl := Option.some.inj hl
  injection hl with a1 hl; injection hl with a2 hl; injection hl with a3 _
  injection a2 with _ a2
  injection a3 with a3; injection a3 with _ a3
  subst a2
  have hk : k' = k := by
    have : (Int.ofNat k) = Int.ofNat k' := a3
    simp only [Int.ofNat_eq_natCast] at this
    omega
  subst hk
  have hl4 : (K T).length = 4 := by rw [hK]; rfl
  subst a1
  have e2 : ((k' : Int)).toNat = k' := by omega
  rw [e2] at g12 g13
  have hss := g5.1
  rw [hl4] at hss
  refine h0 ⟨_, seL2 g1 hdv, _, _, _, _, _, _, rfl, .inr ⟨hl4.symm, ⟨b, _, c', rfl, by rw [List.length_take]; omega⟩, g11.take _⟩, ?_, ?_⟩
  · have h5 := mszL_mono_take (l := ss) (a := k' * 4) (b := ss.length) (by omega)
    rw [List.take_length] at h5
    simp only [msz]
    omega
  · rw [List.take_of_length_le (show ss.length ≤ k' * 4 by omega)] at g13
    exact .sl _ _ _ _ _ _ _ _ _ _ _ g13
theorem copy_of_args {nm : String} {B : Nat} {x y z t v : SE} (hK : K T = [.int .i64, .int .i64, .str, .sl T]) {nm2 nm' : String} (h1 : (Fact.rel nm false (j0r K T B) [x, y, z, t]).holds γ) (h3 : (Fact.rel nm2 false (pCop K T) [t, v]).holds γ) (h0 : (Fact.rel nm' true (j0r K T B) [x, y, z, v]).holds γ) : False := by
  obtain ⟨l, hl, h4, h5, h6⟩ := h1
  obtain ⟨a, b, c, d, rfl, e1, e2', e3', e4⟩ := seL_four hl
  obtain ⟨l2, hl2, d', a', k, c', sz, ss, rfl, hw, hm, -⟩ := h3
  obtain ⟨u1, u2, q1, q2, q3⟩ := seL_two hl2
  injection q1 with r1 q1; injection q1 with r2 _
  subst r1; subst r2
  rw [e4] at q2
  obtain rfl := Option.some.inj q2
  have hl4 : (K T).length = 4 := by rw [hK]; rfl
  refine h0 ⟨_, seL4 e1 e2' e3' q3, rfl, .mk fun i u hu => ?_, ?_⟩
  · rcases i with _ | _ | _ | _ | i
    · exact h5.get (i := 0) (by simpa using hu)
    · exact h5.get (i := 1) (by simpa using hu)
    · exact h5.get (i := 2) (by simpa using hu)
    · simp only [List.getElem?_cons_succ, List.getElem?_cons_zero, Option.some.injEq] at hu
      subst hu
      exact ⟨⟨.sl T, by rw [hl4, hK]; rfl, _, _, _, _, _, rfl⟩, hw⟩
    · simp at hu
  · simp only [mszL, msz] at h6 ⊢
    omega
end
end Go.Proofs.YtkgnlfmfenmihaaGreatDoor.Abs

namespace Go.Proofs.YtkgnlfmfenmihaaGreatDoor.Abs
open Go
theorem two_all {P : Program} {cS : Nat → Con} {cL : Nat → Nat → Con} {B : Nat} (zS : j1w P (cS 0)) (zL : ∀ N, j1w P (cL N 0))
    (hL : ∀ N M, N ≤ B → j1w P (cS N) → j1w P (cL N M) → j1w P (cL N (M + 1))) (hS : ∀ N, N + 1 ≤ B → j1w P (cL N (N + 1)) → j1w P (cS (N + 1))) : ∀ N, N ≤ B → j1w P (cS N)
  | 0, _ => zS
  | N + 1, h => by
    have hN := two_all zS zL hL hS N (by omega)
    have all : ∀ M, j1w P (cL N M) := fun M => by
      induction M with
      | zero => exact zL N
      | succ M ih => exact hL N M (by omega) hN ih
    exact hS N h (all (N + 1))
section
variable {K : TypeId → List Kd} {T : TypeId} {γ : G}
theorem term_zero {nm : String} {l : List SE} (h : (Fact.rel nm false (j0r K T 0) l).holds γ) : False := by
  obtain ⟨_, _, _, _, h⟩ := h
  omega
theorem copy_zero {nm : String} {N : Nat} {s x n i : SE} (h : (Fact.rel nm false (j4p K T N 0) [s, x, n, i]).holds γ) : False := by
  obtain ⟨a, k, c, sz, ss, es, j, -, -, -, -, -, -, -, h8, h9, -⟩ := copy_vals h
  omega
theorem copy_none {nm nm' : String} {B q : Nat} {x y z t : SE} (hK : K T = [.int .i64, .int .i64, .str, .sl T]) (h1 : (Fact.rel nm false (j0r K T B) [x, y, z, t]).holds γ) (h2 : (Fact.tr (.a2 (.bin .eql) (.a1 .len t) (.int .i64 (.ofNat 0)))).holds γ) (h0 : (Fact.rel nm' true (pCop K T) [t, .a1 (.ns T q) (.bool true)]).holds γ) : False := by
  obtain ⟨a, k, c, sz, ss, g1, g2, g3⟩ := term_slice hK h1
  have h2 : seG γ _ = _ := h2
  rw [seG_cmp (b := 0) rfl (j1y g1) rfl] at h2
  have h2 := Option.some.inj h2
  injection h2 with h2; injection h2 with h2
  have hk := of_decide_eq_true h2
  obtain rfl : k = 0 := by omega
  have hl4 : (K T).length = 4 := by rw [hK]; rfl
  have hss := g2.1
  rw [hl4, Nat.zero_mul] at hss
  obtain rfl := List.length_eq_zero_iff.1 hss
  refine h0 ⟨_, seL2 g1 rfl, _, none, 0, 0, q, [], rfl, .inl ⟨rfl, rfl⟩, ?_, .sl _ _ _ _ _ _ _ _ _ _ _ .nil⟩
  simp only [mszL, msz]
  omega
theorem seL_append : ∀ {xs ys : List SE} {l : List Dt}, seL γ (xs ++ ys) = some l → ∃ a b, l = a ++ b ∧ seL γ xs = some a ∧ seL γ ys = some b
  | [], ys, l, h => ⟨[], l, rfl, rfl, h⟩
  | x :: xs, ys, l, h => by
    simp only [List.cons_append, seL, Option.bind_eq_some_iff, Option.map_eq_some_iff] at h
    obtain ⟨d, hd, r, hr, rfl⟩ := h
    obtain ⟨a, b, rfl, h1, h2⟩ := seL_append hr
    exact ⟨d :: a, b, rfl, by simp only [seL, hd, h1, Option.bind_some, Option.map_some], h2⟩
theorem seL_length : ∀ {xs : List SE} {l : List Dt}, seL γ xs = some l → l.length = xs.length
  | [], l, h => by rw [← Option.some.inj h]; rfl
  | x :: xs, l, h => by
    simp only [seL, Option.bind_eq_some_iff, Option.map_eq_some_iff] at h
    obtain ⟨d, hd, r, hr, rfl⟩ := h
    simp only [List.length_cons, seL_length hr]
theorem dataOk_cons {t : TypeId} {ts : List TypeId} {l : List Dt} (h : dataOk K (t :: ts) l) : ∃ a b, l = a ++ b ∧ a.length = (K t).length ∧ Dt.wfL K (K t) 0 a ∧ dataOk K ts b := h
end
end Go.Proofs.YtkgnlfmfenmihaaGreatDoor.Abs

namespace Go.Proofs.YtkgnlfmfenmihaaGreatDoor.Abs
open Go
noncomputable def lookT (o : Out) : R Unit :=
  match o.res with
  | .ret v => match v with
    | .bool b => match b with
      | true => .ok ()
      | false => .must o.s.pc (.ok ())
    | .opq k e => match kdEq k .bool with
      | true => .must (.fl e :: o.s.pc) (.ok ())
      | false => .bad "another end"
    | _ => .bad "another end"
  | .pan _ => .must o.s.pc (.ok ())
theorem calls_trueT {C : Ctx} (hC : Good C) (hM : C.P.follows .mixedOrders = true) {base : Nat} {γ : G} {s : S} {w : World} (hR : Rel C base γ s w) {f : FuncId} {args : List AV} {cargs : List Value} (hargs : concL γ args = some cargs) (n : Nat)
    {l : List (List Fact)} (h : R.res (fun _ => true) ((j4h C (runF C n) f args .normal none s).bind lookT) = some l) (hu : Unsats l) :
    Calls C.P f ⟨cargs⟩ w fun e w' => e = .returned (.bool true) ∧ Stayed γ s w w' := by
  refine Calls.mono (calls_of_res hC hM hR hargs n h hu) ?_
  rintro e w' ⟨γ', o, x, hst, hx, hux, hres⟩
  refine ⟨?_, hst.keep.size, hst.keep.tape, hst.keep.os, hst.keep.output, hst.keep.stays⟩
  have hpc : ∀ f ∈ o.s.pc, f.holds γ' := fun f hf => (hst.rel.pc f hf).2
  unfold OutIs at hres
  unfold lookT at hx
  cases hr : o.res with
  | pan ch =>
    rw [hr] at hx
    obtain ⟨y, -, rfl⟩ := R.res_must hx
    exact absurd ⟨γ', hpc⟩ (hux o.s.pc List.mem_cons_self)
  | ret v =>
    rw [hr] at hx hres
    obtain ⟨c, hc, rfl⟩ := hres
    cases v with
    | bool b =>
      cases b with
      | true =>
        simp only [conc, Option.some.injEq] at hc
        rw [← hc]
      | false =>
        obtain ⟨y, -, rfl⟩ := R.res_must (show R.res (fun _ => true) (R.must o.s.pc (R.ok ())) = some x from hx)
        exact absurd ⟨γ', hpc⟩ (hux o.s.pc List.mem_cons_self)
    | opq k e =>
      cases hk : kdEq k .bool with
      | false =>
        have hx : R.res (fun _ => true) (match kdEq k .bool with | true => R.must (.fl e :: o.s.pc) (R.ok ()) | false => .bad "another end") = some x := hx
        rw [hk] at hx; cases hx
      | true =>
        have hx : R.res (fun _ => true) (match kdEq k .bool with | true => R.must (.fl e :: o.s.pc) (R.ok ()) | false => .bad "another end") = some x := hx
        rw [hk] at hx
        obtain ⟨y, -, rfl⟩ := R.res_must hx
        obtain rfl := j3d hk
        obtain ⟨d, g1, ⟨b, rfl⟩, g3⟩ := j1b hc
        cases b with
        | true => rw [g3]; rfl
        | false =>
          refine absurd ⟨γ', fun f hf => ?_⟩ (hux (.fl e :: o.s.pc) List.mem_cons_self)
          cases hf with
          | head => exact g1
          | tail _ hf => exact hpc f hf
    | _ => cases hx
end Go.Proofs.YtkgnlfmfenmihaaGreatDoor.Abs

namespace Go.Proofs.YtkgnlfmfenmihaaGreatDoor.Abs
open Go
def pMost (l : List Dt) : Prop := ∃ m : Int, l = [.val (.int .i64 m)] ∧ 1 ≤ m ∧ m ≤ 1000000
section
variable (K : TypeId → List Kd) (T : TypeId)
def pSz (l : List Dt) : Prop := ∃ (m r : Int) (a : Option Addr) (k c sz : Nat) (ss : List Dt), l = [.val (.int .i64 m), .val (.int .i64 r), .sl (.slice a k c) T sz ss] ∧ 1 ≤ r ∧ r ≤ m ∧ m ≤ 1000000 ∧ (r < m → (mszL ss : Int) + 4 ≤ 4 * r)
def pSl2 (N M : Nat) (l : List Dt) : Prop := ∃ (a : Option Addr) (k c sz : Nat) (ss : List Dt) (i n m : Int), l = [.sl (.slice a k c) T sz ss, .val (.int .i64 i), .val (.int .i64 n), .val (.int .i64 m)] ∧ SlOf K T a k sz ss ∧ mszL ss < N ∧ 0 ≤ i ∧ i ≤ k ∧ (k : Int) - i < M ∧
  1 ≤ n ∧ n ≤ m ∧ m ≤ 1000000 ∧ (k : Int) ≤ m ∧ (n < m → (mszL (ss.take (i.toNat * 4)) : Int) ≤ 4 * (n - 1))
end
section
variable {K : TypeId → List Kd} {T : TypeId} {γ : G}
theorem seL_three {x y z : SE} {l : List Dt} (h : seL γ [x, y, z] = some l) : ∃ a b c, l = [a, b, c] ∧ seG γ x = some a ∧ seG γ y = some b ∧ seG γ z = some c := by
  simp only [seL, Option.bind_eq_some_iff, Option.map_eq_some_iff] at h
  obtain ⟨a, ha, q, ⟨b, hb, r, ⟨c, hc, u, hu, rfl⟩, rfl⟩, rfl⟩ := h
  obtain rfl := Option.some.inj hu
  exact ⟨a, b, c, rfl, ha, hb, hc⟩
theorem sl2_vals {nm : String} {N M : Nat} {s i n m : SE} (h : (Fact.rel nm false (pSl2 K T N M) [s, i, n, m]).holds γ) : ∃ (a : Option Addr) (k c sz : Nat) (ss : List Dt) (j p q : Int),
    seG γ s = some (.sl (.slice a k c) T sz ss) ∧ seG γ i = some (.val (.int .i64 j)) ∧ seG γ n = some (.val (.int .i64 p)) ∧ seG γ m = some (.val (.int .i64 q)) ∧ SlOf K T a k sz ss ∧ mszL ss < N ∧ 0 ≤ j ∧ j ≤ k ∧ (k : Int) - j < M ∧
    1 ≤ p ∧ p ≤ q ∧ q ≤ 1000000 ∧ (k : Int) ≤ q ∧ (p < q → (mszL (ss.take (j.toNat * 4)) : Int) ≤ 4 * (p - 1)) := by
  obtain ⟨l, hl, a, k, c, sz, ss, j, p, q, rfl, h1⟩ := h
  obtain ⟨d1, d2, d3, d4, e1, e2, e3, e4, e5⟩ := seL_four hl
  injection e1 with q1 e1; injection e1 with q2 e1; injection e1 with q3 e1; injection e1 with q4 _
  subst q1; subst q2; subst q3; subst q4
  exact ⟨a, k, c, sz, ss, j, p, q, e2, e3, e4, e5, h1⟩
theorem sz_vals {nm : String} {m r t : SE} (h : (Fact.rel nm false (pSz T) [m, r, t]).holds γ) : ∃ (q p : Int) (a : Option Addr) (k c sz : Nat) (ss : List Dt),
    seG γ m = some (.val (.int .i64 q)) ∧ seG γ r = some (.val (.int .i64 p)) ∧ seG γ t = some (.sl (.slice a k c) T sz ss) ∧ 1 ≤ p ∧ p ≤ q ∧ q ≤ 1000000 ∧ (p < q → (mszL ss : Int) + 4 ≤ 4 * p) := by
  obtain ⟨l, hl, q, p, a, k, c, sz, ss, rfl, h1⟩ := h
  obtain ⟨d1, d2, d3, e1, e2, e3, e4⟩ := seL_three hl
  injection e1 with q1 e1; injection e1 with q2 e1; injection e1 with q3 _
  subst q1; subst q2; subst q3
  exact ⟨q, p, a, k, c, sz, ss, e2, e3, e4, h1⟩
theorem sl2_zero {nm : String} {N : Nat} {s i n m : SE} (h : (Fact.rel nm false (pSl2 K T N 0) [s, i, n, m]).holds γ) : False := by
  obtain ⟨a, k, c, sz, ss, j, p, q, -, -, -, -, -, -, -, h6, h7, -⟩ := sl2_vals h
  omega
theorem sz_out {nm : String} {N M : Nat} {s i n m : SE} (h2 : (Fact.rel nm false (pSl2 K T N M) [s, i, n, m]).holds γ) (h1 : (Fact.tr (.a2 (.bin .lss) i (.a1 .len s))).holds γ) (h0 : (Fact.rel "out" false pOut [i, .a1 .len s]).holds γ) : False := by
  obtain ⟨a, k, c, sz, ss, j, p, q, g1, g2, g3, g4, g5, g6, g7, -⟩ := sl2_vals h2
  exact out_of g2 (j1y g1) g7 (tr_lss h1 g2 (j1y g1)) h0
theorem sz_term {nm nm' : String} {N M : Nat} (hK : K T = [.int .i64, .int .i64, .str, .sl T]) {s i n m : SE} (h2 : (Fact.rel nm false (pSl2 K T N M) [s, i, n, m]).holds γ) (h1 : (Fact.tr (.a2 (.bin .lss) i (.a1 .len s))).holds γ)
    (h0 : (Fact.rel nm' true (j0r K T N) [.a1 (.ld 0) (.a2 .el s i), .a1 (.ld 1) (.a2 .el s i), .a1 (.ld 2) (.a2 .el s i), .a1 (.ld 3) (.a2 .el s i)]).holds γ) : False := by
  obtain ⟨a, k, c, sz, ss, j, p, q, g1, g2, g3, g4, g5, g6, g7, g8, g9, -⟩ := sl2_vals h2
  exact sl_term (nm := nm) (M := k + 1) hK ⟨_, seL2 g1 g2, a, k, c, sz, ss, j, rfl, g5, g6, g7, g8, by omega⟩ h1 h0
theorem sz_most {nm nm' : String} {N M : Nat} {s i n m : SE} (h2 : (Fact.rel nm false (pSl2 K T N M) [s, i, n, m]).holds γ) (h1 : (Fact.tr (.a2 (.bin .lss) n m)).holds γ) (h0 : (Fact.rel nm' true pMost [.a2 (.bin .sub) m n]).holds γ) : False := by
  obtain ⟨a, k, c, sz, ss, j, p, q, g1, g2, g3, g4, g5, g6, g7, g8, g9, g10, g11, g12, -⟩ := sl2_vals h2
  have hlt := tr_lss h1 g3 g4
  exact h0 ⟨_, seL1 (seG_sub g4 g3 (by omega) (by omega)), q - p, rfl, by omega, by omega⟩
theorem sz_next {nm nm' nm2 : String} {N M : Nat} (hK : K T = [.int .i64, .int .i64, .str, .sl T]) {s i n m r : SE} (h2 : (Fact.rel nm false (pSl2 K T N (M + 1)) [s, i, n, m]).holds γ) (h1 : (Fact.tr (.a2 (.bin .lss) i (.a1 .len s))).holds γ) (h3 : (Fact.tr (.a2 (.bin .lss) n m)).holds γ)
    (h4 : (Fact.rel nm2 false (pSz T) [.a2 (.bin .sub) m n, r, .a1 (.ld 3) (.a2 .el s i)]).holds γ)
    (h0 : (Fact.rel nm' true (pSl2 K T N M) [s, .a2 (.bin .add) i (.int .i64 (.ofNat 1)), .a2 (.bin .add) n r, m]).holds γ) : False := by
  obtain ⟨a, k, c, sz, ss, j, p, q, g1, g2, g3, g4, g5, g6, g7, g8, g9, g10, g11, g12, g13, g14⟩ := sl2_vals h2
  have hj := tr_lss h1 g2 (j1y g1)
  have hp := tr_lss h3 g3 g4
  obtain ⟨q', r', a2, k2, c2, sz2, ss2, f1, f2, f3, f4, f5, f6, f7⟩ := sz_vals h4
  rw [seG_sub g4 g3 (by omega) (by omega)] at f1
  have f1 := Option.some.inj f1
  injection f1 with f1; injection f1 with _ f1
  obtain ⟨u, rfl⟩ := Int.eq_ofNat_of_zero_le g7
  obtain ⟨x, y, str, a', k', c', sz', ss', c0, c1, c2', c3, l1, l2, l3, l4⟩ := j5a hK g1 g2 g5 (by omega)
  rw [c3] at f3
  have f3 := Option.some.inj f3
  injection f3 with _ _ _ f3
  subst f3
  have hadd := seG_add (γ := γ) (b := 1) g2 (show seG γ (.int .i64 (.ofNat 1)) = _ from rfl) (by omega) (by omega)
  have hadd2 := seG_add (γ := γ) g3 f2 (by omega) (by omega)
  refine h0 ⟨_, seL4 g1 hadd hadd2 g4, a, k, c, sz, ss, (u : Int) + 1, p + r', q, rfl, g5, g6, by omega, by omega, by omega, by omega, by omega, g12, g13, fun hlt => ?_⟩
  have e1 : ((u : Int) + 1).toNat = u + 1 := by omega
  have e2 : ((u : Int)).toNat = u := by omega
  have h5 := g14 hp
  rw [e2] at h5
  rw [e1, l3]
  have := f7 (by omega)
  omega
theorem sz_end1 {nm nm' : String} {N M : Nat} (hK : K T = [.int .i64, .int .i64, .str, .sl T]) {s i n m : SE} (h2 : (Fact.rel nm false (pSl2 K T N M) [s, i, n, m]).holds γ) (h1 : (Fact.fl (.a2 (.bin .lss) i (.a1 .len s))).holds γ) (h0 : (Fact.rel nm' true (pSz T) [m, n, s]).holds γ) : False := by
  obtain ⟨a, k, c, sz, ss, j, p, q, g1, g2, g3, g4, g5, g6, g7, g8, g9, g10, g11, g12, g13, g14⟩ := sl2_vals h2
  have hj := fl_lss h1 g2 (j1y g1)
  obtain rfl : j = k := by omega
  refine h0 ⟨_, seL3 g4 g3 g1, q, p, a, k, c, sz, ss, rfl, g10, g11, g12, fun hlt => ?_⟩
  have h5 := g14 hlt
  have e2 : ((k : Int)).toNat = k := by omega
  have hl4 : (K T).length = 4 := by rw [hK]; rfl
  have hlen := g5.1
  rw [hl4] at hlen
  rw [e2, List.take_of_length_le (by omega)] at h5
  omega
theorem sz_end2 {nm nm' : String} {N M : Nat} {s i n m : SE} (h2 : (Fact.rel nm false (pSl2 K T N M) [s, i, n, m]).holds γ) (h1 : (Fact.fl (.a2 (.bin .lss) n m)).holds γ) (h0 : (Fact.rel nm' true (pSz T) [m, n, s]).holds γ) : False := by
  obtain ⟨a, k, c, sz, ss, j, p, q, g1, g2, g3, g4, g5, g6, g7, g8, g9, g10, g11, g12, g13, g14⟩ := sl2_vals h2
  have hp := fl_lss h1 g3 g4
  exact h0 ⟨_, seL3 g4 g3 g1, q, p, a, k, c, sz, ss, rfl, g10, g11, g12, fun hlt => by omega⟩
theorem most_val {nm : String} {m : SE} (h : (Fact.rel nm false pMost [m]).holds γ) : ∃ q : Int, seG γ m = some (.val (.int .i64 q)) ∧ 1 ≤ q ∧ q ≤ 1000000 := by
  obtain ⟨l, hl, q, rfl, h1, h2⟩ := h
  simp only [seL, Option.bind_eq_some_iff, Option.map_eq_some_iff] at hl
  obtain ⟨d, hd, r, hr, e⟩ := hl
  obtain rfl := Option.some.inj hr
  injection e with e _
  subst e
  exact ⟨q, hd, h1, h2⟩
theorem sz_big {nm nm' nm2 : String} {N : Nat} (hK : K T = [.int .i64, .int .i64, .str, .sl T]) {x y z t m : SE} (h1 : (Fact.rel nm false (j0r K T N) [x, y, z, t]).holds γ) (h2 : (Fact.rel nm2 false pMost [m]).holds γ) (h0 : (Fact.rel nm' true (pSz T) [m, m, t]).holds γ) : False := by
  obtain ⟨a, k, c, sz, ss, g1, -, -⟩ := term_slice hK h1
  obtain ⟨q, g2, g3, g4⟩ := most_val h2
  exact h0 ⟨_, seL3 g2 g2 g1, q, q, a, k, c, sz, ss, rfl, g3, Int.le_refl _, g4, fun h => absurd h (Int.lt_irrefl _)⟩
theorem sz_start {nm nm' nm2 : String} {N : Nat} (hK : K T = [.int .i64, .int .i64, .str, .sl T]) {x y z t m : SE} (h1 : (Fact.rel nm false (j0r K T (N + 1)) [x, y, z, t]).holds γ) (h2 : (Fact.rel nm2 false pMost [m]).holds γ) (h3 : (Fact.fl (.a2 (.bin .gtr) (.a1 .len t) m)).holds γ)
    (h0 : (Fact.rel nm' true (pSl2 K T N (N + 1)) [t, .int .i64 (.ofNat 0), .int .i64 (.ofNat 1), m]).holds γ) : False := by
  obtain ⟨a, k, c, sz, ss, g1, g2, g3⟩ := term_slice hK h1
  obtain ⟨q, f1, f2, f3⟩ := most_val h2
  have hk := sl_small hK g2
  have h3 : seG γ _ = _ := h3
  rw [seG_cmp (b := q) rfl (j1y g1) f1] at h3
  have h3 := Option.some.inj h3
  injection h3 with h3; injection h3 with h3
  have hle := of_decide_eq_false h3
  exact h0 ⟨_, seL4 g1 rfl rfl f1, a, k, c, sz, ss, 0, 1, q, rfl, g2, by omega, by omega, by omega, by omega, by omega, f2, f3, by omega, fun _ => by simp [mszL]⟩
theorem most_lit {nm : String} {b : Nat} (h1 : 1 ≤ b) (h2 : b ≤ 1000000) (h0 : (Fact.rel nm true pMost [.int .i64 (.ofNat b)]).holds γ) : False :=
  h0 ⟨_, seL1 rfl, .ofNat b, rfl, by simp only [Int.ofNat_eq_natCast]; omega, by simp only [Int.ofNat_eq_natCast]; omega⟩
theorem sz_fine {nm nm' nm2 : String} {N B b : Nat} (hK : K T = [.int .i64, .int .i64, .str, .sl T]) {x y z t r : SE} (h1 : (Fact.rel nm false (j0r K T N) [x, y, z, t]).holds γ) (h2 : (Fact.rel nm2 false (pSz T) [.int .i64 (.ofNat (b + 1)), r, t]).holds γ) (h3 : (Fact.fl (.a2 (.bin .gtr) r (.int .i64 (.ofNat b)))).holds γ)
    (hB : 4 * b < B) : (Fact.rel nm' false (j0r K T B) [x, y, z, t]).holds γ := by
  obtain ⟨l, hl, h4, h5, h6⟩ := h1
  obtain ⟨d1, d2, d3, d4, rfl, e1, e2', e3', e4⟩ := seL_four hl
  obtain ⟨q, p, a, k, c, sz, ss, f1, f2, f3, f4, f5, f6, f7⟩ := sz_vals h2
  have f1 := Option.some.inj (show some (Dt.val (.int .i64 (.ofNat (b + 1)))) = some _ from f1)
  injection f1 with f1; injection f1 with _ f1
  have h3 : seG γ _ = _ := h3
  rw [seG_cmp (b := .ofNat b) rfl f2 rfl] at h3
  have h3 := Option.some.inj h3
  injection h3 with h3; injection h3 with h3
  have hle := of_decide_eq_false h3
  simp only [Int.ofNat_eq_natCast] at f1 hle
  have hs := f7 (by omega)
  rw [e4] at f3
  obtain rfl := Option.some.inj f3
  have k1 : ∀ (i : Nat) d, [d1, d2, d3, Dt.sl (.slice a k c) T sz ss][i]? = some d → i < 3 → msz d = 1 := by
    intro i d hd hi
    have := h5.get hd
    have hl4 : (K T).length = 4 := by rw [hK]; rfl
    obtain ⟨⟨kd, hkd, hf⟩, -⟩ := this
    rw [Nat.zero_add, hl4, Nat.mod_eq_of_lt (by omega), hK] at hkd
    rcases i with _ | _ | _ | i
    · obtain rfl : Kd.int .i64 = kd := by simpa using hkd
      obtain ⟨n, rfl⟩ := hf; rfl
    · obtain rfl : Kd.int .i64 = kd := by simpa using hkd
      obtain ⟨n, rfl⟩ := hf; rfl
    · obtain rfl : Kd.str = kd := by simpa using hkd
      obtain ⟨n, rfl⟩ := hf; rfl
    · omega
  have m1 := k1 0 d1 rfl (by omega)
  have m2 := k1 1 d2 rfl (by omega)
  have m3 := k1 2 d3 rfl (by omega)
  refine ⟨_, hl, h4, h5, ?_⟩
  simp only [mszL, msz, m1, m2, m3]
  omega
end
end Go.Proofs.YtkgnlfmfenmihaaGreatDoor.Abs

namespace Go.Proofs.YtkgnlfmfenmihaaGreatDoor.Abs
open Go
section
variable (K : TypeId → List Kd) (T : TypeId)
def pAl (N : Nat) (l : List Dt) : Prop := ∃ (a1 a2 : Option Addr) (k c1 c2 sz1 sz2 : Nat) (ss1 ss2 : List Dt), l = [.sl (.slice a1 k c1) T sz1 ss1, .sl (.slice a2 k c2) T sz2 ss2] ∧ SlOf K T a1 k sz1 ss1 ∧ SlOf K T a2 k sz2 ss2 ∧ AlikeL ss1 ss2 ∧ mszL ss1 < N
def pAls (N M : Nat) (l : List Dt) : Prop := ∃ (a1 a2 : Option Addr) (k c1 c2 sz1 sz2 : Nat) (ss1 ss2 : List Dt) (i : Int), l = [.sl (.slice a1 k c1) T sz1 ss1, .sl (.slice a2 k c2) T sz2 ss2, .val (.int .i64 i)] ∧ SlOf K T a1 k sz1 ss1 ∧ SlOf K T a2 k sz2 ss2 ∧ AlikeL ss1 ss2 ∧ mszL ss1 < N + 1 ∧
  0 ≤ i ∧ i ≤ k ∧ (k : Int) - i < M
end
section
variable {K : TypeId → List Kd} {T : TypeId} {γ : G}
theorem al_vals {nm : String} {N : Nat} {x y : SE} (h : (Fact.rel nm false (pAl K T N) [x, y]).holds γ) : ∃ (a1 a2 : Option Addr) (k c1 c2 sz1 sz2 : Nat) (ss1 ss2 : List Dt),
    seG γ x = some (.sl (.slice a1 k c1) T sz1 ss1) ∧ seG γ y = some (.sl (.slice a2 k c2) T sz2 ss2) ∧ SlOf K T a1 k sz1 ss1 ∧ SlOf K T a2 k sz2 ss2 ∧ AlikeL ss1 ss2 ∧ mszL ss1 < N := by
  obtain ⟨l, hl, a1, a2, k, c1, c2, sz1, sz2, ss1, ss2, rfl, h1⟩ := h
  obtain ⟨d1, d2, e1, e2, e3⟩ := seL_two hl
  injection e1 with q1 e1; injection e1 with q2 _
  subst q1; subst q2
  exact ⟨a1, a2, k, c1, c2, sz1, sz2, ss1, ss2, e2, e3, h1⟩
theorem als_vals {nm : String} {N M : Nat} {x y i : SE} (h : (Fact.rel nm false (pAls K T N M) [x, y, i]).holds γ) : ∃ (a1 a2 : Option Addr) (k c1 c2 sz1 sz2 : Nat) (ss1 ss2 : List Dt) (j : Int),
    seG γ x = some (.sl (.slice a1 k c1) T sz1 ss1) ∧ seG γ y = some (.sl (.slice a2 k c2) T sz2 ss2) ∧ seG γ i = some (.val (.int .i64 j)) ∧ SlOf K T a1 k sz1 ss1 ∧ SlOf K T a2 k sz2 ss2 ∧ AlikeL ss1 ss2 ∧ mszL ss1 < N + 1 ∧ 0 ≤ j ∧ j ≤ k ∧ (k : Int) - j < M := by
  obtain ⟨l, hl, a1, a2, k, c1, c2, sz1, sz2, ss1, ss2, j, rfl, h1⟩ := h
  obtain ⟨d1, d2, d3, e1, e2, e3, e4⟩ := seL_three hl
  injection e1 with q1 e1; injection e1 with q2 e1; injection e1 with q3 _
  subst q1; subst q2; subst q3
  exact ⟨a1, a2, k, c1, c2, sz1, sz2, ss1, ss2, j, e2, e3, e4, h1⟩
theorem al_zero {nm : String} {x y : SE} (h : (Fact.rel nm false (pAl K T 0) [x, y]).holds γ) : False := by
  obtain ⟨_, _, _, _, _, _, _, _, _, -, -, -, -, -, h⟩ := al_vals h
  omega
theorem als_zero {nm : String} {N : Nat} {x y i : SE} (h : (Fact.rel nm false (pAls K T N 0) [x, y, i]).holds γ) : False := by
  obtain ⟨_, _, _, _, _, _, _, _, _, _, -, -, -, -, -, -, -, h1, h2, h3⟩ := als_vals h
  omega
theorem al_len {nm : String} {N : Nat} {x y : SE} (h1 : (Fact.rel nm false (pAl K T N) [x, y]).holds γ) (h0 : (Fact.tr (.a2 (.bin .neq) (.a1 .len x) (.a1 .len y))).holds γ) : False := by
  obtain ⟨a1, a2, k, c1, c2, sz1, sz2, ss1, ss2, g1, g2, -⟩ := al_vals h1
  have h0 : seG γ _ = _ := h0
  rw [seG_cmp (b := (k : Int)) rfl (j1y g1) (j1y g2)] at h0
  have h0 := Option.some.inj h0
  injection h0 with h0; injection h0 with h0
  simp at h0
theorem al_start {nm nm' : String} {N : Nat} (hK : K T = [.int .i64, .int .i64, .str, .sl T]) {x y : SE} (h1 : (Fact.rel nm false (pAl K T (N + 1)) [x, y]).holds γ) (h0 : (Fact.rel nm' true (pAls K T N (N + 1)) [x, y, .int .i64 (.ofNat 0)]).holds γ) : False := by
  obtain ⟨a1, a2, k, c1, c2, sz1, sz2, ss1, ss2, g1, g2, g3, g4, g5, g6⟩ := al_vals h1
  have hk := sl_small hK g3
  exact h0 ⟨_, seL3 g1 g2 rfl, a1, a2, k, c1, c2, sz1, sz2, ss1, ss2, 0, rfl, g3, g4, g5, g6, by omega, by omega, by omega⟩
theorem als_ne {nm : String} {N M q : Nat} (hK : K T = [.int .i64, .int .i64, .str, .sl T]) (hq : q < 3) {x y i : SE} (h2 : (Fact.rel nm false (pAls K T N M) [x, y, i]).holds γ) (h1 : (Fact.tr (.a2 (.bin .lss) i (.a1 .len x))).holds γ)
    (h0 : (Fact.fl (.a2 (.bin .eql) (.a1 (.ld q) (.a2 .el x i)) (.a1 (.ld q) (.a2 .el y i)))).holds γ) : False := by
  obtain ⟨a1, a2, k, c1, c2, sz1, sz2, ss1, ss2, j, g1, g2, g3, g4, g5, g6, g7, g8, g9, g10⟩ := als_vals h2
  have hj := tr_lss h1 g3 (j1y g1)
  obtain ⟨p, rfl⟩ := Int.eq_ofNat_of_zero_le g8
  obtain ⟨u, v, b, e1, e2', e3, e4⟩ := eqOf_spec (p := true) rfl (show seG γ _ = some _ from h0)
  rw [elem_at hK g1 g3 g4 (by omega)] at e1
  rw [elem_at hK g2 g3 g5 (by omega)] at e2'
  obtain ⟨z, f1, f2⟩ := g6.get e1
  rw [e2'] at f1
  obtain rfl := Option.some.inj f1
  cases f2
  injection e3 with e3; injection e3 with e3
  have e3 : false = b := e3
  rw [← e3] at e4
  exact absurd (e4.2 rfl) (by decide)
theorem als_inner {nm nm' : String} {N M : Nat} (hK : K T = [.int .i64, .int .i64, .str, .sl T]) {x y i : SE} (h2 : (Fact.rel nm false (pAls K T N M) [x, y, i]).holds γ) (h1 : (Fact.tr (.a2 (.bin .lss) i (.a1 .len x))).holds γ)
    (h0 : (Fact.rel nm' true (pAl K T N) [.a1 (.ld 3) (.a2 .el x i), .a1 (.ld 3) (.a2 .el y i)]).holds γ) : False := by
  obtain ⟨a1, a2, k, c1, c2, sz1, sz2, ss1, ss2, j, g1, g2, g3, g4, g5, g6, g7, g8, g9, g10⟩ := als_vals h2
  have hj := tr_lss h1 g3 (j1y g1)
  obtain ⟨p, rfl⟩ := Int.eq_ofNat_of_zero_le g8
  obtain ⟨x1, y1, s1, a1', k1', c1', z1', t1, c10, c11, c12, c13, l11, l12, l13, l14⟩ := j5a hK g1 g3 g4 (by omega)
  obtain ⟨x2, y2, s2, a2', k2', c2', z2', t2, c20, c21, c22, c23, l21, l22, l23, l24⟩ := j5a hK g2 g3 g5 (by omega)
  have e1 := c13
  have e2' := c23
  rw [elem_at hK g1 g3 g4 (by omega)] at e1
  rw [elem_at hK g2 g3 g5 (by omega)] at e2'
  obtain ⟨z, f1, f2⟩ := g6.get e1
  rw [e2'] at f1
  obtain rfl := Option.some.inj f1
  have hm := mszL_mono_take (l := ss1) (a := (p + 1) * 4) (b := ss1.length) (by omega)
  rw [List.take_length] at hm
  cases f2 with
  | sl _ _ _ _ _ _ _ _ _ _ _ h3 =>
    exact h0 ⟨_, seL2 c13 c23, _, _, _, _, _, _, _, _, _, rfl, l11, l21, h3, by omega⟩
theorem als_next {nm nm' : String} {N M : Nat} (hK : K T = [.int .i64, .int .i64, .str, .sl T]) (hN : N ≤ 1073741824) {x y i : SE} (h2 : (Fact.rel nm false (pAls K T N (M + 1)) [x, y, i]).holds γ) (h1 : (Fact.tr (.a2 (.bin .lss) i (.a1 .len x))).holds γ)
    (h0 : (Fact.rel nm' true (pAls K T N M) [x, y, .a2 (.bin .add) i (.int .i64 (.ofNat 1))]).holds γ) : False := by
  obtain ⟨a1, a2, k, c1, c2, sz1, sz2, ss1, ss2, j, g1, g2, g3, g4, g5, g6, g7, g8, g9, g10⟩ := als_vals h2
  have hj := tr_lss h1 g3 (j1y g1)
  have hk := sl_small hK g4
  have hadd := seG_add (γ := γ) (b := 1) g3 (show seG γ (.int .i64 (.ofNat 1)) = _ from rfl) (by omega) (by omega)
  exact h0 ⟨_, seL3 g1 g2 hadd, a1, a2, k, c1, c2, sz1, sz2, ss1, ss2, j + 1, rfl, g4, g5, g6, g7, by omega, by omega, by omega⟩
theorem als_tr {nm nm' : String} {N M : Nat} {x y i : SE} (h1 : (Fact.rel nm false (pAls K T N M) [x, y, i]).holds γ) (h0 : (Fact.rel nm' true pTr [.a2 (.bin .eql) (.a1 .len x) (.a1 .len y)]).holds γ) : False := by
  obtain ⟨a1, a2, k, c1, c2, sz1, sz2, ss1, ss2, j, g1, g2, -⟩ := als_vals h1
  refine h0 (rel_tr.2 ?_)
  rw [seG_cmp (b := (k : Int)) rfl (j1y g1) (j1y g2)]
  show some (Dt.val (.bool (decide ((k : Int) = k)))) = _
  rw [decide_eq_true rfl]
theorem al_tr {nm nm' : String} {N : Nat} {x y : SE} (h1 : (Fact.rel nm false (pAl K T N) [x, y]).holds γ) (h0 : (Fact.rel nm' true pTr [.a2 (.bin .eql) (.a1 .len x) (.a1 .len y)]).holds γ) : False := by
  obtain ⟨a1, a2, k, c1, c2, sz1, sz2, ss1, ss2, g1, g2, -⟩ := al_vals h1
  refine h0 (rel_tr.2 ?_)
  rw [seG_cmp (b := (k : Int)) rfl (j1y g1) (j1y g2)]
  show some (Dt.val (.bool (decide ((k : Int) = k)))) = _
  rw [decide_eq_true rfl]
theorem als_in {nm nm' : String} {N M : Nat} (hK : K T = [.int .i64, .int .i64, .str, .sl T]) (hN : N ≤ 1073741824) {x y i : SE} (h2 : (Fact.rel nm false (pAls K T N M) [x, y, i]).holds γ) (h1 : (Fact.tr (.a2 (.bin .lss) i (.a1 .len x))).holds γ)
    (h0 : (Fact.rel nm' true pIn [.a2 (.bin .add) i (.int .i64 (.ofNat 1)), .int .i64 (.ofNat 1073741825)]).holds γ) : False := by
  obtain ⟨a1, a2, k, c1, c2, sz1, sz2, ss1, ss2, j, g1, g2, g3, g4, g5, g6, g7, g8, g9, g10⟩ := als_vals h2
  have hj := tr_lss h1 g3 (j1y g1)
  have hk := sl_small hK g4
  have hadd := seG_add (γ := γ) (b := 1) g3 (show seG γ (.int .i64 (.ofNat 1)) = _ from rfl) (by omega) (by omega)
  exact h0 (rel_in.2 (show ∃ (k : IntKind) (a m : Int), seG γ _ = some (.val (.int k a)) ∧ seG γ _ = some (.val (.int .i64 m)) ∧ 0 ≤ a ∧ a < m from ⟨_, j + 1, 1073741825, hadd, rfl, by omega, by omega⟩))
theorem in_zero {nm' : String} (h0 : (Fact.rel nm' true pIn [.int .i64 (.ofNat 0), .int .i64 (.ofNat 1073741825)]).holds γ) : False :=
  h0 (rel_in.2 (show ∃ (k : IntKind) (a m : Int), seG γ _ = some (.val (.int k a)) ∧ seG γ _ = some (.val (.int .i64 m)) ∧ 0 ≤ a ∧ a < m from ⟨_, 0, 1073741825, rfl, rfl, by decide, by decide⟩))
end
end Go.Proofs.YtkgnlfmfenmihaaGreatDoor.Abs

namespace Go.Proofs.YtkgnlfmfenmihaaGreatDoor.Abs
open Go
def j0m (k n : Int) (s l : Nat) : Prop :=
  (k = 1 ∧ -576460752303423488 ≤ n ∧ n ≤ 576460752303423487 ∧ s = 0 ∧ l = 0) ∨ (k = 2 ∧ n = 0 ∧ s ≤ 64 ∧ l = 0) ∨ ((k = 3 ∨ k = 4 ∨ k = 6) ∧ 0 ≤ n ∧ n ≤ 1073741824 ∧ s = 0 ∧ l = 0) ∨ (k = 5 ∧ 0 ≤ n ∧ n ≤ 1073741824 ∧ s = 0 ∧ l ≤ 64) ∨
  (k = 7 ∧ n = 0 ∧ s = 0 ∧ l ≤ 64) ∨ (k = 8 ∧ n = 0 ∧ s = 0 ∧ l = 0) ∨ (k = 9 ∧ n = 0 ∧ s = 0 ∧ l = 2)
inductive SndT : Dt → Dt → Dt → Dt → Prop
  | mk (k n : Int) (s : ByteArray) (a : Option Addr) (l c : Nat) (t : TypeId) (sz : Nat) (es : List Dt) : j0m k n s.size l →
    (∀ i d0 d1 d2 d3, es[i * 4]? = some d0 → es[i * 4 + 1]? = some d1 → es[i * 4 + 2]? = some d2 → es[i * 4 + 3]? = some d3 → SndT d0 d1 d2 d3) →
    SndT (.val (.int .i64 k)) (.val (.int .i64 n)) (.val (.string s)) (.sl (.slice a l c) t sz es)
def SndL (es : List Dt) : Prop := ∀ i d0 d1 d2 d3, es[i * 4]? = some d0 → es[i * 4 + 1]? = some d1 → es[i * 4 + 2]? = some d2 → es[i * 4 + 3]? = some d3 → SndT d0 d1 d2 d3
theorem SndL.nil : SndL [] := fun i d0 d1 d2 d3 h => by simp at h
theorem SndL.left {a b : List Dt} (h : SndL (a ++ b)) : SndL a := fun i d0 d1 d2 d3 h0 h1 h2 h3 => by
  have e : ∀ {j d}, a[j]? = some d → (a ++ b)[j]? = some d := fun {j d} hj => by
    rw [List.getElem?_append_left (List.getElem?_eq_some_iff.1 hj).1]; exact hj
  exact h i d0 d1 d2 d3 (e h0) (e h1) (e h2) (e h3)
theorem SndL.right {a b : List Dt} {m : Nat} (ha : a.length = m * 4) (h : SndL (a ++ b)) : SndL b := fun i d0 d1 d2 d3 h0 h1 h2 h3 => by
  have e : ∀ {j d}, b[j]? = some d → (a ++ b)[m * 4 + j]? = some d := fun {j d} hj => by
    rw [List.getElem?_append_right (by omega)]
    rw [show m * 4 + j - a.length = j by omega]
    exact hj
  refine h (m + i) d0 d1 d2 d3 ?_ ?_ ?_ ?_
  · rw [show (m + i) * 4 = m * 4 + i * 4 by omega]; exact e h0
  · rw [show (m + i) * 4 + 1 = m * 4 + (i * 4 + 1) by omega]; exact e h1
  · rw [show (m + i) * 4 + 2 = m * 4 + (i * 4 + 2) by omega]; exact e h2
  · rw [show (m + i) * 4 + 3 = m * 4 + (i * 4 + 3) by omega]; exact e h3
theorem SndL.append {a b : List Dt} {m : Nat} (ha : a.length = m * 4) (h1 : SndL a) (h2 : SndL b) : SndL (a ++ b) := fun i d0 d1 d2 d3 e0 e1 e2 e3 => by
  by_cases hi : i < m
  · have e : ∀ {j d}, j < m * 4 → (a ++ b)[j]? = some d → a[j]? = some d := fun {j d} hj h => by
      rw [List.getElem?_append_left (by omega)] at h; exact h
    exact h1 i d0 d1 d2 d3 (e (by omega) e0) (e (by omega) e1) (e (by omega) e2) (e (by omega) e3)
  · have e : ∀ {q d}, (a ++ b)[i * 4 + q]? = some d → b[(i - m) * 4 + q]? = some d := fun {q d} h => by
      rw [List.getElem?_append_right (by omega)] at h
      rw [show (i - m) * 4 + q = i * 4 + q - a.length by omega]
      exact h
    exact h2 (i - m) d0 d1 d2 d3 (e (q := 0) e0) (e e1) (e e2) (e e3)
theorem SndL.iff {a b : List Dt} {m : Nat} (ha : a.length = m * 4) : SndL (a ++ b) ↔ SndL a ∧ SndL b := ⟨fun h => ⟨h.left, h.right ha⟩, fun h => h.1.append ha h.2⟩
theorem SndL.one {d0 d1 d2 d3 : Dt} : SndL [d0, d1, d2, d3] ↔ SndT d0 d1 d2 d3 := by
  refine ⟨fun h => h 0 d0 d1 d2 d3 rfl rfl rfl rfl, fun h i u0 u1 u2 u3 h0 h1 h2 h3 => ?_⟩
  cases i with
  | zero =>
    simp only [Nat.zero_mul, Nat.zero_add, List.getElem?_cons_zero, List.getElem?_cons_succ, Option.some.injEq] at h0 h1 h2 h3
    subst h0; subst h1; subst h2; subst h3
    exact h
  | succ i =>
    rw [List.getElem?_eq_none (by simp only [List.length_cons, List.length_nil]; omega)] at h0
    cases h0
theorem SndT.iff {k n : Int} {s : ByteArray} {a : Option Addr} {l c : Nat} {t : TypeId} {sz : Nat} {es : List Dt} : SndT (.val (.int .i64 k)) (.val (.int .i64 n)) (.val (.string s)) (.sl (.slice a l c) t sz es) ↔ j0m k n s.size l ∧ SndL es := by
  refine ⟨fun h => ?_, fun h => .mk _ _ _ _ _ _ _ _ _ h.1 h.2⟩
  cases h with
  | mk _ _ _ _ _ _ _ _ _ h1 h2 => exact ⟨h1, h2⟩
theorem SndT.alike : ∀ {d0 d1 d2 d3 : Dt}, SndT d0 d1 d2 d3 → ∀ {u0 u1 u2 u3 : Dt}, Alike d0 u0 → Alike d1 u1 → Alike d2 u2 → Alike d3 u3 → SndT u0 u1 u2 u3
  | _, _, _, _, .mk k n s a l c t sz es h1 h2, _, _, _, _, a0, a1, a2, a3 => by
    cases a0; cases a1; cases a2
    cases a3 with
    | sl _ a' _ _ c' _ t' _ sz' _ es' h3 =>
      refine .mk k n s a' l c' t' sz' es' h1 fun i u0 u1 u2 u3 e0 e1 e2 e3 => ?_
      have back : ∀ {j y}, es'[j]? = some y → ∃ x, es[j]? = some x ∧ Alike x y := fun {j y} hj => by
        have hlt : j < es.length := by rw [h3.length]; exact (List.getElem?_eq_some_iff.1 hj).1
        obtain ⟨z, hz, ha⟩ := h3.get (List.getElem?_eq_getElem hlt)
        rw [hj] at hz
        obtain rfl := Option.some.inj hz
        exact ⟨_, List.getElem?_eq_getElem hlt, ha⟩
      obtain ⟨x0, f0, b0⟩ := back e0
      obtain ⟨x1, f1, b1⟩ := back e1
      obtain ⟨x2, f2, b2⟩ := back e2
      obtain ⟨x3, f3, b3⟩ := back e3
      exact (h2 i x0 x1 x2 x3 f0 f1 f2 f3).alike b0 b1 b2 b3
section
variable (K : TypeId → List Kd) (T : TypeId)
def pApp (l : List Dt) : Prop := ∃ (m' m : Nat) (es' es : List Dt) (a : Option Addr) (k c sz : Nat) (ss : List Dt) (j : Int), l = [.val (.int .i64 (.ofNat m')), .ls (K T) es', .val (.int .i64 (.ofNat m)), .ls (K T) es, .sl (.slice a k c) T sz ss, .val (.int .i64 j)] ∧
  (SndL (es'.take (m' * 4)) ↔ SndL (es.take (m * 4)) ∧ SndL (ss.take ((j + 1).toNat * 4))) ∧ mszL (es'.take (m' * 4)) = mszL (es.take (m * 4)) + mszL (ss.take ((j + 1).toNat * 4))
def pSnd (l : List Dt) : Prop := ∃ (m : Nat) (es : List Dt), l = [.val (.int .i64 (.ofNat m)), .ls (K T) es] ∧ SndL (es.take (m * 4))
end
section
variable {K : TypeId → List Kd} {T : TypeId} {γ : G}
theorem seL_six {x1 x2 x3 x4 x5 x6 : SE} {l : List Dt} (h : seL γ [x1, x2, x3, x4, x5, x6] = some l) : ∃ a b c d e f, l = [a, b, c, d, e, f] ∧ seG γ x1 = some a ∧ seG γ x2 = some b ∧ seG γ x3 = some c ∧ seG γ x4 = some d ∧ seG γ x5 = some e ∧ seG γ x6 = some f := by
  simp only [seL, Option.bind_eq_some_iff, Option.map_eq_some_iff] at h
  obtain ⟨a, ha, q, ⟨b, hb, r, ⟨c, hc, u, ⟨d, hd, v, ⟨e, he, w, ⟨f, hf, z, hz, rfl⟩, rfl⟩, rfl⟩, rfl⟩, rfl⟩, rfl⟩ := h
  obtain rfl := Option.some.inj hz
  exact ⟨a, b, c, d, e, f, rfl, ha, hb, hc, hd, he, hf⟩
theorem seL6 {x1 x2 x3 x4 x5 x6 : SE} {a b c d e f : Dt} (h1 : seG γ x1 = some a) (h2 : seG γ x2 = some b) (h3 : seG γ x3 = some c) (h4 : seG γ x4 = some d) (h5 : seG γ x5 = some e) (h6 : seG γ x6 = some f) : seL γ [x1, x2, x3, x4, x5, x6] = some [a, b, c, d, e, f] := by simp [seL, h1, h2, h3, h4, h5, h6]
theorem app_vals {nm : String} {n' e' n e s i : SE} (h : (Fact.rel nm false (pApp K T) [n', e', n, e, s, i]).holds γ) : ∃ (m' m : Nat) (es' es : List Dt) (a : Option Addr) (k c sz : Nat) (ss : List Dt) (j : Int),
    seG γ n' = some (.val (.int .i64 (.ofNat m'))) ∧ seG γ e' = some (.ls (K T) es') ∧ seG γ n = some (.val (.int .i64 (.ofNat m))) ∧ seG γ e = some (.ls (K T) es) ∧ seG γ s = some (.sl (.slice a k c) T sz ss) ∧ seG γ i = some (.val (.int .i64 j)) ∧
    (SndL (es'.take (m' * 4)) ↔ SndL (es.take (m * 4)) ∧ SndL (ss.take ((j + 1).toNat * 4))) ∧ mszL (es'.take (m' * 4)) = mszL (es.take (m * 4)) + mszL (ss.take ((j + 1).toNat * 4)) := by
  obtain ⟨l, hl, m', m, es', es, a, k, c, sz, ss, j, rfl, h1⟩ := h
  obtain ⟨d1, d2, d3, d4, d5, d6, e1, g1, g2, g3, g4, g5, g6⟩ := seL_six hl
  injection e1 with q1 e1; injection e1 with q2 e1; injection e1 with q3 e1; injection e1 with q4 e1; injection e1 with q5 e1; injection e1 with q6 _
  subst q1; subst q2; subst q3; subst q4; subst q5; subst q6
  exact ⟨m', m, es', es, a, k, c, sz, ss, j, g1, g2, g3, g4, g5, g6, h1⟩
theorem back_step {nm : String} {N M : Nat} (hK : K T = [.int .i64, .int .i64, .str, .sl T]) (hM : M ≤ 1073741824) {n e s i : SE} (h2 : (Fact.rel nm false (j4k K T (N + 1) M) [n, e, s, i]).holds γ) (h1 : (Fact.tr (.a2 (.bin .geq) i (.int .i64 (.ofNat 0)))).holds γ) :
    ∃ (m : Nat) (es : List Dt) (a : Option Addr) (k c sz : Nat) (ss : List Dt) (p : Nat) (d0 d1 d2 d3 : Dt), seG γ n = some (.val (.int .i64 (.ofNat m))) ∧ seG γ e = some (.ls (K T) es) ∧ seG γ s = some (.sl (.slice a k c) T sz ss) ∧ seG γ i = some (.val (.int .i64 (p : Int))) ∧ m * 4 ≤ es.length ∧
      seG γ (.a2 (.bin .add) n (.int .i64 (.ofNat 1))) = some (.val (.int .i64 (.ofNat (m + 1)))) ∧
      seG γ (.a2 .sn (.a2 .sn (.a2 .sn (.a2 .sn (.a2 (.tk 4) e n) (.a1 (.ld 0) (.a2 .el s i))) (.a1 (.ld 1) (.a2 .el s i))) (.a1 (.ld 2) (.a2 .el s i))) (.a1 (.ld 3) (.a2 .el s i))) = some (.ls (K T) (es.take (m * 4) ++ [d0, d1, d2, d3])) ∧
      seG γ (.a2 (.bin .sub) i (.int .i64 (.ofNat 1))) = some (.val (.int .i64 ((p : Int) - 1))) ∧ ss.take ((p + 1) * 4) = ss.take (p * 4) ++ [d0, d1, d2, d3] ∧ (p + 1) * 4 ≤ ss.length := by
  obtain ⟨m, es, a, k, c, sz, ss, j, g1, g2, g3, g4, g5, g6, g7, g9, g10, g11, g12⟩ := back_vals h2
  have hj : 0 ≤ j := tr_geq h1 g4
  obtain ⟨p, rfl⟩ := Int.eq_ofNat_of_zero_le hj
  have hp : p < k := by omega
  have hl4 : (K T).length = 4 := by rw [hK]; rfl
  obtain ⟨x, y, str, a', k', c', sz', ss', c0, c1, c2, c3, l1, l2, l3, l4⟩ := j5a hK g3 g4 g7 hp
  have ht := elem_take hK g3 g4 g7 hp c0 c1 c2 c3
  have h4 := len4 g5
  have hp1 : ((p : Int) + 1).toNat = p + 1 := by omega
  rw [hp1] at g12
  have htk : seG γ (.a2 (.tk 4) e n) = some (.ls (K T) (es.take (m * 4))) := by
    simp only [seG, g2, g1, Option.bind_some, Go.Proofs.YtkgnlfmfenmihaaGreatDoor.Abs.e2]
    rw [if_pos g5]
  have hlen : (es.take (m * 4)).length = m * 4 := by rw [List.length_take]; omega
  have k0 : (K T)[0]? = some (.int .i64) := by rw [hK]; rfl
  have k1 : (K T)[1]? = some (.int .i64) := by rw [hK]; rfl
  have k2 : (K T)[2]? = some .str := by rw [hK]; rfl
  have k3 : (K T)[3]? = some (.sl T) := by rw [hK]; rfl
  have s0 := j2d htk c0 (q := .int .i64) (by rw [hlen, hl4, Nat.mul_mod_left]; exact k0) ⟨_, rfl⟩
  have s1 := j2d s0 c1 (q := .int .i64) (by rw [List.length_append, hlen, hl4, List.length_singleton, Nat.mul_add_mod_of_lt (by omega)]; exact k1) ⟨_, rfl⟩
  have s2 := j2d s1 c2 (q := .str) (by rw [List.length_append, List.length_append, hlen, hl4, List.length_singleton, List.length_singleton, Nat.add_assoc, Nat.mul_add_mod_of_lt (by omega)]; exact k2) ⟨_, rfl⟩
  have s3 := j2d s2 c3 (q := .sl T) (by rw [List.length_append, List.length_append, List.length_append, hlen, hl4, List.length_singleton, List.length_singleton, List.length_singleton, Nat.add_assoc, Nat.add_assoc, Nat.mul_add_mod_of_lt (by omega)]; exact k3) ⟨_, _, _, _, _, rfl⟩
  rw [List.append_assoc, List.append_assoc, List.append_assoc] at s3
  simp only [List.cons_append, List.nil_append] at s3
  have h5 : (p + 1) * 4 ≤ mszL (ss.take ((p + 1) * 4)) := len4 (by omega)
  have hadd : seG γ (.a2 (.bin .add) n (.int .i64 (.ofNat 1))) = some (.val (.int .i64 (.ofNat (m + 1)))) := seG_add (b := 1) g1 rfl (by simp only [Int.ofNat_eq_natCast]; omega) (by simp only [Int.ofNat_eq_natCast]; omega)
  have hsub : seG γ (.a2 (.bin .sub) i (.int .i64 (.ofNat 1))) = some (.val (.int .i64 ((p : Int) - 1))) := seG_sub (b := 1) g4 rfl (by omega) (by omega)
  exact ⟨m, es, a, k, c, sz, ss, p, _, _, _, _, g1, g2, g3, g4, g5, hadd, s3, hsub, ht, by omega⟩
theorem app_next {nm nm' nm2 : String} {N M : Nat} (hK : K T = [.int .i64, .int .i64, .str, .sl T]) (hM : M ≤ 1073741824) {n e s i n' e' : SE} (h2 : (Fact.rel nm false (j4k K T (N + 1) M) [n, e, s, i]).holds γ) (h1 : (Fact.tr (.a2 (.bin .geq) i (.int .i64 (.ofNat 0)))).holds γ)
    (h3 : (Fact.rel nm2 false (pApp K T) [n', e', .a2 (.bin .add) n (.int .i64 (.ofNat 1)), .a2 .sn (.a2 .sn (.a2 .sn (.a2 .sn (.a2 (.tk 4) e n) (.a1 (.ld 0) (.a2 .el s i))) (.a1 (.ld 1) (.a2 .el s i))) (.a1 (.ld 2) (.a2 .el s i))) (.a1 (.ld 3) (.a2 .el s i)), s, .a2 (.bin .sub) i (.int .i64 (.ofNat 1))]).holds γ)
    (h0 : (Fact.rel nm' true (pApp K T) [n', e', n, e, s, i]).holds γ) : False := by
  obtain ⟨m, es, a, k, c, sz, ss, p, d0, d1, d2, d3, g1, g2, g3, g4, g5, g6, g7, g8, g9, g10⟩ := back_step hK hM h2 h1
  obtain ⟨m', m1, es', es1, a1, k1, c1, sz1, ss1, j1, f1, f2, f3, f4, f5, f6, f7, f8⟩ := app_vals h3
  rw [g6] at f3; rw [g7] at f4; rw [g3] at f5; rw [g8] at f6
  have f3 := Option.some.inj f3; injection f3 with f3; injection f3 with _ f3
  have f4 := Option.some.inj f4; injection f4 with _ f4
  have f5 := Option.some.inj f5; injection f5 with _ _ _ f5
  have f6 := Option.some.inj f6; injection f6 with f6; injection f6 with _ f6
  have f3 : m + 1 = m1 := Int.ofNat.inj f3
  subst f3; subst f4; subst f5; subst f6
  have hlen : (es.take (m * 4)).length = m * 4 := by rw [List.length_take]; omega
  have e1 : ((p : Int) - 1 + 1).toNat = p := by omega
  have e2 : ((p : Int) + 1).toNat = p + 1 := by omega
  have ht : (es.take (m * 4) ++ [d0, d1, d2, d3]).take ((m + 1) * 4) = es.take (m * 4) ++ [d0, d1, d2, d3] := List.take_of_length_le (by rw [List.length_append, hlen]; simp only [List.length_cons, List.length_nil]; omega)
  have hlp : (ss.take (p * 4)).length = p * 4 := by rw [List.length_take]; omega
  rw [e1, ht, SndL.iff hlen] at f7
  rw [e1, ht, j1e] at f8
  refine h0 ⟨_, seL6 f1 f2 g1 g2 g3 g4, m', m, es', es, a, k, c, sz, ss, p, rfl, ?_, ?_⟩
  · rw [e2, g9, SndL.iff hlp, f7]
    exact ⟨fun h => ⟨h.1.1, h.2, h.1.2⟩, fun h => ⟨⟨h.1, h.2.2⟩, h.2.1⟩⟩
  · rw [e2, g9, j1e, f8]
    omega
theorem app_end {nm nm' : String} {N M : Nat} {n e s i : SE} (h2 : (Fact.rel nm false (j4k K T N M) [n, e, s, i]).holds γ) (h1 : (Fact.fl (.a2 (.bin .geq) i (.int .i64 (.ofNat 0)))).holds γ) (h0 : (Fact.rel nm' true (pApp K T) [n, e, n, e, s, i]).holds γ) : False := by
  obtain ⟨m, es, a, k, c, sz, ss, j, g1, g2, g3, g4, g5, g6, g7, g9, g10, g11, g12⟩ := back_vals h2
  have h1 : seG γ _ = _ := h1
  rw [seG_cmp (b := 0) rfl g4 rfl] at h1
  have h1 := Option.some.inj h1
  injection h1 with h1; injection h1 with h1
  have hj := of_decide_eq_false h1
  have e1 : (j + 1).toNat = 0 := by omega
  refine h0 ⟨_, seL6 g1 g2 g1 g2 g3 g4, m, m, es, es, a, k, c, sz, ss, j, rfl, ?_, ?_⟩
  · rw [e1, Nat.zero_mul, List.take_zero]
    exact ⟨fun h => ⟨h, SndL.nil⟩, fun h => h.1⟩
  · rw [e1, Nat.zero_mul, List.take_zero]; simp only [mszL]; omega
theorem top_cells {nm : String} {N : Nat} (hK : K T = [.int .i64, .int .i64, .str, .sl T]) (hN : N + 1 ≤ 1073741824) {n e : SE} (h2 : (Fact.rel nm false (j0q K T (N + 1)) [n, e]).holds γ) (h1 : (Fact.tr (.a2 (.bin .gtr) n (.int .i64 (.ofNat 0)))).holds γ) :
    ∃ (m : Nat) (es : List Dt) (k nn : Int) (str : ByteArray) (a : Option Addr) (l c sz : Nat) (ss : List Dt), seG γ n = some (.val (.int .i64 (.ofNat (m + 1)))) ∧ seG γ e = some (.ls (K T) es) ∧ (m + 1) * 4 ≤ es.length ∧ seG γ (.a2 (.bin .sub) n (.int .i64 (.ofNat 1))) = some (.val (.int .i64 (.ofNat m))) ∧
      seG γ (.a2 (.at 4 0) e (.a2 (.bin .sub) n (.int .i64 (.ofNat 1)))) = some (.val (.int .i64 k)) ∧ seG γ (.a2 (.at 4 1) e (.a2 (.bin .sub) n (.int .i64 (.ofNat 1)))) = some (.val (.int .i64 nn)) ∧ seG γ (.a2 (.at 4 2) e (.a2 (.bin .sub) n (.int .i64 (.ofNat 1)))) = some (.val (.string str)) ∧
      seG γ (.a2 (.at 4 3) e (.a2 (.bin .sub) n (.int .i64 (.ofNat 1)))) = some (.sl (.slice a l c) T sz ss) ∧ SlOf K T a l sz ss ∧ es.take ((m + 1) * 4) = es.take (m * 4) ++ [.val (.int .i64 k), .val (.int .i64 nn), .val (.string str), .sl (.slice a l c) T sz ss] := by
  obtain ⟨k1, es, g1, g2, g3, g4, g5⟩ := left_vals h2
  have hk := tr_gtr h1 g1
  obtain ⟨m, rfl⟩ : ∃ m, k1 = m + 1 := ⟨k1 - 1, by simp only [Int.ofNat_eq_natCast] at hk; omega⟩
  have h4 := len4 g3
  have hsub : seG γ (.a2 (.bin .sub) n (.int .i64 (.ofNat 1))) = some (.val (.int .i64 (.ofNat m))) := by
    rw [seG_sub (b := 1) g1 rfl (by simp only [Int.ofNat_eq_natCast]; omega) (by simp only [Int.ofNat_eq_natCast]; omega)]
    simp only [Int.ofNat_eq_natCast, Int.natCast_add, Int.natCast_one, Int.add_sub_cancel]
  obtain ⟨x, y, str, a, l, c, sz, ss, c0, c1, c2, c3, l1, l2⟩ := term_cells hK g4 (n := m) (by omega)
  have hat : ∀ q, seG γ (.a2 (.at 4 q) e (.a2 (.bin .sub) n (.int .i64 (.ofNat 1)))) = es[m * 4 + q]? := fun q => by
    show (seG γ e).bind _ = _
    rw [g2, Option.bind_some, hsub]; rfl
  obtain ⟨u0, u1, u2, u3, q0, q1, q2, q3, qt⟩ := take_four (l := es) (n := m) (by omega)
  have e0 := Option.some.inj (c0.symm.trans q0)
  have e1 := Option.some.inj (c1.symm.trans q1)
  have e2' := Option.some.inj (c2.symm.trans q2)
  have e3' := Option.some.inj (c3.symm.trans q3)
  exact ⟨m, es, x, y, str, a, l, c, sz, ss, g1, g2, g3, hsub, (hat 0).trans c0, (hat 1).trans c1, (hat 2).trans c2, (hat 3).trans c3, l1, by rw [qt, ← e0, ← e1, ← e2', ← e3']⟩
theorem snd_vals {nm : String} {n e : SE} (h : (Fact.rel nm false (pSnd K T) [n, e]).holds γ) : ∃ (m : Nat) (es : List Dt), seG γ n = some (.val (.int .i64 (.ofNat m))) ∧ seG γ e = some (.ls (K T) es) ∧ SndL (es.take (m * 4)) := by
  obtain ⟨l, hl, m, es, rfl, h1⟩ := h
  obtain ⟨d1, d2, e1, e2, e3⟩ := seL_two hl
  injection e1 with q1 e1; injection e1 with q2 _
  subst q1; subst q2
  exact ⟨m, es, e2, e3, h1⟩
theorem top_app {nm nm2 : String} {N : Nat} (hK : K T = [.int .i64, .int .i64, .str, .sl T]) (hN : N + 1 ≤ 1073741824) {n e n' e' : SE} (h2 : (Fact.rel nm false (j0q K T (N + 1)) [n, e]).holds γ) (h1 : (Fact.tr (.a2 (.bin .gtr) n (.int .i64 (.ofNat 0)))).holds γ)
    (h3 : (Fact.rel nm2 false (pApp K T) [n', e', .a2 (.bin .sub) n (.int .i64 (.ofNat 1)), e, .a2 (.at 4 3) e (.a2 (.bin .sub) n (.int .i64 (.ofNat 1))), .a2 (.bin .sub) (.a1 .len (.a2 (.at 4 3) e (.a2 (.bin .sub) n (.int .i64 (.ofNat 1))))) (.int .i64 (.ofNat 1))]).holds γ) :
    ∃ (m m' : Nat) (es es' : List Dt) (k nn : Int) (str : ByteArray) (l : Nat) (ss : List Dt), seG γ n = some (.val (.int .i64 (.ofNat (m + 1)))) ∧ seG γ e = some (.ls (K T) es) ∧ seG γ n' = some (.val (.int .i64 (.ofNat m'))) ∧ seG γ e' = some (.ls (K T) es') ∧
      seG γ (.a2 (.at 4 0) e (.a2 (.bin .sub) n (.int .i64 (.ofNat 1)))) = some (.val (.int .i64 k)) ∧ seG γ (.a2 (.at 4 1) e (.a2 (.bin .sub) n (.int .i64 (.ofNat 1)))) = some (.val (.int .i64 nn)) ∧ seG γ (.a2 (.at 4 2) e (.a2 (.bin .sub) n (.int .i64 (.ofNat 1)))) = some (.val (.string str)) ∧
      seG γ (.a1 .len (.a2 (.at 4 3) e (.a2 (.bin .sub) n (.int .i64 (.ofNat 1))))) = some (.val (.int .i64 l)) ∧
      (SndL (es.take ((m + 1) * 4)) ↔ SndL (es'.take (m' * 4)) ∧ j0m k nn str.size l) ∧ mszL (es.take ((m + 1) * 4)) = mszL (es'.take (m' * 4)) + 4 := by
  obtain ⟨m, es, k, nn, str, a, l, c, sz, ss, g1, g2, g3, g4, g5, g6, g7, g8, g9, g10⟩ := top_cells hK hN h2 h1
  obtain ⟨m', m1, es', es1, a1, k1, c1, sz1, ss1, j1, f1, f2, f3, f4, f5, f6, f7, f8⟩ := app_vals h3
  have hk := sl_small hK g9
  obtain ⟨kl, esl, p1, p2, p3, p4, p5⟩ := left_vals h2
  rw [g1] at p1; rw [g2] at p2
  have p1 := Option.some.inj p1; injection p1 with p1; injection p1 with _ p1
  have p2 := Option.some.inj p2; injection p2 with _ p2
  have p1 : m + 1 = kl := Int.ofNat.inj p1
  subst p1; subst p2
  rw [g10, j1e] at p5
  simp only [mszL, msz] at p5
  have hsub : seG γ (.a2 (.bin .sub) (.a1 .len (.a2 (.at 4 3) e (.a2 (.bin .sub) n (.int .i64 (.ofNat 1))))) (.int .i64 (.ofNat 1))) = some (.val (.int .i64 ((l : Int) - 1))) := seG_sub (b := 1) (j1y g8) rfl (by omega) (by omega)
  rw [g4] at f3; rw [g2] at f4; rw [g8] at f5; rw [hsub] at f6
  have f3 := Option.some.inj f3; injection f3 with f3; injection f3 with _ f3
  have f4 := Option.some.inj f4; injection f4 with _ f4
  have f5 := Option.some.inj f5; injection f5 with _ _ _ f5
  have f6 := Option.some.inj f6; injection f6 with f6; injection f6 with _ f6
  have f3 : m = m1 := Int.ofNat.inj f3
  subst f3; subst f4; subst f5; subst f6
  have e1 : ((l : Int) - 1 + 1).toNat = l := by omega
  have hl4 : (K T).length = 4 := by rw [hK]; rfl
  have hss := g9.1
  rw [hl4] at hss
  rw [e1, List.take_of_length_le (show ss.length ≤ l * 4 by omega)] at f7 f8
  have hlen : (es.take (m * 4)).length = m * 4 := by rw [List.length_take]; omega
  refine ⟨m, m', es, es', k, nn, str, l, ss, g1, g2, f1, f2, g5, g6, g7, j1y g8, ?_, ?_⟩
  · rw [g10, SndL.iff hlen, SndL.one, SndT.iff, f7]
    exact ⟨fun h => ⟨⟨h.1, h.2.2⟩, h.2.1⟩, fun h => ⟨h.1.1, h.2, h.1.2⟩⟩
  · rw [g10, j1e, f8]
    simp only [mszL, msz]
    omega
theorem j1j {nm nm2 nm3 nm' : String} {N : Nat} (hK : K T = [.int .i64, .int .i64, .str, .sl T]) (hN : N + 1 ≤ 1073741824) {n e n' e' : SE} (h2 : (Fact.rel nm false (j0q K T (N + 1)) [n, e]).holds γ) (h1 : (Fact.tr (.a2 (.bin .gtr) n (.int .i64 (.ofNat 0)))).holds γ)
    (h3 : (Fact.rel nm2 false (pApp K T) [n', e', .a2 (.bin .sub) n (.int .i64 (.ofNat 1)), e, .a2 (.at 4 3) e (.a2 (.bin .sub) n (.int .i64 (.ofNat 1))), .a2 (.bin .sub) (.a1 .len (.a2 (.at 4 3) e (.a2 (.bin .sub) n (.int .i64 (.ofNat 1))))) (.int .i64 (.ofNat 1))]).holds γ)
    (h4 : (Fact.rel nm3 false (pSnd K T) [n', e']).holds γ)
    (hc : ∀ (k nn : Int) (str : ByteArray) (l : Nat), seG γ (.a2 (.at 4 0) e (.a2 (.bin .sub) n (.int .i64 (.ofNat 1)))) = some (.val (.int .i64 k)) → seG γ (.a2 (.at 4 1) e (.a2 (.bin .sub) n (.int .i64 (.ofNat 1)))) = some (.val (.int .i64 nn)) → seG γ (.a2 (.at 4 2) e (.a2 (.bin .sub) n (.int .i64 (.ofNat 1)))) = some (.val (.string str)) →
      seG γ (.a1 .len (.a2 (.at 4 3) e (.a2 (.bin .sub) n (.int .i64 (.ofNat 1))))) = some (.val (.int .i64 l)) → j0m k nn str.size l)
    (h0 : (Fact.rel nm' true (pSnd K T) [n, e]).holds γ) : False := by
  obtain ⟨m, m', es, es', k, nn, str, l, ss, g1, g2, g3, g4, g5, g6, g7, g8, g9, -⟩ := top_app hK hN h2 h1 h3
  obtain ⟨m2, es2, f1, f2, f3⟩ := snd_vals h4
  rw [g3] at f1; rw [g4] at f2
  have f1 := Option.some.inj f1; injection f1 with f1; injection f1 with _ f1
  have f2 := Option.some.inj f2; injection f2 with _ f2
  have f1 : m' = m2 := Int.ofNat.inj f1
  subst f1; subst f2
  exact h0 ⟨_, seL2 g1 g2, m + 1, es, rfl, g9.2 ⟨f3, hc k nn str l g5 g6 g7 g8⟩⟩
theorem snd_end {nm nm' : String} {N : Nat} {n e : SE} (h2 : (Fact.rel nm false (j0q K T N) [n, e]).holds γ) (h1 : (Fact.fl (.a2 (.bin .gtr) n (.int .i64 (.ofNat 0)))).holds γ) (h0 : (Fact.rel nm' true (pSnd K T) [n, e]).holds γ) : False := by
  obtain ⟨k1, es, g1, g2, g3, g4, g5⟩ := left_vals h2
  have h1 : seG γ _ = _ := h1
  rw [seG_cmp (b := 0) rfl g1 rfl] at h1
  have h1 := Option.some.inj h1
  injection h1 with h1; injection h1 with h1
  have hj := of_decide_eq_false h1
  simp only [Int.ofNat_eq_natCast] at hj
  obtain rfl : k1 = 0 := by omega
  exact h0 ⟨_, seL2 g1 g2, 0, es, rfl, by rw [Nat.zero_mul, List.take_zero]; exact SndL.nil⟩
theorem snds_step {nm nm2 nm3 nm' : String} {N : Nat} (hK : K T = [.int .i64, .int .i64, .str, .sl T]) (hN : N + 1 ≤ 1073741824) {n e n' e' : SE} (h2 : (Fact.rel nm false (j0q K T (N + 1)) [n, e]).holds γ) (h1 : (Fact.tr (.a2 (.bin .gtr) n (.int .i64 (.ofNat 0)))).holds γ)
    (h3 : (Fact.rel nm2 false (pApp K T) [n', e', .a2 (.bin .sub) n (.int .i64 (.ofNat 1)), e, .a2 (.at 4 3) e (.a2 (.bin .sub) n (.int .i64 (.ofNat 1))), .a2 (.bin .sub) (.a1 .len (.a2 (.at 4 3) e (.a2 (.bin .sub) n (.int .i64 (.ofNat 1))))) (.int .i64 (.ofNat 1))]).holds γ)
    (h4 : (Fact.rel nm3 false (pSnd K T) [n, e]).holds γ) (h0 : (Fact.rel nm' true (pSnd K T) [n', e']).holds γ) : False := by
  obtain ⟨m, m', es, es', k, nn, str, l, ss, g1, g2, g3, g4, g5, g6, g7, g8, g9, -⟩ := top_app hK hN h2 h1 h3
  obtain ⟨m2, es2, f1, f2, f3⟩ := snd_vals h4
  rw [g1] at f1; rw [g2] at f2
  have f1 := Option.some.inj f1; injection f1 with f1; injection f1 with _ f1
  have f2 := Option.some.inj f2; injection f2 with _ f2
  have f1 : m + 1 = m2 := Int.ofNat.inj f1
  subst f1; subst f2
  exact h0 ⟨_, seL2 g3 g4, m', es', rfl, (g9.1 f3).1⟩
theorem j0u {nm nm3 : String} {N : Nat} (hK : K T = [.int .i64, .int .i64, .str, .sl T]) (hN : N + 1 ≤ 1073741824) {n e : SE} (h2 : (Fact.rel nm false (j0q K T (N + 1)) [n, e]).holds γ) (h1 : (Fact.tr (.a2 (.bin .gtr) n (.int .i64 (.ofNat 0)))).holds γ) (h4 : (Fact.rel nm3 false (pSnd K T) [n, e]).holds γ) :
    ∃ (k nn : Int) (str : ByteArray) (l : Nat), seG γ (.a2 (.at 4 0) e (.a2 (.bin .sub) n (.int .i64 (.ofNat 1)))) = some (.val (.int .i64 k)) ∧ seG γ (.a2 (.at 4 1) e (.a2 (.bin .sub) n (.int .i64 (.ofNat 1)))) = some (.val (.int .i64 nn)) ∧ seG γ (.a2 (.at 4 2) e (.a2 (.bin .sub) n (.int .i64 (.ofNat 1)))) = some (.val (.string str)) ∧
      seG γ (.a1 .len (.a2 (.at 4 3) e (.a2 (.bin .sub) n (.int .i64 (.ofNat 1))))) = some (.val (.int .i64 l)) ∧ j0m k nn str.size l := by
  obtain ⟨m, es, k, nn, str, a, l, c, sz, ss, g1, g2, g3, g4, g5, g6, g7, g8, g9, g10⟩ := top_cells hK hN h2 h1
  obtain ⟨m2, es2, f1, f2, f3⟩ := snd_vals h4
  rw [g1] at f1; rw [g2] at f2
  have f1 := Option.some.inj f1; injection f1 with f1; injection f1 with _ f1
  have f2 := Option.some.inj f2; injection f2 with _ f2
  have f1 : m + 1 = m2 := Int.ofNat.inj f1
  subst f1; subst f2
  have hlen : (es.take (m * 4)).length = m * 4 := by rw [List.length_take]; omega
  rw [g10, SndL.iff hlen, SndL.one, SndT.iff] at f3
  exact ⟨k, nn, str, l, g5, g6, g7, j1y g8, f3.2.1⟩
end
section
variable (K : TypeId → List Kd) (T : TypeId)
def pWrd (l : List Dt) : Prop := ∃ (w : Int) (m : Nat) (es : List Dt), l = [.val (.int .i64 w), .val (.int .i64 (.ofNat m)), .ls (K T) es] ∧ 0 ≤ w ∧ w + mszL (es.take (m * 4)) ≤ 1000000000
def pWrds (l : List Dt) : Prop := ∃ (w' w : Int) (m : Nat) (es : List Dt), l = [.val (.int .i64 w'), .val (.int .i64 w), .val (.int .i64 (.ofNat m)), .ls (K T) es] ∧ w' ≤ w + mszL (es.take (m * 4))
end
section
variable {K : TypeId → List Kd} {T : TypeId} {γ : G}
theorem wrd_vals {nm : String} {w n e : SE} (h : (Fact.rel nm false (pWrd K T) [w, n, e]).holds γ) : ∃ (x : Int) (m : Nat) (es : List Dt), seG γ w = some (.val (.int .i64 x)) ∧ seG γ n = some (.val (.int .i64 (.ofNat m))) ∧ seG γ e = some (.ls (K T) es) ∧ 0 ≤ x ∧ x + mszL (es.take (m * 4)) ≤ 1000000000 := by
  obtain ⟨l, hl, x, m, es, rfl, h1⟩ := h
  obtain ⟨d1, d2, d3, e1, e2, e3, e4⟩ := seL_three hl
  injection e1 with q1 e1; injection e1 with q2 e1; injection e1 with q3 _
  subst q1; subst q2; subst q3
  exact ⟨x, m, es, e2, e3, e4, h1⟩
theorem wrds_vals {nm : String} {w' w n e : SE} (h : (Fact.rel nm false (pWrds K T) [w', w, n, e]).holds γ) : ∃ (x' x : Int) (m : Nat) (es : List Dt), seG γ w' = some (.val (.int .i64 x')) ∧ seG γ w = some (.val (.int .i64 x)) ∧ seG γ n = some (.val (.int .i64 (.ofNat m))) ∧ seG γ e = some (.ls (K T) es) ∧ x' ≤ x + mszL (es.take (m * 4)) := by
  obtain ⟨l, hl, x', x, m, es, rfl, h1⟩ := h
  obtain ⟨d1, d2, d3, d4, e1, e2, e3, e4, e5⟩ := seL_four hl
  injection e1 with q1 e1; injection e1 with q2 e1; injection e1 with q3 e1; injection e1 with q4 _
  subst q1; subst q2; subst q3; subst q4
  exact ⟨x', x, m, es, e2, e3, e4, e5, h1⟩
theorem wrd_next {nm nm2 nm3 nm' : String} {N c : Nat} (hK : K T = [.int .i64, .int .i64, .str, .sl T]) (hN : N + 1 ≤ 1073741824) (hc : c ≤ 4) {w n e n' e' : SE} (h2 : (Fact.rel nm false (j0q K T (N + 1)) [n, e]).holds γ) (h1 : (Fact.tr (.a2 (.bin .gtr) n (.int .i64 (.ofNat 0)))).holds γ)
    (h3 : (Fact.rel nm2 false (pApp K T) [n', e', .a2 (.bin .sub) n (.int .i64 (.ofNat 1)), e, .a2 (.at 4 3) e (.a2 (.bin .sub) n (.int .i64 (.ofNat 1))), .a2 (.bin .sub) (.a1 .len (.a2 (.at 4 3) e (.a2 (.bin .sub) n (.int .i64 (.ofNat 1))))) (.int .i64 (.ofNat 1))]).holds γ)
    (h4 : (Fact.rel nm3 false (pWrd K T) [w, n, e]).holds γ) (h0 : (Fact.rel nm' true (pWrd K T) [.a2 (.bin .add) w (.int .i64 (.ofNat c)), n', e']).holds γ) : False := by
  obtain ⟨m, m', es, es', k, nn, str, l, ss, g1, g2, g3, g4, g5, g6, g7, g8, -, g9⟩ := top_app hK hN h2 h1 h3
  obtain ⟨x, m2, es2, f0, f1, f2, f3, f4⟩ := wrd_vals h4
  rw [g1] at f1; rw [g2] at f2
  have f1 := Option.some.inj f1; injection f1 with f1; injection f1 with _ f1
  have f2 := Option.some.inj f2; injection f2 with _ f2
  have f1 : m + 1 = m2 := Int.ofNat.inj f1
  subst f1; subst f2
  have hadd : seG γ (.a2 (.bin .add) w (.int .i64 (.ofNat c))) = some (.val (.int .i64 (x + c))) := seG_add (b := c) f0 rfl (by omega) (by omega)
  exact h0 ⟨_, seL3 hadd g3 g4, x + c, m', es', rfl, by omega, by omega⟩
theorem wrds_next {nm nm2 nm3 nm4 nm' : String} {N c : Nat} (hK : K T = [.int .i64, .int .i64, .str, .sl T]) (hN : N + 1 ≤ 1073741824) (hc : c ≤ 4) {w w' n e n' e' : SE} (h2 : (Fact.rel nm false (j0q K T (N + 1)) [n, e]).holds γ) (h1 : (Fact.tr (.a2 (.bin .gtr) n (.int .i64 (.ofNat 0)))).holds γ)
    (h3 : (Fact.rel nm2 false (pApp K T) [n', e', .a2 (.bin .sub) n (.int .i64 (.ofNat 1)), e, .a2 (.at 4 3) e (.a2 (.bin .sub) n (.int .i64 (.ofNat 1))), .a2 (.bin .sub) (.a1 .len (.a2 (.at 4 3) e (.a2 (.bin .sub) n (.int .i64 (.ofNat 1))))) (.int .i64 (.ofNat 1))]).holds γ)
    (h4 : (Fact.rel nm3 false (pWrd K T) [w, n, e]).holds γ) (h5 : (Fact.rel nm4 false (pWrds K T) [w', .a2 (.bin .add) w (.int .i64 (.ofNat c)), n', e']).holds γ) (h0 : (Fact.rel nm' true (pWrds K T) [w', w, n, e]).holds γ) : False := by
  obtain ⟨m, m', es, es', k, nn, str, l, ss, g1, g2, g3, g4, g5, g6, g7, g8, -, g9⟩ := top_app hK hN h2 h1 h3
  obtain ⟨x, m2, es2, f0, f1, f2, f3, f4⟩ := wrd_vals h4
  obtain ⟨y', y, m3, es3, p0, p1, p2, p3, p4⟩ := wrds_vals h5
  rw [g1] at f1; rw [g2] at f2; rw [g3] at p2; rw [g4] at p3
  have f1 := Option.some.inj f1; injection f1 with f1; injection f1 with _ f1
  have f2 := Option.some.inj f2; injection f2 with _ f2
  have p2 := Option.some.inj p2; injection p2 with p2; injection p2 with _ p2
  have p3 := Option.some.inj p3; injection p3 with _ p3
  have f1 : m + 1 = m2 := Int.ofNat.inj f1
  have p2 : m' = m3 := Int.ofNat.inj p2
  subst f1; subst f2; subst p2; subst p3
  have hadd : seG γ (.a2 (.bin .add) w (.int .i64 (.ofNat c))) = some (.val (.int .i64 (x + c))) := seG_add (b := c) f0 rfl (by omega) (by omega)
  rw [hadd] at p1
  have p1 := Option.some.inj p1; injection p1 with p1; injection p1 with _ p1
  exact h0 ⟨_, seL4 p0 f0 g1 g2, y', x, m + 1, es, rfl, by omega⟩
theorem wrds_end {nm nm' : String} {w n e : SE} (h4 : (Fact.rel nm false (pWrd K T) [w, n, e]).holds γ) (h0 : (Fact.rel nm' true (pWrds K T) [w, w, n, e]).holds γ) : False := by
  obtain ⟨x, m2, es2, f0, f1, f2, f3, f4⟩ := wrd_vals h4
  exact h0 ⟨_, seL4 f0 f0 f1 f2, x, x, m2, es2, rfl, by omega⟩
theorem c_cmp {op : BinOp} (hop : isCmp0 op = true) {b : Bool} {x : SE} {a c : Int} (h : seG γ (.a2 (.bin op) x (.int .i64 c)) = some (.val (.bool b))) (hx : seG γ x = some (.val (.int .i64 a))) : cmpV op a c = b := by
  have hc : cmpC (.a2 (.bin op) x (.int .i64 c)) = some (op, x, .i64, c) := by
    show (match isCmp0 op with | false => none | true => _) = _
    rw [hop]
  obtain ⟨j, g1, e1⟩ := cmpC_spec hc h
  rw [hx] at g1
  have g1 := Option.some.inj g1
  injection g1 with g1; injection g1 with _ g1
  subst g1
  injection e1 with e1; injection e1 with e1
  exact e1.symm
theorem c_tr_eql {x : SE} {a c : Int} (h : (Fact.tr (.a2 (.bin .eql) x (.int .i64 c))).holds γ) (hx : seG γ x = some (.val (.int .i64 a))) : a = c := of_decide_eq_true (c_cmp (op := .eql) rfl h hx)
theorem c_fl_eql {x : SE} {a c : Int} (h : (Fact.fl (.a2 (.bin .eql) x (.int .i64 c))).holds γ) (hx : seG γ x = some (.val (.int .i64 a))) : a ≠ c := of_decide_eq_false (c_cmp (op := .eql) rfl h hx)
theorem c_tr_leq {x : SE} {a c : Int} (h : (Fact.tr (.a2 (.bin .leq) x (.int .i64 c))).holds γ) (hx : seG γ x = some (.val (.int .i64 a))) : a ≤ c := of_decide_eq_true (c_cmp (op := .leq) rfl h hx)
theorem c_fl_leq {x : SE} {a c : Int} (h : (Fact.fl (.a2 (.bin .leq) x (.int .i64 c))).holds γ) (hx : seG γ x = some (.val (.int .i64 a))) : ¬ a ≤ c := of_decide_eq_false (c_cmp (op := .leq) rfl h hx)
theorem c_tr_geq {x : SE} {a c : Int} (h : (Fact.tr (.a2 (.bin .geq) x (.int .i64 c))).holds γ) (hx : seG γ x = some (.val (.int .i64 a))) : c ≤ a := of_decide_eq_true (c_cmp (op := .geq) rfl h hx)
theorem c_fl_geq {x : SE} {a c : Int} (h : (Fact.fl (.a2 (.bin .geq) x (.int .i64 c))).holds γ) (hx : seG γ x = some (.val (.int .i64 a))) : ¬ c ≤ a := of_decide_eq_false (c_cmp (op := .geq) rfl h hx)
theorem c_tr_gtr {x : SE} {a c : Int} (h : (Fact.tr (.a2 (.bin .gtr) x (.int .i64 c))).holds γ) (hx : seG γ x = some (.val (.int .i64 a))) : c < a := of_decide_eq_true (c_cmp (op := .gtr) rfl h hx)
theorem j0h {x : SE} {s : ByteArray} (h : seG γ x = some (.val (.string s))) : seG γ (.a1 .len x) = some (.val (.int .i64 s.size)) := by
  show (seG γ x).bind _ = _
  rw [h]; rfl
theorem c_str {b : Bool} {x : SE} {s : ByteArray} (h : seG γ (.a2 (.bin .eql) x (.str [])) = some (.val (.bool b))) (hx : seG γ x = some (.val (.string s))) : (b = true ↔ s.size = 0) := by
  obtain ⟨u, v, q, g1, g2, g3, g4⟩ := eqOf_spec (p := true) rfl h
  rw [hx] at g1
  have g1 := Option.some.inj g1; injection g1 with g1
  have g2 := Option.some.inj (show some (Dt.val (.string ⟨⟨[]⟩⟩)) = some _ from g2)
  injection g2 with g2
  subst g1; subst g2
  injection g3 with g3; injection g3 with g3
  have g3 : b = q := g3
  rw [g3, g4]
  constructor
  · intro e; injection e with e; rw [e]; rfl
  · intro e
    have : s = ⟨⟨[]⟩⟩ := by
      cases s with
      | mk d =>
        have hd : d.size = 0 := e
        rw [Array.eq_empty_of_size_eq_zero hd]
    rw [this]
theorem c_tr_str {x : SE} {s : ByteArray} (h : (Fact.tr (.a2 (.bin .eql) x (.str []))).holds γ) (hx : seG γ x = some (.val (.string s))) : s.size = 0 := (c_str h hx).1 rfl
theorem c_fl_str {x : SE} {s : ByteArray} (h : (Fact.fl (.a2 (.bin .eql) x (.str []))).holds γ) (hx : seG γ x = some (.val (.string s))) : s.size ≠ 0 := fun e => by
  have := (c_str h hx).2 e
  cases this
end
end Go.Proofs.YtkgnlfmfenmihaaGreatDoor.Abs

namespace Go.Proofs.YtkgnlfmfenmihaaGreatDoor.Abs
open Go
mutual
theorem Alike.symm : ∀ {x y : Dt}, Alike x y → Alike y x
  | _, _, .val v => .val v
  | _, _, .sl _ _ _ _ _ _ _ _ _ _ _ h => .sl _ _ _ _ _ _ _ _ _ _ _ h.symm
theorem AlikeL.symm : ∀ {a b : List Dt}, AlikeL a b → AlikeL b a
  | _, _, .nil => .nil
  | _, _, .cons _ _ _ _ h1 h2 => .cons _ _ _ _ h1.symm h2.symm
end
mutual
theorem Alike.trans : ∀ {x y z : Dt}, Alike x y → Alike y z → Alike x z
  | _, _, _, .val _, h => h
  | _, _, _, .sl _ _ _ _ _ _ _ _ _ _ _ h, .sl _ _ _ _ _ _ _ _ _ _ _ h' => .sl _ _ _ _ _ _ _ _ _ _ _ (h.trans h')
theorem AlikeL.trans : ∀ {a b c : List Dt}, AlikeL a b → AlikeL b c → AlikeL a c
  | _, _, _, .nil, h => h
  | _, _, _, .cons _ _ _ _ h1 h2, .cons _ _ _ _ h3 h4 => .cons _ _ _ _ (h1.trans h3) (h2.trans h4)
end
def j3a (l : List Dt) : Prop := ∃ a b c d, l = [a, b, c, d] ∧ SndT a b c d
def pAtom (l : List Dt) : Prop := ∃ s : ByteArray, l = [.val (.string s)] ∧ s.size ≤ 64
section
variable {K : TypeId → List Kd} {T : TypeId} {γ : G}
theorem seL_one {x : SE} {l : List Dt} (h : seL γ [x] = some l) : ∃ a, l = [a] ∧ seG γ x = some a := by
  simp only [seL, Option.bind_eq_some_iff, Option.map_eq_some_iff] at h
  obtain ⟨a, ha, q, hq, rfl⟩ := h
  obtain rfl := Option.some.inj hq
  exact ⟨a, rfl, ha⟩
theorem sn_four {nm : String} {B : Nat} (hK : K T = [.int .i64, .int .i64, .str, .sl T]) {x y z t : SE} (h1 : (Fact.rel nm false (j0r K T B) [x, y, z, t]).holds γ) : ∃ (k n : Int) (s : ByteArray) (a : Option Addr) (l c sz : Nat) (ss : List Dt), seG γ x = some (.val (.int .i64 k)) ∧ seG γ y = some (.val (.int .i64 n)) ∧ seG γ z = some (.val (.string s)) ∧ seG γ t = some (.sl (.slice a l c) T sz ss) ∧
    SlOf K T a l sz ss ∧ Dt.wfL K (K T) 0 [.val (.int .i64 k), .val (.int .i64 n), .val (.string s), .sl (.slice a l c) T sz ss] ∧ mszL ss + 4 < B ∧
    seG γ (.a2 .sn (.a2 .sn (.a2 .sn (.a2 .sn (.a1 (.nl [.int .i64, .int .i64, .str, .sl T]) (.bool true)) x) y) z) t) = some (.ls (K T) [.val (.int .i64 k), .val (.int .i64 n), .val (.string s), .sl (.slice a l c) T sz ss]) := by
  obtain ⟨li, hl, -, h2, h3⟩ := h1
  obtain ⟨a, b, c, d, rfl, e1, e2', e3', e4⟩ := seL_four hl
  have hl4 : (K T).length = 4 := by rw [hK]; rfl
  have hnl : seG γ (.a1 (.nl [.int .i64, .int .i64, .str, .sl T]) (.bool true)) = some (.ls (K T) []) := by rw [hK]; rfl
  have kd : ∀ (q : Nat) d', q < 4 → ([a, b, c, d] : List Dt)[q]? = some d' → ∃ k, (K T)[q]? = some k ∧ k.fits d' := by
    intro q d' hq hd
    have := (h2.get hd).1
    rwa [Nat.zero_add, hl4, Nat.mod_eq_of_lt hq] at this
  obtain ⟨k0, q0, f0⟩ := kd 0 a (by omega) rfl
  obtain ⟨k1, q1, f1⟩ := kd 1 b (by omega) rfl
  obtain ⟨k2, q2, f2⟩ := kd 2 c (by omega) rfl
  obtain ⟨k3, q3, f3⟩ := kd 3 d (by omega) rfl
  have s0 := j2d hnl e1 (q := k0) (by rw [hl4]; exact q0) f0
  have s1 := j2d s0 e2' (q := k1) (by rw [hl4]; exact q1) f1
  have s2 := j2d s1 e3' (q := k2) (by rw [hl4]; exact q2) f2
  have s3 := j2d s2 e4 (q := k3) (by rw [hl4]; exact q3) f3
  have hd := (h2.get (i := 3) (d := d) rfl).2
  rw [hK] at q0 q1 q2 q3
  simp only [List.getElem?_cons_zero, List.getElem?_cons_succ, Option.some.injEq] at q0 q1 q2 q3
  subst q0; subst q1; subst q2; subst q3
  obtain ⟨k, rfl⟩ := f0
  obtain ⟨n, rfl⟩ := f1
  obtain ⟨s, rfl⟩ := f2
  obtain ⟨a', l, c', sz, ss, rfl, g1⟩ := slT_spec f3 hd
  simp only [mszL, msz] at h3
  exact ⟨k, n, s, a', l, c', sz, ss, e1, e2', e3', e4, g1, h2, by omega, s3⟩
theorem check_sound {nm nm2 nm' : String} {B : Nat} (hK : K T = [.int .i64, .int .i64, .str, .sl T]) {x y z t : SE} (h1 : (Fact.rel nm false (j0r K T B) [x, y, z, t]).holds γ)
    (h2 : (Fact.rel nm2 false (pSnd K T) [.int .i64 (.ofNat 1), .a2 .sn (.a2 .sn (.a2 .sn (.a2 .sn (.a1 (.nl [.int .i64, .int .i64, .str, .sl T]) (.bool true)) x) y) z) t]).holds γ) (h0 : (Fact.rel nm' true j3a [x, y, z, t]).holds γ) : False := by
  obtain ⟨k, n, s, a, l, c, sz, ss, e1, e2', e3', e4, g1, g2, g3, g4⟩ := sn_four hK h1
  obtain ⟨m, es, f1, f2, f3⟩ := snd_vals h2
  rw [g4] at f2
  have f2 := Option.some.inj f2; injection f2 with _ f2
  have f1 := Option.some.inj (show some (Dt.val (.int .i64 (.ofNat 1))) = some _ from f1)
  injection f1 with f1; injection f1 with _ f1
  have f1 : 1 = m := Int.ofNat.inj f1
  subst f1; subst f2
  exact h0 ⟨_, seL4 e1 e2' e3' e4, _, _, _, _, rfl, SndL.one.1 f3⟩
theorem sound_vals {nm : String} {x y z t : SE} (h : (Fact.rel nm false j3a [x, y, z, t]).holds γ) : ∃ a b c d, seG γ x = some a ∧ seG γ y = some b ∧ seG γ z = some c ∧ seG γ t = some d ∧ SndT a b c d := by
  obtain ⟨l, hl, a, b, c, d, rfl, h1⟩ := h
  obtain ⟨d1, d2, d3, d4, e1, e2, e3, e4, e5⟩ := seL_four hl
  injection e1 with q1 e1; injection e1 with q2 e1; injection e1 with q3 e1; injection e1 with q4 _
  subst q1; subst q2; subst q3; subst q4
  exact ⟨a, b, c, d, e2, e3, e4, e5, h1⟩
theorem cop_vals {nm : String} {t v : SE} (h : (Fact.rel nm false (pCop K T) [t, v]).holds γ) : ∃ d d', seG γ t = some d ∧ seG γ v = some d' ∧ Alike d d' ∧ d'.wf K ∧ (Kd.sl T).fits d' := by
  obtain ⟨l, hl, d, a', k, c', sz, ss, rfl, hw, hm, hs⟩ := h
  obtain ⟨u1, u2, q1, q2, q3⟩ := seL_two hl
  injection q1 with r1 q1; injection q1 with r2 _
  subst r1; subst r2
  exact ⟨_, _, q2, q3, hs, hw, ⟨_, _, _, _, _, rfl⟩⟩
theorem sound_cop {nm nm2 nm' : String} {x y z t v : SE} (h1 : (Fact.rel nm false j3a [x, y, z, t]).holds γ) (h2 : (Fact.rel nm2 false (pCop K T) [t, v]).holds γ) (h0 : (Fact.rel nm' true j3a [x, y, z, v]).holds γ) : False := by
  obtain ⟨a, b, c, d, e1, e2', e3', e4, h⟩ := sound_vals h1
  obtain ⟨u, u', f1, f2, f3, -, -⟩ := cop_vals h2
  rw [e4] at f1
  obtain rfl := Option.some.inj f1
  refine h0 ⟨_, seL4 e1 e2' e3' f2, _, _, _, _, rfl, ?_⟩
  cases h with
  | mk k n s a' l c' t' sz es g1 g2 => exact SndT.alike (.mk k n s a' l c' t' sz es g1 g2) (.val _) (.val _) (.val _) f3
theorem al_cop2 {nm nm2 nm3 nm' : String} {B N : Nat} (hK : K T = [.int .i64, .int .i64, .str, .sl T]) {x y z t v w : SE} (h1 : (Fact.rel nm false (j0r K T N) [x, y, z, t]).holds γ) (h2 : (Fact.rel nm2 false (pCop K T) [t, v]).holds γ) (h3 : (Fact.rel nm3 false (pCop K T) [v, w]).holds γ) (hB : 2 * N ≤ B)
    (hm : ∀ d d', seG γ t = some d → seG γ w = some d' → msz d' ≤ msz d) (h0 : (Fact.rel nm' true (pAl K T B) [w, t]).holds γ) : False := by
  obtain ⟨a, k, c, sz, ss, g1, g2, g3⟩ := term_slice hK h1
  obtain ⟨d1, d2, f1, f2, f3, -, -⟩ := cop_vals h2
  obtain ⟨d3, d4, p1, p2, p3, p4, p5⟩ := cop_vals h3
  rw [g1] at f1
  obtain rfl := Option.some.inj f1
  rw [f2] at p1
  obtain rfl := Option.some.inj p1
  have hal := (f3.trans p3).symm
  obtain ⟨a2, n2, c2, sz2, es2, rfl, q2⟩ := slT_spec (K := K) (T := T) p5 p4
  have hmm := hm _ _ g1 p2
  simp only [msz] at hmm
  cases hal with
  | sl _ _ _ _ _ _ _ _ _ _ _ h5 => exact h0 ⟨_, seL2 p2 g1, _, _, _, _, _, _, _, _, _, rfl, q2, g2, h5, by omega⟩
theorem cop_msz {nm : String} {t v : SE} (h : (Fact.rel nm false (pCop K T) [t, v]).holds γ) : ∀ d d', seG γ t = some d → seG γ v = some d' → msz d' ≤ msz d := by
  obtain ⟨l, hl, d, a', k, c', sz, ss, rfl, hw, hm, hs⟩ := h
  obtain ⟨u1, u2, q1, q2, q3⟩ := seL_two hl
  injection q1 with r1 q1; injection q1 with r2 _
  subst r1; subst r2
  intro d1 d2 h1 h2
  rw [q2] at h1; rw [q3] at h2
  obtain rfl := Option.some.inj h1
  obtain rfl := Option.some.inj h2
  simp only [msz]
  exact hm
theorem cop_msz2 {nm nm' : String} {t v w : SE} (h : (Fact.rel nm false (pCop K T) [t, v]).holds γ) (h' : (Fact.rel nm' false (pCop K T) [v, w]).holds γ) : ∀ d d', seG γ t = some d → seG γ w = some d' → msz d' ≤ msz d := fun d d' h1 h2 => by
  obtain ⟨u, u', f1, f2, -, -, -⟩ := cop_vals h
  exact Nat.le_trans (cop_msz h' _ _ f2 h2) (cop_msz h _ _ h1 f2)
theorem atom_eq {nm : String} {x : SE} {l : List UInt8} (hl : l.length ≤ 64) (h1 : (Fact.tr (.a2 (.bin .eql) x (.str l))).holds γ) (h0 : (Fact.rel nm true pAtom [x]).holds γ) : False := by
  obtain ⟨u, v, q, g1, g2, g3, g4⟩ := eqOf_spec (p := true) rfl (show seG γ _ = some _ from h1)
  have g2 := Option.some.inj (show some (Dt.val (.string ⟨⟨l⟩⟩)) = some _ from g2)
  injection g2 with g2
  injection g3 with g3; injection g3 with g3
  have g3 : true = q := g3
  have g5 := g4.1 g3.symm
  subst g5; subst g2
  exact h0 ⟨_, seL1 g1, _, rfl, hl⟩
theorem tup_cells {nm nm2 : String} {B q : Nat} (hK : K T = [.int .i64, .int .i64, .str, .sl T]) {x y z t s : SE} (h1 : (Fact.rel nm false (j0r K T B) [x, y, z, t]).holds γ) (h2 : (Fact.rel nm2 false pAtom [s]).holds γ) : ∃ (k n : Int) (st : ByteArray) (a : Option Addr) (l c sz : Nat) (ss : List Dt) (at_ : ByteArray), at_.size ≤ 64 ∧
    seG γ x = some (.val (.int .i64 k)) ∧ seG γ y = some (.val (.int .i64 n)) ∧ seG γ z = some (.val (.string st)) ∧ seG γ t = some (.sl (.slice a l c) T sz ss) ∧ mszL ss + 4 < B ∧
    Dt.wfL K (K T) 0 ([.val (.int .i64 k), .val (.int .i64 n), .val (.string st), .sl (.slice a l c) T sz ss] ++ [.val (.int .i64 2), .val (.int .i64 0), .val (.string at_), .sl (.slice none 0 0) T q []]) ∧
    seG γ (.a2 .sn (.a2 .sn (.a2 .sn (.a2 .sn (.a2 .sn (.a2 .sn (.a2 .sn (.a2 .sn (.a1 (.nl [.int .i64, .int .i64, .str, .sl T]) (.bool true)) x) y) z) t) (.int .i64 (.ofNat 2))) (.int .i64 (.ofNat 0))) s) (.a1 (.ns T q) (.bool true))) =
      some (.ls (K T) ([.val (.int .i64 k), .val (.int .i64 n), .val (.string st), .sl (.slice a l c) T sz ss] ++ [.val (.int .i64 2), .val (.int .i64 0), .val (.string at_), .sl (.slice none 0 0) T q []])) := by
  obtain ⟨k, n, st, a, l, c, sz, ss, e1, e2', e3', e4, g1, g2, g3, g4⟩ := sn_four hK h1
  obtain ⟨li, hl, at_, rfl, hs⟩ := h2
  obtain ⟨u, hu, g5⟩ := seL_one hl
  injection hu with hu _
  subst hu
  have hl4 : (K T).length = 4 := by rw [hK]; rfl
  have k0 : (K T)[0]? = some (.int .i64) := by rw [hK]; rfl
  have k1 : (K T)[1]? = some (.int .i64) := by rw [hK]; rfl
  have k2 : (K T)[2]? = some .str := by rw [hK]; rfl
  have k3 : (K T)[3]? = some (.sl T) := by rw [hK]; rfl
  have s0 := j2d g4 (show seG γ (.int .i64 (.ofNat 2)) = some (.val (.int .i64 2)) from rfl) (q := .int .i64) (by rw [hl4]; simp only [List.length_append, List.length_cons, List.length_nil, Nat.reduceAdd, Nat.reduceMod, Nat.zero_add]; exact k0) ⟨_, rfl⟩
  have s1 := j2d s0 (show seG γ (.int .i64 (.ofNat 0)) = some (.val (.int .i64 0)) from rfl) (q := .int .i64) (by rw [hl4]; simp only [List.length_append, List.length_cons, List.length_nil, Nat.reduceAdd, Nat.reduceMod, Nat.zero_add]; exact k1) ⟨_, rfl⟩
  have s2 := j2d s1 g5 (q := .str) (by rw [hl4]; simp only [List.length_append, List.length_cons, List.length_nil, Nat.reduceAdd, Nat.reduceMod, Nat.zero_add]; exact k2) ⟨_, rfl⟩
  have s3 := j2d s2 (show seG γ (.a1 (.ns T q) (.bool true)) = some (.sl (.slice none 0 0) T q []) from rfl) (q := .sl T) (by rw [hl4]; simp only [List.length_append, List.length_cons, List.length_nil, Nat.reduceAdd, Nat.reduceMod, Nat.zero_add]; exact k3) ⟨_, _, _, _, _, rfl⟩
  refine ⟨k, n, st, a, l, c, sz, ss, at_, hs, e1, e2', e3', e4, g3, ?_, s3⟩
  refine Dt.wfL.append g2 fun i d hd => ?_
  rw [hl4, Nat.zero_add]
  simp only [List.length_cons, List.length_nil, Nat.zero_add, Nat.reduceAdd]
  rcases i with _ | _ | _ | _ | i
  · simp only [List.getElem?_cons_zero, Option.some.injEq] at hd
    subst hd
    exact ⟨⟨.int .i64, k0, _, rfl⟩, rfl⟩
  · simp only [List.getElem?_cons_succ, List.getElem?_cons_zero, Option.some.injEq] at hd
    subst hd
    exact ⟨⟨.int .i64, k1, _, rfl⟩, rfl⟩
  · simp only [List.getElem?_cons_succ, List.getElem?_cons_zero, Option.some.injEq] at hd
    subst hd
    exact ⟨⟨.str, k2, _, rfl⟩, rfl⟩
  · simp only [List.getElem?_cons_succ, List.getElem?_cons_zero, Option.some.injEq] at hd
    subst hd
    exact ⟨⟨.sl T, k3, _, _, _, _, _, rfl⟩, .inl ⟨rfl, rfl⟩⟩
  · simp at hd
abbrev tupE (T : TypeId) (q : Nat) (x y z t s : SE) : SE := .a2 .sn (.a2 .sn (.a2 .sn (.a2 .sn (.a2 .sn (.a2 .sn (.a2 .sn (.a2 .sn (.a1 (.nl [.int .i64, .int .i64, .str, .sl T]) (.bool true)) x) y) z) t) (.int .i64 (.ofNat 2))) (.int .i64 (.ofNat 0))) s) (.a1 (.ns T q) (.bool true))
theorem tup_parts {nm nm2 nm' : String} {B M q : Nat} (hK : K T = [.int .i64, .int .i64, .str, .sl T]) {x y z t s : SE} (h1 : (Fact.rel nm false (j0r K T B) [x, y, z, t]).holds γ) (h2 : (Fact.rel nm2 false pAtom [s]).holds γ) (hB : B + 4 ≤ M)
    (h0 : (Fact.rel nm' true (j0q K T M) [.int .i64 (.ofNat 2), tupE T q x y z t s]).holds γ) : False := by
  obtain ⟨k, n, st, a, l, c, sz, ss, at_, hs, e1, e2', e3', e4, g3, g4, g5⟩ := tup_cells (q := q) hK h1 h2
  refine h0 ⟨_, seL2 rfl g5, 2, _, rfl, by simp, g4, ?_⟩
  rw [List.take_of_length_le (by simp)]
  simp only [List.cons_append, List.nil_append, mszL, msz]
  omega
theorem tup_snd {nm nm2 nm3 nm' : String} {B q : Nat} (hK : K T = [.int .i64, .int .i64, .str, .sl T]) {x y z t s : SE} (h1 : (Fact.rel nm false (j0r K T B) [x, y, z, t]).holds γ) (h2 : (Fact.rel nm2 false pAtom [s]).holds γ) (h3 : (Fact.rel nm3 false j3a [x, y, z, t]).holds γ)
    (h0 : (Fact.rel nm' true (pSnd K T) [.int .i64 (.ofNat 2), tupE T q x y z t s]).holds γ) : False := by
  obtain ⟨k, n, st, a, l, c, sz, ss, at_, hs, e1, e2', e3', e4, g3, g4, g5⟩ := tup_cells (q := q) hK h1 h2
  obtain ⟨a1, b1, c1, d1, f1, f2, f3, f4, h⟩ := sound_vals h3
  rw [e1] at f1; rw [e2'] at f2; rw [e3'] at f3; rw [e4] at f4
  obtain rfl := Option.some.inj f1
  obtain rfl := Option.some.inj f2
  obtain rfl := Option.some.inj f3
  obtain rfl := Option.some.inj f4
  refine h0 ⟨_, seL2 rfl g5, 2, _, rfl, ?_⟩
  rw [List.take_of_length_le (by simp)]
  exact (SndL.one.2 h).append (m := 1) rfl (SndL.one.2 (.mk _ _ _ _ _ _ _ _ _ (.inr (.inl ⟨rfl, rfl, hs, rfl⟩)) SndL.nil))
theorem tup_wrd {nm nm2 nm' : String} {B q : Nat} (hK : K T = [.int .i64, .int .i64, .str, .sl T]) (hB : B ≤ 1000000) {x y z t s : SE} (h1 : (Fact.rel nm false (j0r K T B) [x, y, z, t]).holds γ) (h2 : (Fact.rel nm2 false pAtom [s]).holds γ)
    (h0 : (Fact.rel nm' true (pWrd K T) [.int .i64 (.ofNat 2), .int .i64 (.ofNat 2), tupE T q x y z t s]).holds γ) : False := by
  obtain ⟨k, n, st, a, l, c, sz, ss, at_, hs, e1, e2', e3', e4, g3, g4, g5⟩ := tup_cells (q := q) hK h1 h2
  refine h0 ⟨_, seL3 rfl rfl g5, 2, 2, _, rfl, by decide, ?_⟩
  rw [List.take_of_length_le (by simp)]
  simp only [List.cons_append, List.nil_append, mszL, msz]
  omega
theorem tup_words {nm nm2 nm3 : String} {B q : Nat} (hK : K T = [.int .i64, .int .i64, .str, .sl T]) (hB : B ≤ 60000) {x y z t s v : SE} (h1 : (Fact.rel nm false (j0r K T B) [x, y, z, t]).holds γ) (h2 : (Fact.rel nm2 false pAtom [s]).holds γ)
    (h3 : (Fact.rel nm3 false (pWrds K T) [v, .int .i64 (.ofNat 2), .int .i64 (.ofNat 2), tupE T q x y z t s]).holds γ) (h0 : (Fact.tr (.a2 (.bin .gtr) v (.int .i64 (.ofNat 65536)))).holds γ) : False := by
  obtain ⟨k, n, st, a, l, c, sz, ss, at_, hs, e1, e2', e3', e4, g3, g4, g5⟩ := tup_cells (q := q) hK h1 h2
  obtain ⟨x', x0, m, es, p0, p1, p2, p3, p4⟩ := wrds_vals h3
  rw [g5] at p3
  have p3 := Option.some.inj p3; injection p3 with _ p3
  have p1 := Option.some.inj (show some (Dt.val (.int .i64 (.ofNat 2))) = some _ from p1)
  injection p1 with p1; injection p1 with _ p1
  have p2 := Option.some.inj (show some (Dt.val (.int .i64 (.ofNat 2))) = some _ from p2)
  injection p2 with p2; injection p2 with _ p2
  have p2 : 2 = m := Int.ofNat.inj p2
  subst p1; subst p2; subst p3
  have h := c_tr_gtr h0 p0
  rw [List.take_of_length_le (by simp)] at p4
  simp only [List.cons_append, List.nil_append, mszL, msz] at p4
  simp only [Int.ofNat_eq_natCast] at h p4
  omega
end
section
variable {K : TypeId → List Kd} {T : TypeId} {γ : G}
theorem back_zero {nm : String} {M : Nat} {n e s i : SE} (h : (Fact.rel nm false (j4k K T 0 M) [n, e, s, i]).holds γ) : False := by
  obtain ⟨m, es, a, k, c, sz, ss, j, -, -, -, -, -, -, -, h1, -, h2, -⟩ := back_vals h
  omega
theorem left_zero {nm : String} {n e : SE} (h : (Fact.rel nm false (j0q K T 0) [n, e]).holds γ) : False := by
  obtain ⟨m, es, -, -, -, -, h1⟩ := left_vals h
  omega
end
theorem one_all {P : Program} {c : Nat → Con} {B : Nat} (z : j1w P (c 0)) (h : ∀ N, N + 1 ≤ B → j1w P (c N) → j1w P (c (N + 1))) : ∀ N, N ≤ B → j1w P (c N)
  | 0, _ => z
  | N + 1, hN => h N hN (one_all z h N (by omega))
end Go.Proofs.YtkgnlfmfenmihaaGreatDoor.Abs

namespace Go.Proofs.YtkgnlfmfenmihaaGreatDoor.Abs
open Go Go.ChangeShapes
structure GV where
  g : Nat
  t : Nat
  a : List AV
noncomputable def setGV : List GV → Tr Blk → Tr Blk
  | [] => fun h => h
  | x :: l => fun h => setGV l (h.set x.g (.cells x.t (Tr.ofList x.a) x.a.length 0 [] true false))
theorem get_setGV {id : Nat} {b : Blk} : ∀ {l : List GV} {h : Tr Blk}, (setGV l h).get id = some b → (∃ x ∈ l, x.g = id ∧ b = .cells x.t (Tr.ofList x.a) x.a.length 0 [] true false) ∨ h.get id = some b
  | [], _, e => .inr e
  | x :: l, h, e => by
    rcases get_setGV (l := l) (h := h.set x.g (.cells x.t (Tr.ofList x.a) x.a.length 0 [] true false)) e with ⟨y, hy, h1, h2⟩ | h1
    · exact .inl ⟨y, List.mem_cons_of_mem _ hy, h1, h2⟩
    · rw [Tr.get_set] at h1
      split at h1
      · next he => exact .inl ⟨x, List.mem_cons_self, he, (Option.some.inj h1).symm⟩
      · exact .inr h1
noncomputable def SDv (C : Ctx) (ts : List TypeId) (N : Nat) (vars : List GV) : S := ⟨setGV vars .nil, Nat.add C.nG (argN C ts), [argFact C ts N]⟩
theorem SDv_get {C : Ctx} {ts : List TypeId} {N : Nat} {vars : List GV} {id : Nat} {b : Blk} (h : (SDv C ts N vars).h.get id = some b) : ∃ x ∈ vars, x.g = id ∧ b = .cells x.t (Tr.ofList x.a) x.a.length 0 [] true false := by
  rcases get_setGV h with h | h
  · exact h
  · rw [Tr.get_nil] at h; cases h
def gvOk (C : Ctx) (γ : G) (w : World) (x : GV) : Prop :=
  x.g < C.nG ∧ (C.T.get x.t).map (·.size) = some x.a.length ∧ ∃ (vs : Array Value), w.heap[x.g]? = some (.cells vs x.t (0, 0)) ∧ x.a.length ≤ vs.size ∧ ∀ (i : Nat) (a : AV), x.a[i]? = some a → ∃ c, vs[i]? = some c ∧ conc γ a = some c
theorem rel_dataV {C : Ctx} {w : World} {N : Nat} {ts : List TypeId} {V : Nat → Option Value} {vars : List GV} (L : List Dt) (hL : ∀ d ∈ L, d.good C w fun k => k < w.heap.size) (hlen : L.length = argN C ts) (hN : pArgs (j0a C) ts N L)
    (hone : ∀ g v, V g = some v → oneV v = true) (hv : ∀ x ∈ vars, gvOk C (γD C.nG V L) w x) : Rel C 0 (γD C.nG V L) (SDv C ts N vars) w := by
  refine rel_givenD (by rw [hlen]; exact Nat.le_refl _) (fun f hf => ?_) hone hL fun id b hb => ?_
  · have hf' : f ∈ [argFact C ts N] := hf
    simp only [List.mem_singleton] at hf'
    subst hf'
    exact ⟨rfl, L, by rw [← hlen]; exact seL_vars fun j x hx => γD_at hx, hN⟩
  · obtain ⟨x, hx, rfl, rfl⟩ := SDv_get hb
    obtain ⟨hg, ht, vs, hw, hsz, hc⟩ := hv x hx
    refine ⟨hg, rfl, _, hw, vs, 0, 0, rfl, by show 0 + x.a.length ≤ _; omega, fun i u hi hcu => ?_, ?_, (fun h => by cases h), Nat.le_refl _⟩
    · rw [Tr.get_ofList] at hcu
      obtain ⟨c, h1, h2⟩ := hc i u hcu
      exact ⟨c, by show vs[0 + i]? = _; rw [Nat.zero_add]; exact h1, .inr h2⟩
    · obtain ⟨i, hi, hs⟩ := Option.map_eq_some_iff.1 ht
      exact ⟨i, hi, by rw [hs]; show x.a.length ≤ 1 * x.a.length; omega, by rw [hs]; show 0 + 1 * x.a.length ≤ _; omega, 0, by simp⟩
theorem walk_dataV {C : Ctx} (hC : Good C) (hM : C.P.follows .mixedOrders = true) {f : FuncId} (n : Nat) {N : Nat} {L ts : List TypeId} (hL : tysOk C L L = true) (hts : ∀ u ∈ ts, u ∈ L) (vars : List GV) (V : Nat → Option Value)
    {l : List (List Fact)} (h : R.res (fun _ => true) ((j4h C (runF C n) f (argAVs C ts C.nG) .normal none (SDv C ts N vars)).bind lookT) = some l) (hu : Unsats l)
    (w : World) {H : Type} {enc : TypeId × Value → H} {spare : Nat → Bool} {held : Bool} {r : Reach} {base : Nat} {args : Array Value} {ds : List (DataW H)} {ps : List MemPlace} (hA : DataW.TrodAll enc C.P w 0 spare held ts args.toList ds ps)
    (hok : ∀ (j : Nat) t v, ts[j]? = some t → args[j]? = some v → Value.okWide C.P w r base t v) (hN : j3t ds ≤ N)
    (hone : ∀ g v, V g = some v → oneV v = true) (hv : ∀ Ld : List Dt, ∀ x ∈ vars, gvOk C (γD C.nG V Ld) w x) :
    Calls C.P f args w fun e w' => e = .returned (.bool true) ∧ w.keptBut w' (fun _ => False) := by
  obtain ⟨Ls, h1, h2, h3, h4⟩ := args_data (tysOk_mem hL) hts hA fun j t v a b => hok j t v a (by rw [← Array.getElem?_toList]; exact b)
  have hR := rel_dataV (C := C) (w := w) (N := N) (ts := ts) Ls h1 h2 ⟨h3.1, Nat.le_trans h3.2 hN⟩ hone (hv Ls)
  have hc := h4 (γD C.nG V Ls) C.nG fun j x hx => γD_at hx
  refine Calls.mono (calls_trueT hC hM hR hc n h hu) fun _ _ ⟨h1, h2⟩ => ⟨h1, kept_of_stale (fun id b hb => ?_) h2⟩
  obtain ⟨x, -, -, rfl⟩ := SDv_get hb
  rfl
theorem trod_iface_inv {H : Type} {enc : TypeId × Value → H} {P : Program} {w : World} {base : Nat} {spare : Nat → Bool} {n : Nat} {t : TypeId} {cs : List Value} {name : String} {d : DataW H} {p : List MemPlace} {ms : Array (String × TypeId)}
    (hu : P.underlying t = some (.interface ms)) (h : DataW.trod enc P w base spare false n t cs = some (.iface name d, p)) : ∃ u v, cs = [.iface u v] ∧ P.typeName? 3 u = some name := by
  cases n with
  | zero => simp [DataW.trod] at h
  | succ n =>
    unfold DataW.trod at h
    rw [hu] at h
    simp only at h
    split at h <;> first | (cases h; done) | (rename_i heq; injection heq with heq; cases heq; done) | skip
    rename_i u v heq
    cases hn : P.typeName? 3 u with
    | none => rw [hn] at h; cases h
    | some q =>
      rw [hn] at h
      simp only [Option.map_eq_some_iff, Prod.mk.injEq, DataW.iface.injEq] at h
      obtain ⟨_, _, ⟨⟨rfl, _⟩, _⟩⟩ := h
      exact ⟨u, v, rfl, hn⟩
theorem laid_at {P : Program} {w : World} {n : String} {d : DataW Unit} : ∀ {l : List (String × DataW Unit)} {ps : List MemPlace}, DataW.LaidVars P w l ps → (n, d) ∈ l →
    ∃ g t cs fuel p, P.globalNamed n = some g ∧ (P.globals[g]?).map (·.type) = some t ∧ w.var? P n = some cs ∧ DataW.trod (fun _ => ()) P w 0 (fun _ => true) false fuel t cs.toList = some (d, p) ∧ ∀ x ∈ MemPlace.row ⟨g, 0, none⟩ cs.size, x ∈ ps
  | [], _, _, h => by cases h
  | (m, e) :: l, ps, hl, hm => by
    obtain ⟨g, t, cs, fuel, p, q, h1, h2, h3, h4, h5, rfl⟩ := hl
    cases hm with
    | head => exact ⟨g, t, cs, fuel, p, h1, h2, h3, h4, fun x hx => List.mem_append_left _ (List.mem_append_left _ hx)⟩
    | tail _ hm =>
      obtain ⟨g', t', cs', fuel', p', k1, k2, k3, k4, k5⟩ := laid_at h5 hm
      exact ⟨g', t', cs', fuel', p', k1, k2, k3, k4, fun x hx => List.mem_append_right _ (k5 x hx)⟩
theorem laidMet_of_H {P : Program} {w : World} {laid : List (String × DataW Unit)} (h : laidMetH P laid w) : laidMet P (laid.filter fun x => x.2.handleName?.isNone) w := by
  unfold laidMetH at h
  split at h
  · rename_i he
    have : (laid.filter fun x => x.2.handleName?.isNone) = laid := by
      rw [List.filter_eq_self]
      intro x hx'
      cases hq : x.2.handleName? with
      | none => rfl
      | some s =>
        have : x ∈ laid.filter fun x => x.2.handleName?.isSome := List.mem_filter.2 ⟨hx', by rw [hq]; rfl⟩
        rw [he] at this; cases this
    rw [this]; exact h
  · exact h.1
theorem laid_iface {P : Program} {w : World} {laid : List (String × DataW Unit)} (h : laidMetH P laid w) {n name : String} {d : DataW Unit} (hx : (n, DataW.iface name d) ∈ laid) (hh : (DataW.iface name d : DataW Unit).handleName?.isNone = true)
    {g t : Nat} (hg : P.globalNamed n = some g) (ht : (P.globals[g]?).map (·.type) = some t) {ms : Array (String × TypeId)} (hu : P.underlying t = some (.interface ms)) :
    ∃ u v, w.cell? ⟨g, 0, none⟩ = some (.iface u v) ∧ P.typeName? 3 u = some name ∧ Value.okWide P w .any 0 u v := by
  have hm : laidMet P (laid.filter fun x => x.2.handleName?.isNone) w := laidMet_of_H h
  obtain ⟨ps, hl, -, hps⟩ := hm
  obtain ⟨g', t', cs, fuel, p, h1, h2, h3, h4, h5⟩ := laid_at hl (List.mem_filter.2 ⟨hx, hh⟩)
  rw [hg] at h1; obtain rfl := Option.some.inj h1
  rw [ht] at h2; obtain rfl := Option.some.inj h2
  obtain ⟨u, v, hcs, hn⟩ := trod_iface_inv hu h4
  have hc : w.cell? ⟨g, 0, none⟩ = some (.iface u v) := by
    rw [World.var?_cell hg h3 0]
    have : cs.toList[0]? = some (Value.iface u v) := by rw [hcs]; rfl
    simpa using this
  have hsz : cs.size = 1 := by rw [← Array.length_toList, hcs]; rfl
  refine ⟨u, v, hc, hn, (hps g 0 (h5 _ ?_)).2 u v hc⟩
  rw [hsz]
  simp [MemPlace.row]
theorem var_of_shape {P : Program} {w : World} {g t : Nat} {z : Value} (h : w.ShapedOpen P) (hg : Nat.blt g P.globals.size = true)
    (hz : (((begin P (fun _ _ => 0) default).world.heap[g]?).bind Obj.row?) = some (#[z], t)) : ∃ (vs : Array Value) (v : Value), w.heap[g]? = some (.cells vs t (0, 0)) ∧ vs[0]? = some v := by
  obtain ⟨cs, h1, h2, -⟩ := h.1 g _ t (Nat.le_of_ble_eq_true hg) hz
  have h2' : cs.size = 1 := h2
  exact ⟨cs, cs[0], h1, Array.getElem?_eq_getElem (by omega)⟩
theorem gv_one {C : Ctx} {γ : G} {w : World} {g t : Nat} {a : AV} {vs : Array Value} {v : Value} (hg : Nat.blt g C.nG = true) (ht : (C.T.get t).map (·.size) = some 1) (hw : w.heap[g]? = some (.cells vs t (0, 0))) (hv : vs[0]? = some v)
    (hc : conc γ a = some v) : gvOk C γ w ⟨g, t, [a]⟩ := by
  have hsz : 0 < vs.size := by
    rcases Nat.lt_or_ge 0 vs.size with h | h
    · exact h
    · rw [Array.getElem?_eq_none h] at hv; cases hv
  refine ⟨Nat.le_of_ble_eq_true hg, ht, vs, hw, hsz, fun i b hb => ?_⟩
  cases i with
  | zero =>
    simp only [List.getElem?_cons_zero, Option.some.injEq] at hb
    subst hb
    exact ⟨v, hv, hc⟩
  | succ i => simp at hb
theorem conc_anyVar {n : Nat} {V : Nat → Option Value} {L : List Dt} {g : Nat} {v : Value} (hg : g < n) (hV : V g = some v) (hv : oneV v = true) : conc (γD n V L) (.opq .any (.var g)) = some v :=
  j1z (d := .val v) (by simp only [seG, γD, if_pos hg, Option.bind_some, hV, Option.map_some]) hv rfl
theorem conc_intVar {n : Nat} {V : Nat → Option Value} {L : List Dt} {g : Nat} {m : Int} (hg : g < n) (hV : V g = some (.int .i64 m)) : conc (γD n V L) (.opq (.int .i64) (.var g)) = some (.int .i64 m) :=
  j1z (d := .val (.int .i64 m)) (by simp only [seG, γD, if_pos hg, Option.bind_some, hV, Option.map_some]) ⟨_, rfl⟩ rfl
section
variable {K : TypeId → List Kd} {T : TypeId} {γ : G}
theorem args_ts {U : TypeId} {N : Nat} {nm nm' : String} (hK : K T = [.int .i64, .int .i64, .str, .sl T]) (hU : K U = [.str]) {x y z t c : SE} (h1 : (Fact.rel nm false (pArgs K [T, U] N) [x, y, z, t, c]).holds γ) : (Fact.rel nm' false (j0r K T (N + 1)) [x, y, z, t]).holds γ := by
  obtain ⟨l, hl, h2, h3⟩ := h1
  obtain ⟨a, r1, rfl, la, wa, h2⟩ := dataOk_cons h2
  obtain ⟨b, r2, rfl, lb, wb, h2⟩ := dataOk_cons h2
  obtain rfl : r2 = [] := h2
  have la : a.length = 4 := by rw [la, hK]; rfl
  obtain ⟨p1, q1, e1, s1, hl⟩ := seL_append (xs := [x, y, z, t]) (ys := [c]) hl
  have n1 : p1.length = 4 := seL_length s1
  obtain ⟨ea, eb⟩ := List.append_inj e1 (by omega)
  subst ea
  rw [j1e] at h3
  exact ⟨a, s1, la, wa, by omega⟩
end
theorem mem_of {p : List Nat} {Q : Nat → Prop} (h : ∀ i ∈ p, Q i) (i : Nat) (e : p.contains i = true) : Q i := h i (by simpa using e)
end Go.Proofs.YtkgnlfmfenmihaaGreatDoor.Abs
