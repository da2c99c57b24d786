/- The proofs of the abstract machine's other operations: append, maps, conversions, library functions, calls. Conditions: those of each theorem. -/
import Derived.Test.YtabknehmohoemaaGreatDoorAbs2
import Derived.Lib.Bytealg
namespace Go.Proofs.YtabknehmohoemaaGreatDoor.Abs
open Go

section
variable {C : Ctx} {base : Nat} {γ : G} {s : S} {w : World} {nt : Nat} {t : Tr AV} {a : Act}

theorem concL_bytes (γ : G) : ∀ l : List UInt8, concL γ (bytesAV l) = some (l.map fun b => Value.int .u8 b.toNat)
  | [] => rfl
  | b :: l => by
    show concL γ (.int .u8 (.ofNat b.toNat) :: bytesAV l) = _
    exact concL_cons.2 ⟨_, _, rfl, concL_bytes γ l, rfl⟩

theorem bytesAV_len : ∀ l : List UInt8, (bytesAV l).length = l.length
  | [] => rfl
  | _ :: l => by simp [bytesAV, bytesAV_len l]

theorem path_srcCells (_hC : Good C) (hR : Rel C base γ s w) (e : TypeId) {i : TI} (hi : C.T.get e = some i) (x : AV) (cx : Value) (hx : conc γ x = some cx) :
    (srcCells s e i.size x).path (fun r => ∃ cs, concL γ r.2 = some cs ∧ r.2.length = r.1 * i.size ∧ (∀ w' : World, (Builtin.lenOf cx).run C.P w' = .ok r.1 w') ∧ (∀ n, n ≤ r.1 → (Builtin.firstCells i.size n cx).run C.P w = .ok ⟨cs.take (n * i.size)⟩ w)) := by
  cases x with
  | nilsl =>
    simp only [conc, Option.some.injEq] at hx; subst hx
    refine ⟨[], rfl, by simp, fun w' => rfl, fun n hn => ?_⟩
    simp [Builtin.firstCells]
  | str l =>
    simp only [conc, Option.some.injEq] at hx; subst hx
    show (match Nat.beq i.size 1 with | true => R.ok (l.length, bytesAV l) | false => R.bad _).path _
    cases hb : Nat.beq i.size 1
    · trivial
    · have h1 : i.size = 1 := Nat.eq_of_beq_eq_true hb
      refine ⟨_, concL_bytes γ l, by simp [bytesAV_len, h1], fun w' => rfl, fun n hn => ?_⟩
      simp only [Builtin.firstCells, ba_extract, h1, Nat.mul_one]
      rw [Sem.run_pure]
      congr 1
      apply Array.ext'
      simp [List.map_take]
  | sl b off len cap =>
    simp only [conc, Option.map_eq_some_iff] at hx
    obtain ⟨lc, hl, rfl⟩ := hx
    refine R.pbd _ (path_rdCells hR b off _) fun vs hvs => ?_
    obtain ⟨lc', cs, h1, h2, h3, h4⟩ := hvs
    rw [hl] at h1; obtain rfl := Option.some.inj h1
    refine ⟨cs, h2, h3, fun w' => rfl, fun n hn => ?_⟩
    have hlen := concL_len h2
    have h3' : vs.length = len * i.size := h3
    have hle : n * i.size ≤ cs.length := by rw [hlen, h3']; exact Nat.mul_le_mul_right _ hn
    simp only [Builtin.firstCells]
    exact run_loadCells' (fun j v hj => by
      rw [List.getElem?_take] at hj
      split at hj
      · exact h4 j v hj
      · cases hj) _ (by simp; omega)
  | osl b pre e0 len sz =>
    simp only [conc, Option.map_eq_some_iff] at hx
    obtain ⟨lc, hl, rfl⟩ := hx
    refine R.pbd _ (R.path_guard _ _) fun _ hg => ?_
    obtain ⟨k1, k2, k3⟩ := oOk_spec hR hi hl hg
    have k3' : e0 + len ≤ lc.cp := k3
    subst k1
    refine R.pbd _ (path_rdCells hR b _ _) fun vs hvs => ?_
    obtain ⟨lc', cs, h1, h2, h3, h4⟩ := hvs
    rw [hl] at h1; obtain rfl := Option.some.inj h1
    refine ⟨cs, h2, h3, fun w' => rfl, fun n hn => ?_⟩
    have hlen := concL_len h2
    have h3' : vs.length = len * i.size := h3
    have hle : n * i.size ≤ cs.length := by rw [hlen, h3']; exact Nat.mul_le_mul_right _ hn
    simp only [Builtin.firstCells]
    by_cases h0 : len = 0
    · subst h0
      have : n = 0 := by omega
      subst this
      simp [loadCells, loadCellsFrom]
    · have hlt : e0 < lc.cp := by omega
      simp only [hlt, if_true]
      exact run_loadCells' (fun j v hj => by
        rw [List.getElem?_take] at hj
        split at hj
        · exact h4 j v hj
        · cases hj) _ (by simp; omega)
  | _ => trivial

theorem growBy_bound (nl : Nat) : ∀ (r c : Nat), c ≤ nl → Builtin.growBy nl r c ≤ nl + (nl + 768) / 4 + 1
  | 0, c, h => by simp [Builtin.growBy]; omega
  | r + 1, c, h => by
    unfold Builtin.growBy
    split
    · omega
    · by_cases h2 : c + (c + 768) / 4 ≤ nl
      · exact growBy_bound nl r _ h2
      · have : Builtin.growBy nl r (c + (c + 768) / 4) = c + (c + 768) / 4 := by
          cases r with
          | zero => rfl
          | succ r => unfold Builtin.growBy; rw [if_pos (by omega)]
        rw [this]
        have : (c + 768) / 4 ≤ (nl + 768) / 4 := Nat.div_le_div_right (by omega)
        omega
theorem nextcap_bound (nl oc : Nat) (h : oc < nl) : Builtin.nextslicecap nl oc ≤ 4 * nl + 1000 := by
  unfold Builtin.nextslicecap
  split
  · omega
  · split
    · omega
    · have := growBy_bound nl 4 oc (by omega)
      omega

/-- what is appended, as the model reckons it -/
def ASrc (P : Program) (w : World) (xd : TypeDesc) (i : TI) (e : TypeId) (cx : Value) (n : Nat) (cn : List Value) : Prop :=
  (isIntD xd = false ∧ (∀ w' : World, (Builtin.lenOf cx).run P w' = .ok n w') ∧ ∀ d, (Builtin.firstCells i.size n cx).run P { w with drawn := d } = .ok ⟨cn⟩ { w with drawn := d }) ∨
  (isIntD xd = true ∧ (∃ k, cx = .int k n) ∧ n * i.bytes ≤ 68719476736 ∧ n ≤ 68719476736 ∧ ∃ zv : Value, (∀ w' : World, (zeroValue e).run P w' = .ok zv w') ∧ (if n * i.size = 0 then (#[] : Array Value) else Builtin.zeroCells zv.cells n) = ⟨cn⟩)

/-- an append that makes a new row -/
theorem run_append_new (_hC : Good C) {st xt e : TypeId} {i : TI} {xd : TypeDesc} (hst : C.P.underlying st = some (.slice e)) (hxt : C.P.underlying xt = some xd) (_hi : C.T.get e = some i) (hT : TIRel C.P e i)
    {rest : List TypeId} {rt : TypeId} {b : Option Addr} {sLen sCap n : Nat} {cx : Value} {co cn : List Value} {z : List AV} (hz : i.zero = some z) (hzl : z.length = i.size)
    (hsrc : ASrc C.P w xd i e cx n cn) (hcap : sCap < sLen + n) (hby : (sLen + n) * i.bytes ≤ 68719476736) (hne : sLen + n ≤ 68719476736)
    (hco : ∀ d, (Builtin.firstCells i.size sLen (.slice b sLen sCap)).run C.P { w with drawn := d } = .ok ⟨co⟩ { w with drawn := d })
    (_hcol : co.length = sLen * i.size) (_hcnl : cn.length = n * i.size) :
    ∃ (cap : Nat) (rest' : Array Value), sLen + n ≤ cap ∧ rest'.size = (cap - (sLen + n)) * i.size ∧
      (Builtin.append_ ⟨st :: xt :: rest⟩ rt #[.slice b sLen sCap, cx]).run C.P w =
        .ok (.slice (some ⟨w.heap.size, 0, none⟩) (sLen + n) cap) { w with drawn := w.drawn + 1, heap := w.heap.push (.cells (⟨co⟩ ++ ⟨cn⟩ ++ rest') e (0, 0)) } := by
  obtain ⟨ti, t1, t2, t3, _⟩ := hT.info
  obtain ⟨zv, hzv, hzc⟩ := hT.zero z hz
  have hzs : zv.cells.size = i.size := by
    have := concL_len (hzc (fun _ => none)); simp at this; omega
  let cap := (Question.appendCap (sLen + n) sCap e).cut (w.tape w.drawn (.appendCap (sLen + n) sCap e))
  have hcapge : sLen + n ≤ cap := by
    show sLen + n ≤ sLen + n + _
    omega
  refine ⟨cap, Builtin.zeroCells zv.cells (cap - (sLen + n)), hcapge, by simp [Builtin.zeroCells, hzs], ?_⟩
  have h1 : ¬ (((sLen + n : Nat) : Int) > IntKind.i64.max ∧ ti.bytes = 0) := by
    have : IntKind.i64.max = 9223372036854775807 := by decide
    rw [this]; omega
  have h1' : ¬ (((sLen + n : Nat) : Int) > IntKind.i64.max) := by
    have : IntKind.i64.max = 9223372036854775807 := by decide
    rw [this]; omega
  have h2 : ¬ (Builtin.nextslicecap (sLen + n) sCap * ti.bytes > 2 ^ 48) := by
    have := nextcap_bound (sLen + n) sCap hcap
    have h3 : Builtin.nextslicecap (sLen + n) sCap * ti.bytes ≤ (4 * (sLen + n) + 1000) * ti.bytes := Nat.mul_le_mul_right _ this
    have h4 : (4 * (sLen + n) + 1000) * ti.bytes ≤ 4 * ((sLen + n) * ti.bytes) + 1000 * ti.bytes := by rw [Nat.add_mul, Nat.mul_assoc]; omega
    have h5 : ti.bytes ≤ (sLen + n) * ti.bytes := Nat.le_mul_of_pos_left _ (by omega)
    rw [t2] at *
    omega
  have hq : (Question.appendCap (sLen + n) sCap e).forced = false := rfl
  rcases hsrc with ⟨hxi, hlen, hcn⟩ | ⟨hxi, ⟨kx, rfl⟩, hnb, hn, zv', hzv', hcn⟩
  · cases xd <;> first | (cases hxi; done) | skip
    all_goals (
      unfold Builtin.append_
      simp only [List.getElem?_toArray, List.getElem?_cons_zero, List.getElem?_cons_succ]
      rw [Sem.run_bind, run_und hst]
      simp only [Result.andThen_ok]
      rw [Sem.run_bind, hT.size w]
      simp only [Result.andThen_ok, Sem.run_bind, run_und hxt, Sem.run_pure, Bool.false_eq_true, if_false, Bool.not_false, if_true, false_or, hlen]
      rw [if_neg (by omega)]
      simp only [Sem.run_bind, typeInfo, run_program, t1, Result.andThen_ok, Sem.run_pure]
      rw [if_neg h1]
      simp only [Sem.run_bind, run_program, t1, Result.andThen_ok, Sem.run_pure]
      rw [if_neg h2]
      simp only [Sem.run_bind, run_choose, hq, Bool.false_eq_true, if_false, Result.andThen_ok, run_program, t1, Sem.run_pure, run_askRoom]
      rw [hco (w.drawn + 1)]
      simp only [Result.andThen_ok]
      rw [hcn (w.drawn + 1)]
      simp only [Result.andThen_ok, hzv]
      simp only [newRow, Sem.run_bind, run_newObj, Result.andThen_ok, Sem.run_pure]
      rfl)
  · cases xd <;> first | (cases hxi; done) | skip
    have hw1 : IntKind.i64.wrap (n : Int) = (n : Int) := wrap_small n (by omega)
    have ha : (Go.asInt (.int kx (n : Int))).run C.P w = .ok (n : Int) w := rfl
    have hl0 : ¬ ((n : Int) < 0) := by omega
    have hlb : ¬ ((n : Int) * (ti.bytes : Int) > 2 ^ 48) := by
      rw [t2]
      have : (n : Int) * (i.bytes : Int) = ((n * i.bytes : Nat) : Int) := by push_cast; rfl
      rw [this]; omega
    unfold Builtin.append_
    simp only [List.getElem?_toArray, List.getElem?_cons_zero, List.getElem?_cons_succ]
    rw [Sem.run_bind, run_und hst]
    simp only [Result.andThen_ok]
    rw [Sem.run_bind, hT.size w]
    simp only [Result.andThen_ok, Sem.run_bind, run_und hxt, Sem.run_pure, if_true, true_or, and_true, Bool.not_true, Bool.false_eq_true, if_false, ha, hw1]
    rw [if_neg hl0]
    simp only [Sem.run_bind, typeInfo, run_program, t1, Result.andThen_ok, Sem.run_pure]
    rw [if_neg hlb]
    simp only [Sem.run_bind, Result.andThen_ok, Sem.run_pure, Int.toNat_natCast]
    rw [if_neg (show ¬ (sLen + n ≤ sCap) by omega)]
    simp only [Sem.run_bind, run_program, t1, Result.andThen_ok, Sem.run_pure]
    rw [if_neg h1']
    simp only [Sem.run_bind, run_program, t1, Result.andThen_ok, Sem.run_pure]
    rw [if_neg h2]
    simp only [Sem.run_bind, run_choose, hq, Bool.false_eq_true, if_false, Result.andThen_ok, run_program, t1, Sem.run_pure, run_askRoom]
    rw [hco (w.drawn + 1)]
    simp only [Result.andThen_ok]
    have happ : (Sem.run C.P (if n * i.size = 0 then (pure #[] : Sem (Array Value)) else do pure (Builtin.zeroCells (← zeroValue e).cells n)) { w with drawn := w.drawn + 1 }) = .ok ⟨cn⟩ { w with drawn := w.drawn + 1 } := by
      rw [← hcn]
      by_cases h0 : n * i.size = 0
      · simp only [h0, if_true, Sem.run_pure]
      · simp only [h0, if_false, Sem.run_bind, hzv', Result.andThen_ok, Sem.run_pure]
    rw [happ]
    simp only [Result.andThen_ok, hzv]
    simp only [newRow, Sem.run_bind, run_newObj, Result.andThen_ok, Sem.run_pure]
    rfl

end
end Go.Proofs.YtabknehmohoemaaGreatDoor.Abs

namespace Go.Proofs.YtabknehmohoemaaGreatDoor.Abs
open Go

section
variable {C : Ctx} {base : Nat} {γ : G} {s : S} {w : World} {nt : Nat} {t : Tr AV} {a : Act}

/-- an append within the capacity -/
theorem run_append_in {st xt e : TypeId} {i : TI} {xd : TypeDesc} (hst : C.P.underlying st = some (.slice e)) (hxt : C.P.underlying xt = some xd) (hT : TIRel C.P e i)
    {rest : List TypeId} {rt : TypeId} {b : Option Addr} {sLen sCap n : Nat} {cx : Value} {cn : List Value}
    (hsrc : ASrc C.P w xd i e cx n cn) (hcap : sLen + n ≤ sCap) {w' : World}
    (hst' : ∀ ad, b = some ad → (storeCells (ad.add (sLen * i.size)) cn).run C.P w = .ok () w') (hnone : b = none → w' = w) :
      (Builtin.append_ ⟨st :: xt :: rest⟩ rt #[.slice b sLen sCap, cx]).run C.P w = .ok (.slice b (sLen + n) sCap) w' := by
  rcases hsrc with ⟨hxi, hlen, hcn⟩ | ⟨hxi, ⟨kx, rfl⟩, hnb, hn, zv', hzv', hcn⟩
  · have hcn := hcn w.drawn
    cases xd <;> first | (cases hxi; done) | skip
    all_goals (
      unfold Builtin.append_
      simp only [List.getElem?_toArray, List.getElem?_cons_zero, List.getElem?_cons_succ]
      rw [Sem.run_bind, run_und hst]
      simp only [Result.andThen_ok]
      rw [Sem.run_bind, hT.size w]
      simp only [Result.andThen_ok, Sem.run_bind, run_und hxt, Sem.run_pure, Bool.false_eq_true, if_false, Bool.not_false, if_true, hlen]
      rw [if_pos hcap]
      simp only [Sem.run_bind, hcn, Result.andThen_ok]
      cases b with
      | none => simp only [hnone rfl]; rfl
      | some ad =>
        simp only [Sem.run_bind, hst' ad rfl, Result.andThen_ok, Sem.run_pure])
  · obtain ⟨ti, t1, t2, t3, _⟩ := hT.info
    cases xd <;> first | (cases hxi; done) | skip
    have hw1 : IntKind.i64.wrap (n : Int) = (n : Int) := wrap_small n (by omega)
    have ha : (Go.asInt (.int kx (n : Int))).run C.P w = .ok (n : Int) w := rfl
    have hl0 : ¬ ((n : Int) < 0) := by omega
    have hlb : ¬ ((n : Int) * (ti.bytes : Int) > 2 ^ 48) := by
      rw [t2]
      have : (n : Int) * (i.bytes : Int) = ((n * i.bytes : Nat) : Int) := by push_cast; rfl
      rw [this]; omega
    unfold Builtin.append_
    simp only [List.getElem?_toArray, List.getElem?_cons_zero, List.getElem?_cons_succ]
    rw [Sem.run_bind, run_und hst]
    simp only [Result.andThen_ok]
    rw [Sem.run_bind, hT.size w]
    simp only [Result.andThen_ok, Sem.run_bind, run_und hxt, Sem.run_pure, if_true, true_or, and_true, Bool.not_true, Bool.false_eq_true, if_false, ha, hw1]
    rw [if_neg hl0]
    simp only [Sem.run_bind, typeInfo, run_program, t1, Result.andThen_ok, Sem.run_pure]
    rw [if_neg hlb]
    simp only [Sem.run_bind, Result.andThen_ok, Sem.run_pure, Int.toNat_natCast]
    rw [if_pos hcap]
    have happ : (Sem.run C.P (if n * i.size = 0 then (pure #[] : Sem (Array Value)) else do pure (Builtin.zeroCells (← zeroValue e).cells n)) w) = .ok ⟨cn⟩ w := by
      rw [← hcn]
      by_cases h0 : n * i.size = 0
      · simp only [h0, if_true, Sem.run_pure]
      · simp only [h0, if_false, Sem.run_bind, hzv', Result.andThen_ok, Sem.run_pure]
    simp only [Sem.run_bind, happ, Result.andThen_ok]
    cases b with
    | none => simp only [hnone rfl]; rfl
    | some ad =>
      simp only [Sem.run_bind, hst' ad rfl, Result.andThen_ok, Sem.run_pure]

theorem Rel.drawn (hR : Rel C base γ s w) {w' : World} (hh : w'.heap = w.heap) : Rel C base γ s w' :=
  ⟨fun id b h => by rw [hh]; exact hR.blk id b h, hR.sep, hR.new, hR.glob, hR.low, by rw [hh]; exact hR.bs⟩

/-- an open block is a stale one from now on -/
theorem Rel.stale (hR : Rel C base γ s w) {b : Nat} {e : TypeId} {cs : Tr AV} {k fz : Nat} {anc : List Nat} {st sg : Bool} (hb : s.h.get b = some (.cells e cs k fz anc st sg)) :
    Rel C base γ ⟨s.h.set b (.cells e cs k fz anc true sg), s.next⟩ w := by
  have hsame : ∀ i x, (s.h.set b (.cells e cs k fz anc true sg)).get i = some x → (i = b ∧ x = .cells e cs k fz anc true sg) ∨ (i ≠ b ∧ s.h.get i = some x) := by
    intro i x hx
    rw [Tr.get_set] at hx
    split at hx
    · next h => exact .inl ⟨h.symm, (Option.some.inj hx).symm⟩
    · next h => exact .inr ⟨Ne.symm h, hx⟩
  have hanc : ∀ i x y l l', AncOf x i (.cells e cs k fz anc st sg) l l' → y = .cells e cs k fz anc true sg → AncOf x i y l l' := by
    intro i x y l l' h hy
    subst hy
    cases x <;> simp only [AncOf] at h ⊢
    exact ⟨h.1, trivial, h.2.2⟩
  have hanc2 : ∀ j y l l', AncOf (.cells e cs k fz anc st sg) j y l l' → AncOf (.cells e cs k fz anc true sg) j y l l' := by
    intro j y l l' h
    cases y <;> exact h
  refine ⟨?_, ?_, hR.new, hR.glob, ?_, hR.bs⟩
  · intro i x hx
    rcases hsame i x hx with ⟨rfl, rfl⟩ | ⟨_, hx'⟩
    · obtain ⟨l, o, h1, h2, vs, lo, hi, rfl, g1, g2, g3, g4, glh⟩ := hR.blk i _ hb
      refine ⟨l, _, h1, h2, vs, lo, hi, rfl, g1, ?_, g3, (fun h => by cases h), glh⟩
      exact g2
    · obtain ⟨l, o, h1, h2, h3⟩ := hR.blk i x hx'
      exact ⟨l, o, h1, h2, h3.mono (Grow.refl γ) ⟨rfl, rfl, rfl⟩⟩
  · intro i j x y l l' h1 h2 h3 h4 hne hbl
    rcases hsame i x h1 with ⟨rfl, rfl⟩ | ⟨_, hx⟩
    · rcases hsame j y h2 with ⟨rfl, _⟩ | ⟨_, hy⟩
      · exact absurd rfl hne
      · rcases hR.sep i j _ y l l' hb hy h3 h4 hne hbl with h | h
        · exact .inl (hanc2 _ _ _ _ h)
        · exact .inr (hanc _ _ _ _ _ h rfl)
    · rcases hsame j y h2 with ⟨rfl, rfl⟩ | ⟨_, hy⟩
      · rcases hR.sep i j x _ l l' hx hb h3 h4 hne hbl with h | h
        · exact .inl (hanc _ _ _ _ _ h rfl)
        · exact .inr (hanc2 _ _ _ _ h)
      · exact hR.sep i j x y l l' hx hy h3 h4 hne hbl
  · intro i x l h1 h2 h3
    rcases hsame i x h1 with ⟨rfl, rfl⟩ | ⟨_, hx⟩
    · rfl
    · exact hR.low i x l hx h2 h3

theorem Step.stale (hR : Rel C base γ s w) {b : Nat} {e : TypeId} {cs : Tr AV} {k fz : Nat} {anc : List Nat} {st sg : Bool} (hb : s.h.get b = some (.cells e cs k fz anc st sg)) :
    Step C base γ s w γ ⟨s.h.set b (.cells e cs k fz anc true sg), s.next⟩ w := by
  refine ⟨Grow.refl γ, hR.stale hb, Keep.refl _ _ _, ?_, Nat.le_refl _, fun _ _ h => hR.lt h, fun _ l h => .inl ⟨l, h⟩, fun id x h1 _ => by
    simp only [Tr.get_set] at h1
    split at h1
    · next h => subst h; exact ⟨_, hb⟩
    · exact ⟨x, h1⟩⟩
  rintro k' ⟨id, x, l, h1, h2, h3, h4⟩ _
  simp only [Tr.get_set] at h1
  split at h1
  · obtain rfl := Option.some.inj h1; cases h2
  · exact ⟨id, x, l, h1, h2, h3, h4⟩

/-- the new slice of an append that stays in its block -/
theorem Rel.alias (hR : Rel C base γ s w) {b : Nat} {e : TypeId} {cs : Tr AV} {k fz : Nat} {anc : List Nat} {sg : Bool} (hb : s.h.get b = some (.cells e cs k fz anc false sg))
    {lc : Loc} (hl : γ b = some lc) {arr : Array Value} {lo hi : Nat} (ho : w.heap[lc.blk]? = some (.cells arr e (lo, hi))) {i : TI} (hi' : C.T.get e = some i) {e0 len n : Nat}
    (hk : (e0 + len) * i.size = k) (hroom : e0 + len + n ≤ lc.cp) {old new : List AV} {cold cnew : List Value} (hold : concL γ old = some cold) (hnew : concL γ new = some cnew)
    (holdl : old.length = len * i.size) (hnewl : new.length = n * i.size) (holdc : ∀ (j : Nat) v, cold[j]? = some v → arr[lc.dl + e0 * i.size + j]? = some v) (_hfz : fz ≤ k)
    (w' : World) (hw' : w'.heap = w.heap.setIfInBounds lc.blk (.cells (arrSet arr (lc.dl + k) cnew) e (lo, hi))) :
    Rel C base (fun id => if id = s.next then some ⟨lc.blk, lc.dl + e0 * i.size, lc.cp - e0, none⟩ else γ id)
      ⟨(s.h.set b (.cells e cs k fz anc true sg)).set s.next (.cells e (Tr.ofList (old ++ new)) ((len + n) * i.size) (fz - e0 * i.size) (b :: anc) false sg), s.next + 1⟩ w' := by
  have hS := hR.stale hb
  obtain ⟨l', o, h1, h2, vs, lo', hi'', hoo, g1, g2, ⟨ii, g3, g4, g5, qd, g7⟩, g6, glh⟩ := hR.blk b _ hb
  rw [hl] at h1; obtain rfl := Option.some.inj h1
  rw [ho] at h2; obtain rfl := Option.some.inj h2
  cases hoo
  rw [hi'] at g3; obtain rfl := Option.some.inj g3
  have hbne : b ≠ s.next := Nat.ne_of_lt (hR.lt hl)
  have hlt : lc.blk < w.heap.size := by
    rcases Nat.lt_or_ge lc.blk w.heap.size with h | h
    · exact h
    · rw [Array.getElem?_eq_none h] at ho; cases ho
  have hgrow : Grow γ (fun id => if id = s.next then some ⟨lc.blk, lc.dl + e0 * i.size, lc.cp - e0, none⟩ else γ id) := by
    intro id l hl
    have : id ≠ s.next := Nat.ne_of_lt (hR.lt hl)
    exact ⟨l, by simp [this, hl], rfl, rfl, rfl⟩
  have hmul : (e0 + len + n) * i.size ≤ lc.cp * i.size := Nat.mul_le_mul_right _ hroom
  have hexp : (e0 + len + n) * i.size = k + n * i.size := by rw [Nat.add_mul, hk]
  have hcl := concL_len hnew
  have hget : ∀ id x, ((s.h.set b (.cells e cs k fz anc true sg)).set s.next (.cells e (Tr.ofList (old ++ new)) ((len + n) * i.size) (fz - e0 * i.size) (b :: anc) false sg)).get id = some x →
      (id = s.next ∧ x = .cells e (Tr.ofList (old ++ new)) ((len + n) * i.size) (fz - e0 * i.size) (b :: anc) false sg) ∨ (id ≠ s.next ∧ (s.h.set b (.cells e cs k fz anc true sg)).get id = some x) := by
    intro id x hx
    rw [Tr.get_set] at hx
    split at hx
    · next h => exact .inl ⟨h.symm, (Option.some.inj hx).symm⟩
    · next h => exact .inr ⟨Ne.symm h, hx⟩
  -- who else lies in the block
  have hshare : ∀ id x lx, (s.h.set b (.cells e cs k fz anc true sg)).get id = some x → γ id = some lx → lx.blk = lc.blk →
      ∃ e' cs' k' fz' anc' sg', x = .cells e' cs' k' fz' anc' true sg' ∧ id ∈ b :: anc ∧ lx.dl + k' ≤ lc.dl + k := by
    intro id x lx hx hγ hbl
    by_cases hid : id = b
    · subst hid
      rw [Tr.get_set_same] at hx; obtain rfl := Option.some.inj hx
      rw [hl] at hγ; obtain rfl := Option.some.inj hγ
      exact ⟨_, _, _, _, _, _, rfl, by simp, Nat.le_refl _⟩
    · have hx' := hx
      rw [Tr.get_set_other _ _ (Ne.symm hid)] at hx'
      rcases hR.sep b id _ x lc lx hb hx' hl hγ (Ne.symm hid) hbl.symm with h | h
      · cases x <;> simp only [AncOf] at h
        obtain ⟨h1, h2, h3⟩ := h
        subst h2
        exact ⟨_, _, _, _, _, _, rfl, by simp [h1], h3⟩
      · cases x <;> simp only [AncOf] at h
        exact absurd h.2.1 (by simp)
  have hin : lc.dl + k + cnew.length ≤ arr.size := by
    rw [hcl, hnewl]; omega
  refine ⟨?_, ?_, ?_, ?_, ?_, ?_⟩
  · intro id x hx
    rcases hget id x hx with ⟨rfl, rfl⟩ | ⟨hne, hx'⟩
    · refine ⟨⟨lc.blk, lc.dl + e0 * i.size, lc.cp - e0, none⟩, .cells (arrSet arr (lc.dl + k) cnew) e (lo, hi), by simp, by rw [hw']; simp [hlt], ?_⟩
      have hdk : lc.dl + e0 * i.size + len * i.size = lc.dl + k := by rw [← hk, Nat.add_mul]; omega
      refine ⟨_, lo, hi, rfl, ?_, ?_, ⟨i, hi', ?_, ?_, qd + e0, by simp only; rw [g7, Nat.add_mul]⟩, ?_, glh⟩
      · rw [arrSet_size]; simp only; rw [Nat.add_mul]; omega
      · intro j v hj hv
        rw [Tr.get_ofList, List.getElem?_append] at hv
        split at hv
        · next hlt' =>
          obtain ⟨c, hc, hcc⟩ := concL_get j v hold hv
          refine ⟨c, ?_, .inr (conc_ext hgrow _ _ hc)⟩
          rw [arrSet_get _ _ _ _ hin, if_neg (by simp only; omega)]
          exact holdc j c hcc
        · next hge =>
          obtain ⟨c, hc, hcc⟩ := concL_get _ v hnew hv
          refine ⟨c, ?_, .inr (conc_ext hgrow _ _ hc)⟩
          have hjl : j - old.length < cnew.length := by
            rcases Nat.lt_or_ge (j - old.length) cnew.length with h | h
            · exact h
            · rw [List.getElem?_eq_none h] at hcc; cases hcc
          rw [arrSet_get _ _ _ _ hin, if_pos (by simp only; omega)]
          rw [← hcc]; congr 1; simp only; omega
      · simp only; exact Nat.mul_le_mul_right _ (by omega)
      · rw [arrSet_size]; simp only
        have : lc.dl + e0 * i.size + (lc.cp - e0) * i.size = lc.dl + lc.cp * i.size := by
          rw [Nat.add_assoc, ← Nat.add_mul, show e0 + (lc.cp - e0) = lc.cp by omega]
        omega
      · intro _ off h1 h2
        rw [arrSet_size]
        rcases g6 rfl off h1 h2 with h | h
        · left; simp only; omega
        · right; exact h
    · obtain ⟨l, o, q1, q2, q3⟩ := hS.blk id x hx'
      by_cases hbl : l.blk = lc.blk
      · obtain ⟨e', cs', k', fz', anc', sg', rfl, _, hle⟩ := hshare id x l hx' q1 hbl
        obtain ⟨vs, lo1, hi1, rfl, f1, f2, f3, f4, flh⟩ := q3
        rw [hbl, ho] at q2
        cases q2
        refine ⟨l, .cells (arrSet arr (lc.dl + k) cnew) e (lo, hi), by simp [hne, q1], by rw [hw', hbl]; simp [hlt], ?_⟩
        refine ⟨_, lo, hi, rfl, by rw [arrSet_size]; exact f1, ?_, by rw [arrSet_size]; exact f3, (fun h => by cases h), glh⟩
        intro j v hj hv
        obtain ⟨c, hc, hcc⟩ := f2 j v hj hv
        refine ⟨c, ?_, hcc.grow hgrow⟩
        rw [arrSet_get _ _ _ _ hin, if_neg (by omega)]
        exact hc
      · refine ⟨l, o, by simp [hne, q1], by rw [hw']; simp [Ne.symm hbl, q2], q3.mono hgrow ⟨rfl, rfl, rfl⟩⟩
  · intro id id' x y l l' h1 h2 h3 h4 hne hbl
    rcases hget id x h1 with ⟨rfl, rfl⟩ | ⟨hn1, hx⟩
    · rcases hget id' y h2 with ⟨rfl, _⟩ | ⟨hn2, hy⟩
      · exact absurd rfl hne
      · simp only [if_true] at h3; simp only [hn2, if_false] at h4
        obtain rfl := Option.some.inj h3
        obtain ⟨e', cs', k', fz', anc', sg', rfl, hm, hle⟩ := hshare id' y l' hy h4 hbl.symm
        left
        refine ⟨hm, rfl, ?_⟩
        simp only
        have : lc.dl + e0 * i.size + (len + n) * i.size = lc.dl + k + n * i.size := by rw [← hk, Nat.add_mul, Nat.add_mul]; omega
        omega
    · rcases hget id' y h2 with ⟨rfl, rfl⟩ | ⟨hn2, hy⟩
      · simp only [if_true] at h4; simp only [hn1, if_false] at h3
        obtain rfl := Option.some.inj h4
        obtain ⟨e', cs', k', fz', anc', sg', rfl, hm, hle⟩ := hshare id x l hx h3 hbl
        right
        refine ⟨hm, rfl, ?_⟩
        simp only
        have : lc.dl + e0 * i.size + (len + n) * i.size = lc.dl + k + n * i.size := by rw [← hk, Nat.add_mul, Nat.add_mul]; omega
        omega
      · simp only [hn1, if_false] at h3; simp only [hn2, if_false] at h4
        exact hS.sep id id' x y l l' hx hy h3 h4 hne hbl
  · intro id hid
    have hid' : s.next + 1 ≤ id := hid
    have : id ≠ s.next := by omega
    simp only [this, if_false]
    exact hR.new id (by omega)
  · intro g hg
    obtain ⟨l, q1, q2, q3⟩ := hR.glob g hg
    have : g ≠ s.next := Nat.ne_of_lt (hR.lt q1)
    exact ⟨l, by simp [this, q1], q2, q3⟩
  · intro id x l h1 h2 h3
    rcases hget id x h1 with ⟨rfl, rfl⟩ | ⟨hn1, hx⟩
    · simp only [if_true] at h2
      obtain rfl := Option.some.inj h2
      have := hR.low b _ lc hb hl h3
      cases this
    · simp only [hn1, if_false] at h2
      exact hS.low id x l hx h2 h3
  · rw [hw']; simp; exact hR.bs

end
end Go.Proofs.YtabknehmohoemaaGreatDoor.Abs

namespace Go.Proofs.YtabknehmohoemaaGreatDoor.Abs
open Go

section
variable {C : Ctx} {base : Nat} {γ : G} {s : S} {w : World} {nt : Nat} {t : Tr AV} {a : Act}

theorem firstCells_drawn {P : Program} {n m : Nat} {x : AV} {cx : Value} (hx : conc γ x = some cx) {r : Array Value} (w : World) (d : Nat) (h : (Builtin.firstCells n m cx).run P w = .ok r w)
    (hc : ∀ blk off j v, cx = .slice (some ⟨blk, off, none⟩) j v → True) : (Builtin.firstCells n m cx).run P { w with drawn := d } = .ok r { w with drawn := d } := by
  cases cx with
  | slice b l c =>
    cases b with
    | none => simp only [Builtin.firstCells, Sem.run_pure, Result.ok.injEq] at h ⊢; exact ⟨h.1, trivial⟩
    | some ad =>
      simp only [Builtin.firstCells] at h ⊢
      -- loads read the same heap
      have key : ∀ (k i : Nat) (acc : Array Value) (r : Array Value), (loadCellsFrom ad i k acc).run P w = .ok r w → (loadCellsFrom ad i k acc).run P { w with drawn := d } = .ok r { w with drawn := d } := by
        intro k
        induction k with
        | zero => intro i acc r h; simp only [loadCellsFrom, Sem.run_pure, Result.ok.injEq] at h ⊢; exact ⟨h.1, trivial⟩
        | succ k ih =>
          intro i acc r h
          simp only [loadCellsFrom, Sem.run_bind, run_load] at h ⊢
          have hcell : World.cell? { w with drawn := d } (ad.add i) = w.cell? (ad.add i) := rfl
          have hfar : World.farLoad P { w with drawn := d } (ad.add i) (Mode.plain == Mode.atomic) = w.farLoad P (ad.add i) (Mode.plain == Mode.atomic) := rfl
          rw [hcell, hfar]
          cases hq : w.cell? (ad.add i) with
          | some v => rw [hq] at h; simp only [Result.andThen_ok] at h ⊢; exact ih _ _ _ h
          | none =>
            rw [hq] at h
            cases hf : w.farLoad P (ad.add i) (Mode.plain == Mode.atomic) with
            | ok x => rw [hf] at h; simp only [Result.andThen_ok] at h ⊢; exact ih _ _ _ h
            | error e => rw [hf] at h; simp only [Result.andThen_halt] at h; cases h
      exact key _ _ _ _ h
  | string s' => simp only [Builtin.firstCells, Sem.run_pure, Result.ok.injEq] at h ⊢; exact ⟨h.1, trivial⟩
  | _ => simp [Builtin.firstCells] at h

theorem path_appSrc (hC : Good C) (hR : Rel C base γ s w) {e : TypeId} {i : TI} (hi : C.T.get e = some i) (hT : TIRel C.P e i) (xd : TypeDesc) {z : List AV} (hz : i.zero = some z) (hzl : z.length = i.size) (x : AV) (cx : Value) (hx : conc γ x = some cx) :
    (appSrc s e i.size i.bytes z x (isIntD xd)).path (fun r => ∃ cs, concL γ r.2 = some cs ∧ r.2.length = r.1 * i.size ∧ ASrc C.P w xd i e cx r.1 cs) := by
  cases hxi : isIntD xd with
  | false =>
    refine R.path_mono ?_ (path_srcCells hC hR e hi x cx hx)
    rintro r ⟨cs, hcs, hcl, hlen, hfc⟩
    have hfull : (Builtin.firstCells i.size r.1 cx).run C.P w = .ok ⟨cs⟩ w := by
      have := hfc r.1 (Nat.le_refl _)
      rw [this]
      congr 2
      rw [List.take_of_length_le (by rw [concL_len hcs, hcl]; exact Nat.le_refl _)]
    exact ⟨cs, hcs, hcl, .inl ⟨hxi, hlen, fun d => firstCells_drawn (γ := γ) hx w d hfull (fun _ _ _ _ _ => trivial)⟩⟩
  | true =>
    show (do let n ← asIdx x; guardB (Nat.ble (Nat.mul n i.bytes) 68719476736 && Nat.ble n 68719476736) _; R.ok (n, repl z n) : R (Nat × List AV)).path _
    refine R.pbd _ (path_asIdx x) fun n hn => ?_
    obtain ⟨k, rfl⟩ := hn
    refine R.pbd _ (R.path_guard _ _) fun _ hg => ?_
    simp only [Bool.and_eq_true] at hg
    have h1 : n * i.bytes ≤ 68719476736 := Nat.le_of_ble_eq_true hg.1
    have h2 : n ≤ 68719476736 := Nat.le_of_ble_eq_true hg.2
    simp only [conc, Option.some.injEq] at hx
    subst hx
    obtain ⟨zv, hzv, hzc⟩ := hT.zero z hz
    have hr := hzc γ
    have hrl : zv.cells.toList.length = i.size := by rw [concL_len hr, hzl]
    obtain ⟨q, hq1, hq2, hq3⟩ := concL_repl hr n
    refine ⟨q, hq1, ?_, .inr ⟨hxi, ⟨k, rfl⟩, h1, h2, zv, hzv, ?_⟩⟩
    · have := concL_len hq1
      show (repl z n).length = n * i.size
      rw [← this, hq2, hrl]
    · have hn : n * i.size = n * zv.cells.toList.length := by rw [hrl]
      by_cases h0 : n * i.size = 0
      · rw [if_pos h0]
        have : q = [] := List.eq_nil_of_length_eq_zero (by rw [hq2, ← hn]; exact h0)
        rw [this]
      · rw [if_neg h0]
        unfold Builtin.zeroCells
        have hsz : zv.cells.size = i.size := by simpa using hrl
        rw [hsz]
        have := zeros_eq (n := n * i.size) (m := n) hn zv.cells (fun _ => rfl) (q := q) (by rw [hq2, ← hn]) (fun j hj => hq3 j (by rw [← hn]; exact hj))
        rw [hsz] at this
        exact this

theorem ok_append (hC : Good C) (hR : Rel C base γ s w) (argTypes : List TypeId) (args : List AV) (cargs : List Value) (hargs : concL γ args = some cargs) (rt : TypeId) :
    (biAppend C s argTypes args).path (NxOk C base γ s w ((VS (Builtin.append_ ⟨argTypes⟩ rt ⟨cargs⟩)).run C.P w)) := by
  unfold biAppend
  split
  case h_2 => trivial
  rename_i bv x st xt rest
  obtain ⟨cb, cl1, hcb, h1, rfl⟩ := concL_cons.1 hargs
  obtain ⟨cx, cl2, hcx, h2, rfl⟩ := concL_cons.1 h1
  simp only [concL, Option.some.injEq] at h2; subst h2
  refine R.pbd _ (path_under hC st) fun d hd => ?_
  cases d with
  | slice e =>
    refine R.pbd _ (path_ti hC e) fun i hi => ?_
    refine R.pbd _ (path_under hC xt) fun xd hxd => ?_
    refine R.pbd _ (R.path_guard _ _) fun _ hg => ?_
    have hsz0 : Nat.beq i.size 0 = false := by simpa using hg
    have hsz : i.size ≠ 0 := by intro h; rw [h] at hsz0; cases hsz0
    refine R.pbd (fun z => i.zero = some z) ?_ fun z hz => ?_
    · refine R.path_mono ?_ (path_zero hC e)
      rintro z ⟨i', _, q1, q2, _⟩
      rw [hi.1] at q1; obtain rfl := Option.some.inj q1; exact q2
    refine R.pbd _ (R.path_guard _ _) fun _ hg2 => ?_
    have hzl : z.length = i.size := Nat.eq_of_beq_eq_true hg2
    refine R.pbd _ (path_appSrc hC hR hi.1 hi.2 xd hz hzl x cx hcx) fun r hr => ?_
    obtain ⟨cs, hcs, hcl, hsrc⟩ := hr
    have hcsl : cs.length = r.1 * i.size := by rw [concL_len hcs, hcl]
    -- a new row
    have newRowCase : ∀ (b : Option Addr) (sLen sCap : Nat) (co : List Value) (old : List AV), cb = .slice b sLen sCap → concL γ old = some co → old.length = sLen * i.size → sCap < sLen + r.1 →
        (Builtin.firstCells i.size sLen (.slice b sLen sCap)).run C.P w = .ok ⟨co⟩ w →
        (appNew s e i.size i.bytes (sLen + r.1) (old ++ r.2)).path (NxOk C base γ s w ((VS (Builtin.append_ ⟨st :: xt :: rest⟩ rt ⟨[cb, cx]⟩)).run C.P w)) := by
      intro b sLen sCap co old hcb' hold holdl hcap hco
      refine R.pbd _ (R.path_guard _ _) fun _ hg => ?_
      simp only [Bool.and_eq_true] at hg
      have hby : (sLen + r.1) * i.bytes ≤ 68719476736 := Nat.le_of_ble_eq_true hg.1.1
      have hne : sLen + r.1 ≤ 68719476736 := Nat.le_of_ble_eq_true hg.1.2
      obtain ⟨cap, rest', hc1, hc2, hrun⟩ := run_append_new (w := w) hC hd hxd hi.1 hi.2 (rest := rest) (rt := rt) hz hzl hsrc hcap hby hne
        (fun d => firstCells_drawn (γ := γ) (x := bv) (by rw [hcb, hcb']) w d hco (fun _ _ _ _ _ => trivial))
        (by rw [concL_len hold, holdl]) hcsl
      have hall := concL_append hold hcs
      have hstep := Step.alloc (base := base) hR (cellsBlk e (old ++ r.2)) (.cells (⟨co⟩ ++ ⟨cs⟩ ++ rest') e (0, 0)) 0 cap
        (w' := { w with drawn := w.drawn + 1, heap := w.heap.push (.cells (⟨co⟩ ++ ⟨cs⟩ ++ rest') e (0, 0)) }) rfl rfl rfl rfl
        (newCells_rel hi.1 hall (by rw [List.length_append, holdl, hcl, ← Nat.add_mul]; exact Nat.mul_le_mul_right _ hc1)
          (by
            simp only [Array.size_append, List.size_toArray]
            rw [hc2, concL_len hold, holdl, hcsl, ← Nat.add_mul, ← Nat.add_mul]
            rw [show sLen + r.1 + (cap - (sLen + r.1)) = cap by omega]; exact Nat.le_refl _)
          (fun j c hj => by
            rw [Array.getElem?_append_left (by
              simp only [Array.size_append, List.size_toArray]
              rcases Nat.lt_or_ge j (co ++ cs).length with h | h
              · simpa using h
              · rw [List.getElem?_eq_none h] at hj; cases hj)]
            simpa using hj) _ 0 false 0 0 (by omega))
      refine ⟨_, .slice (some ⟨w.heap.size, 0, none⟩) (sLen + r.1) cap, _, ?_, ?_, hstep⟩
      · rw [hcb']
        simp only [VS, Sem.run_bind, hrun, Result.andThen_ok]
        rfl
      · simp only [conc, if_true, Option.map_some, Option.some.injEq]
        simp only [Nat.zero_add, Nat.sub_zero]
        congr 2
        split <;> simp
    cases bv with
    | nilsl =>
      simp only [conc, Option.some.injEq] at hcb
      show (match r.1 with | 0 => R.ok (Nx.val .nilsl s) | m + 1 => appNew s e i.size i.bytes (m + 1) r.2).path _
      cases hn : r.1 with
      | zero =>
        show (R.ok (Nx.val .nilsl s)).path _
        rw [hn] at hsrc
        have := run_append_in (w := w) (w' := w) hd hxd hi.2 (rest := rest) (rt := rt) (b := none) (sLen := 0) (sCap := 0) hsrc (by omega) (fun _ h => by cases h) (fun _ => rfl)
        rw [← hcb]
        exact okVal hR this rfl
      | succ m =>
        show (appNew s e i.size i.bytes (m + 1) r.2).path _
        have := newRowCase none 0 0 [] [] hcb.symm rfl (by simp) (by omega) (by simp [Builtin.firstCells])
        rw [hn] at this
        simpa using this
    | sl b off len cap =>
      simp only [conc, Option.map_eq_some_iff] at hcb
      obtain ⟨lc, hl, hcb⟩ := hcb
      show (appSl s e i.size i.bytes b off len cap r.1 r.2).path _
      unfold appSl
      cases hle : Nat.ble (Nat.add len r.1) cap with
      | true =>
        have hle' : len + r.1 ≤ cap := Nat.le_of_ble_eq_true hle
        show (wrCells s b (Nat.add off (Nat.mul len i.size)) r.2 >>= fun s' => R.ok (Nx.val (.sl b off (Nat.add len r.1) cap) s')).path _
        refine R.pbd _ (path_wrCells hR b _ r.2 cs hcs lc hl) fun s' hs' => ?_
        obtain ⟨w', hw1, hw2⟩ := hs'
        have := run_append_in (w := w) (w' := w') hd hxd hi.2 (rest := rest) (rt := rt) (b := some ⟨lc.blk, lc.dl + off, none⟩) (sLen := len) (sCap := cap) hsrc hle'
          (fun ad h => by obtain rfl := Option.some.inj h; rw [addr_add, Nat.add_assoc]; exact hw1) (fun h => by cases h)
        rw [← hcb]
        refine ⟨γ, .slice (some ⟨lc.blk, lc.dl + off, none⟩) (len + r.1) cap, w', ?_, ?_, hw2⟩
        · simp only [VS, Sem.run_bind, this, Result.andThen_ok]; rfl
        · simp only [conc, hl]; rfl
      | false =>
        have hgt : cap < len + r.1 := by
          rcases Nat.lt_or_ge cap (len + r.1) with h | h
          · exact h
          · have := Nat.ble_eq_true_of_le h; rw [show len.add r.1 = len + r.1 from rfl, this] at hle; cases hle
        show (rdCells s b off (Nat.mul len i.size) >>= fun old => appNew s e i.size i.bytes (Nat.add len r.1) (old ++ r.2)).path _
        refine R.pbd _ (path_rdCells hR b off _) fun old hold => ?_
        obtain ⟨lc', co, q1, q2, q3, q4⟩ := hold
        rw [hl] at q1; obtain rfl := Option.some.inj q1
        exact newRowCase (some ⟨lc.blk, lc.dl + off, none⟩) len cap co old hcb.symm q2 q3 hgt (by
          simp only [Builtin.firstCells]
          exact run_loadCells' q4 _ (by rw [concL_len q2]; exact q3))
    | osl b pre e0 len sz' =>
      have hcb0 := hcb
      simp only [conc, Option.map_eq_some_iff] at hcb
      obtain ⟨lc, hl, hcb⟩ := hcb
      show (match r.1 with | 0 => (guardB (oOk s b e (Nat.add e0 len) i.size sz') "append: nothing" >>= fun _ => R.ok (Nx.val (.osl b pre e0 len sz') s)) | m + 1 => (match Nat.beq i.size sz' with | true => appOsl s e i.size i.bytes b pre e0 len (m + 1) r.2 | false => R.bad _)).path _
      cases hn : r.1 with
      | zero =>
        show (guardB (oOk s b e (Nat.add e0 len) i.size sz') _ >>= fun _ => R.ok (Nx.val (.osl b pre e0 len sz') s)).path _
        refine R.pbd _ (R.path_guard _ _) fun _ hg3 => ?_
        obtain ⟨_, _, hcp⟩ := oOk_spec hR hi.1 hl hg3
        have hcp' : e0 + len ≤ lc.cp := hcp
        rw [hn] at hsrc
        have hcs0 : cs = [] := by
          have : cs.length = 0 := by rw [hcsl, hn]; simp
          exact List.eq_nil_of_length_eq_zero this
        subst hcs0
        have := run_append_in (w := w) (w' := w) hd hxd hi.2 (rest := rest) (rt := rt) (b := some ⟨lc.blk, lc.dl + (if e0 < lc.cp then e0 else pre) * sz', none⟩) (sLen := len) (sCap := lc.cp - e0) hsrc (by omega) (fun _ _ => rfl) (fun h => by cases h)
        rw [← hcb]
        exact okVal hR this (by simp [conc, hl])
      | succ m =>
        show (match Nat.beq i.size sz' with | true => appOsl s e i.size i.bytes b pre e0 len (m + 1) r.2 | false => R.bad _).path _
        cases hbs : Nat.beq i.size sz' with
        | false => trivial
        | true =>
          have hsz' : i.size = sz' := Nat.eq_of_beq_eq_true hbs
          subst hsz'
          show (appOsl s e i.size i.bytes b pre e0 len (m + 1) r.2).path _
          rw [hn] at hsrc hcsl hcl
          unfold appOsl
          cases hb : s.h.get b with
          | none => trivial
          | some q =>
            cases q with
            | cells el cells k fz anc st' sg =>
              cases st' with
              | true => trivial
              | false =>
                simp only
                refine R.pbd _ (R.path_guard _ _) fun _ hg3 => ?_
                have hel : el = e := Nat.eq_of_beq_eq_true hg3
                subst hel
                obtain ⟨l', o, q1, q2, vs, lo, hi'', hoo, g1, g2, ⟨ii, g3, g4, g5, _, _⟩, g6, _⟩ := hR.blk b _ hb
                rw [hl] at q1; obtain rfl := Option.some.inj q1
                subst hoo
                rw [hi.1] at g3; obtain rfl := Option.some.inj g3
                cases hin : Nat.ble (Nat.mul (Nat.add (Nat.add e0 len) (m + 1)) i.size) k with
                | true =>
                  have hin' : (e0 + len + (m + 1)) * i.size ≤ k := Nat.le_of_ble_eq_true hin
                  have hroom : e0 + len + (m + 1) ≤ lc.cp := Nat.le_of_mul_le_mul_right (Nat.le_trans hin' g4) (Nat.pos_of_ne_zero hsz)
                  show (wrCells s b (Nat.mul (Nat.add e0 len) i.size) r.2 >>= fun s' => R.ok (Nx.val (.osl b pre e0 (Nat.add len (m + 1)) i.size) s')).path _
                  refine R.pbd _ (path_wrCells hR b _ r.2 cs hcs lc hl) fun s' hs' => ?_
                  obtain ⟨w', hw1, hw2⟩ := hs'
                  have hlt : e0 < lc.cp := by omega
                  have := run_append_in (w := w) (w' := w') hd hxd hi.2 (rest := rest) (rt := rt) (b := some ⟨lc.blk, lc.dl + (if e0 < lc.cp then e0 else pre) * i.size, none⟩) (sLen := len) (sCap := lc.cp - e0) hsrc (by omega)
                    (fun ad h => by
                      obtain rfl := Option.some.inj h
                      rw [if_pos hlt, addr_add]
                      rw [show lc.dl + e0 * i.size + len * i.size = lc.dl + (e0 + len) * i.size by rw [Nat.add_mul]; omega]; exact hw1) (fun h => by cases h)
                  rw [← hcb]
                  refine ⟨γ, .slice (some ⟨lc.blk, lc.dl + (if e0 < lc.cp then e0 else pre) * i.size, none⟩) (len + (m + 1)) (lc.cp - e0), w', ?_, ?_, hw2⟩
                  · simp only [VS, Sem.run_bind, this, Result.andThen_ok]; rfl
                  · simp only [conc, hl]; rfl
                | false =>
                  show (appOut s el i.size i.bytes b e0 len (m + 1) cells k fz anc sg r.2).path _
                  unfold appOut
                  refine R.pbd _ (R.path_guard _ _) fun _ hg4 => ?_
                  simp only [Bool.and_eq_true] at hg4
                  obtain ⟨⟨⟨⟨⟨p1, p2⟩, p3⟩, p4⟩, p5⟩, p6⟩ := hg4
                  have hk : (e0 + len) * i.size = k := Nat.eq_of_beq_eq_true p1
                  have hfz : fz ≤ k := Nat.le_of_ble_eq_true p5
                  have hle0 : e0 + len ≤ lc.cp := Nat.le_of_mul_le_mul_right (by rw [hk]; exact g4) (Nat.pos_of_ne_zero hsz)
                  refine R.pbd _ (path_getCells g2 (Nat.mul len i.size) (Nat.mul e0 i.size) (by show e0 * i.size + len * i.size ≤ k; rw [← Nat.add_mul, hk]; exact Nat.le_refl _)) fun old hold => ?_
                  obtain ⟨co, o1, o2, o3⟩ := hold
                  have o2' : old.length = len * i.size := o2
                  have hblt : b < s.next := hR.lt hl
                  by_cases hroom : e0 + len + (m + 1) ≤ lc.cp
                  · -- within the block
                    have hlt : e0 < lc.cp := by omega
                    have hmul : (e0 + len + (m + 1)) * i.size ≤ lc.cp * i.size := Nat.mul_le_mul_right _ hroom
                    have hexp : (e0 + len + (m + 1)) * i.size = k + (m + 1) * i.size := by rw [Nat.add_mul, hk]
                    have hst := run_storeCells (P := C.P) lc.blk el lo hi'' cs (lc.dl + k) 0 vs w q2 (by rw [hcsl]; omega) (allOne_conc p6 hcs) (by
                      intro q hq1 hq2 hq
                      rcases g6 rfl q hq.1 hq.2 with h | ⟨_, h⟩
                      · omega
                      · rw [hcsl] at hq2; omega)
                    have hrun := run_append_in (w := w) (w' := { w with heap := w.heap.setIfInBounds lc.blk (.cells (arrSet vs (lc.dl + k + 0) cs) el (lo, hi'')) }) hd hxd hi.2 (rest := rest) (rt := rt)
                      (b := some ⟨lc.blk, lc.dl + (if e0 < lc.cp then e0 else pre) * i.size, none⟩) (sLen := len) (sCap := lc.cp - e0) hsrc (by omega)
                      (fun ad h => by
                        obtain rfl := Option.some.inj h
                        rw [if_pos hlt, addr_add]
                        rw [show lc.dl + e0 * i.size + len * i.size = lc.dl + k by rw [← hk, Nat.add_mul]; omega]; exact hst) (fun h => by cases h)
                    have hal := hR.alias hb hl q2 hi.1 hk hroom o1 hcs o2' hcl (fun j v hj => o3 j v hj) hfz
                      { w with heap := w.heap.setIfInBounds lc.blk (.cells (arrSet vs (lc.dl + k + 0) cs) el (lo, hi'')) } rfl
                    rw [← hcb]
                    refine ⟨fun id => if id = s.next then some ⟨lc.blk, lc.dl + e0 * i.size, lc.cp - e0, none⟩ else γ id, .slice (some ⟨lc.blk, lc.dl + (if e0 < lc.cp then e0 else pre) * i.size, none⟩) (len + (m + 1)) (lc.cp - e0), _, (by simp only [VS, Sem.run_bind, hrun, Result.andThen_ok]; rfl), ?_, ?_⟩
                    · have : ¬ (lc.cp - e0 = 0) := by omega
                      simp only [conc, if_true, Option.map_some, Option.some.injEq]
                      rw [if_pos hlt, if_pos (by omega)]
                      simp
                    · refine ⟨?_, hal, ⟨by simp, rfl, rfl, rfl, ?_⟩, ?_, Nat.le_succ _, fun _ _ h => hR.lt h, ?_, ?_⟩
                      · intro id l hl'
                        have : id ≠ s.next := Nat.ne_of_lt (hR.lt hl')
                        exact ⟨l, by simp [this, hl'], rfl, rfl, rfl⟩
                      · intro kk ob hkk hnl
                        have : kk ≠ lc.blk := fun h => hnl ⟨b, _, lc, hb, rfl, hl, h.symm⟩
                        simp [Ne.symm this, hkk]
                      · rintro kk ⟨id, x', l, h1, h2, h3, h4⟩ _
                        simp only [Tr.get_set] at h1
                        by_cases e1 : s.next = id
                        · subst e1
                          simp only [if_true] at h3
                          obtain rfl := Option.some.inj h3
                          exact ⟨b, _, lc, hb, rfl, hl, h4⟩
                        · rw [if_neg e1] at h1
                          have e1' : id ≠ s.next := Ne.symm e1
                          simp only [e1', if_false] at h3
                          by_cases e2 : b = id
                          · subst e2
                            simp only [if_true, Option.some.injEq] at h1
                            subst h1; cases h2
                          · rw [if_neg e2] at h1
                            exact ⟨id, x', l, h1, h2, h3, h4⟩
                      · intro id l' h
                        by_cases e : id = s.next
                        · simp only [e, if_true, Option.some.injEq] at h
                          subst h
                          exact .inr ⟨by omega, .inr ⟨b, _, lc, hb, hl, rfl⟩⟩
                        · simp only [e, if_false] at h
                          exact .inl ⟨l', h⟩
                      · intro id x' h1 hlt1
                        simp only [Tr.get_set] at h1
                        rw [if_neg (by omega)] at h1
                        by_cases e2 : b = id
                        · subst e2; exact ⟨_, hb⟩
                        · rw [if_neg e2] at h1
                          exact ⟨x', h1⟩
                  · -- a row of its own
                    have hby : (len + (m + 1)) * i.bytes ≤ 68719476736 := Nat.le_of_ble_eq_true p2
                    have hne : len + (m + 1) ≤ 68719476736 := Nat.le_of_ble_eq_true p3
                    have hcol : co.length = len * i.size := by rw [concL_len o1, o2']
                    have hco : (Builtin.firstCells i.size len (.slice (some ⟨lc.blk, lc.dl + (if e0 < lc.cp then e0 else pre) * i.size, none⟩) len (lc.cp - e0))).run C.P w = .ok ⟨co⟩ w := by
                      simp only [Builtin.firstCells]
                      by_cases hlen0 : len = 0
                      · subst hlen0
                        have : co = [] := List.eq_nil_of_length_eq_zero (by rw [hcol]; simp)
                        subst this
                        simp only [Nat.zero_mul]
                        rfl
                      · have hlt : e0 < lc.cp := by omega
                        rw [if_pos hlt]
                        refine run_loadCells' (fun j v hj => ?_) _ hcol
                        have hv := o3 j v hj
                        have hv' : vs[lc.dl + e0 * i.size + j]? = some v := hv
                        simp only [World.cell?, q2]
                        simpa using hv'
                    obtain ⟨cap, rest', hc1, hc2, hrun⟩ := run_append_new (w := w) hC hd hxd hi.1 hi.2 (rest := rest) (rt := rt) (b := some ⟨lc.blk, lc.dl + (if e0 < lc.cp then e0 else pre) * i.size, none⟩) (sCap := lc.cp - e0) hz hzl hsrc (by omega) hby hne
                      (fun d => firstCells_drawn (γ := γ) (x := .osl b pre e0 len i.size) (by simp only [conc, hl]; rfl) w d hco (fun _ _ _ _ _ => trivial))
                      hcol hcsl
                    have hall := concL_append o1 hcs
                    have hst := Step.stale hR hb
                    have hstep := Step.alloc (base := base) hst.rel (.cells el (Tr.ofList (old ++ r.2)) ((len + (m + 1)) * i.size) (fz - e0 * i.size) (b :: anc) false sg) (.cells (⟨co⟩ ++ ⟨cs⟩ ++ rest') el (0, 0)) 0 cap
                      (w' := { w with drawn := w.drawn + 1, heap := w.heap.push (.cells (⟨co⟩ ++ ⟨cs⟩ ++ rest') el (0, 0)) }) rfl rfl rfl rfl
                      (by
                        intro γ' g1
                        have := newCells_rel (C := C) hi.1 hall (by rw [List.length_append, o2', hcl, ← Nat.add_mul]; exact Nat.mul_le_mul_right _ hc1) (arr := ⟨co⟩ ++ ⟨cs⟩ ++ rest')
                          (by
                            simp only [Array.size_append, List.size_toArray]
                            rw [hc2, hcol, hcsl, ← Nat.add_mul, ← Nat.add_mul]
                            rw [show len + (m + 1) + (cap - (len + (m + 1))) = cap by omega]; exact Nat.le_refl _)
                          (fun j c hj => by
                            rw [Array.getElem?_append_left (by
                              simp only [Array.size_append, List.size_toArray]
                              rcases Nat.lt_or_ge j (co ++ cs).length with h | h
                              · simpa using h
                              · rw [List.getElem?_eq_none h] at hj; cases hj)]
                            simpa using hj) w.heap.size (fz - e0 * i.size) sg 0 0 (by omega) (by omega) γ' g1
                        rw [List.length_append, o2', hcl, ← Nat.add_mul] at this
                        exact this)
                    refine ⟨_, .slice (some ⟨w.heap.size, 0, none⟩) (len + (m + 1)) cap, _, ?_, ?_, hst.trans hstep⟩
                    · rw [← hcb]
                      simp only [VS, Sem.run_bind, hrun, Result.andThen_ok]
                      rfl
                    · simp only [conc, if_true, Option.map_some, Option.some.injEq]
                      simp only [Nat.zero_add, Nat.sub_zero]
                      congr 2
                      split <;> simp
            | _ => trivial
    | _ => trivial
  | _ => trivial

end
end Go.Proofs.YtabknehmohoemaaGreatDoor.Abs

namespace Go.Proofs.YtabknehmohoemaaGreatDoor.Abs
open Go

section
variable {C : Ctx} {base : Nat} {γ : G} {s : S} {w : World} {nt : Nat} {t : Tr AV} {a : Act}

/-- a map's entries -/
def MapAt (γ : G) (s : S) (w : World) (x : AV) (cx : Value) (m : List ME × Nat) : Prop :=
  (x = .nilmap ∧ cx = .map none ∧ m = ([], 0)) ∨
  (∃ r lc ents, x = .mapv r ∧ γ r = some lc ∧ cx = .map (some lc.blk) ∧ s.h.get r = some (.map m.1 m.2) ∧ w.heap[lc.blk]? = some (.map ents m.2) ∧
    MapEnts γ m.1 ents.toList ∧ (∃ d, ∀ e ∈ m.1, keyOf d e.k = true))

theorem path_getMap (hR : Rel C base γ s w) (x : AV) (cx : Value) (hx : conc γ x = some cx) : (getMap s x).path (MapAt γ s w x cx) := by
  cases x with
  | nilmap => simp only [conc, Option.some.injEq] at hx; exact .inl ⟨rfl, hx.symm, rfl⟩
  | mapv r =>
    simp only [conc, Option.map_eq_some_iff] at hx
    obtain ⟨lc, hl, rfl⟩ := hx
    show (match s.h.get r with | some (.map es c) => R.ok (es, c) | _ => R.bad _).path _
    cases hb : s.h.get r with
    | none => trivial
    | some b =>
      cases b with
      | map es c =>
        obtain ⟨l', o, h1, h2, ents, rfl, h3, h4⟩ := hR.blk r _ hb
        rw [hl] at h1; obtain rfl := Option.some.inj h1
        exact .inr ⟨r, lc, ents, rfl, hl, rfl, hb, h2, h3, h4⟩
      | _ => trivial
  | _ => trivial

theorem runGetMap {P : Program} {r c : Nat} {es : Array MapEntry} {w : World} (h : w.heap[r]? = some (.map es c)) : (getObj r).run P w = .ok (.map es c) w := by
  simp [getObj, Sem.run, h]
theorem run_sliceData {P : Program} {x : Array TypeId} {rt : TypeId} {ad : Addr} {l c : Nat} {w : World} (h : c ≠ 0) :
    (Builtin.unsafeSliceData_ x rt ⟨[.slice (some ad) l c]⟩).run P w = .ok (.pointer (some ad)) w := by
  have : Builtin.unsafeSliceData_ x rt ⟨[.slice (some ad) l c]⟩ = (if c ≠ 0 then pure (.pointer (some ad)) else _) := rfl
  rw [this, if_pos h]; rfl

theorem MapEnts.len : ∀ {es : List ME} {L : List MapEntry}, MapEnts γ es L → es.length = L.length
  | [], [], _ => rfl
  | _ :: _, _ :: _, h => by simp [MapEnts.len h.2]
  | [], _ :: _, h => h.elim
  | _ :: _, [], h => h.elim

theorem ok_len (hC : Good C) (hR : Rel C base γ s w) (argTypes : List TypeId) (args : List AV) (cargs : List Value) (hargs : concL γ args = some cargs) (rt : TypeId) :
    (biLen C s argTypes args).path (NxOk C base γ s w ((VS (Builtin.len_ ⟨argTypes⟩ rt ⟨cargs⟩)).run C.P w)) := by
  unfold biLen
  split
  case h_2 => trivial
  rename_i x t rest
  obtain ⟨cx, cl1, hcx, h1, rfl⟩ := concL_cons.1 hargs
  simp only [concL, Option.some.injEq] at h1; subst h1
  refine R.pbd _ (path_under hC t) fun d hd => ?_
  have key : ∀ n : Nat, ((Builtin.len_ ⟨t :: rest⟩ rt ⟨[cx]⟩).run C.P w = .ok (goInt n) w) → (R.ok (Nx.val (.int .i64 (.ofNat n)) s)).path (NxOk C base γ s w ((VS (Builtin.len_ ⟨t :: rest⟩ rt ⟨[cx]⟩)).run C.P w)) :=
    fun n h => okVal hR h rfl
  have symc : ∀ v, lenSym d x = some v → (R.ok (Nx.val v s)).path (NxOk C base γ s w ((VS (Builtin.len_ ⟨t :: rest⟩ rt ⟨[cx]⟩)).run C.P w)) := by
    intro v hv
    unfold lenSym at hv
    cases d <;> first | cases hv | skip
    cases x <;> first | cases hv | skip
    rename_i k i
    simp only at hv
    cases hk : k.str && !k.len with
    | false => rw [hk] at hv; cases hv
    | true =>
      rw [hk] at hv
      obtain rfl := Option.some.inj hv
      simp only [Bool.and_eq_true, Bool.not_eq_true'] at hk
      obtain ⟨l, u, hl, hu, hf, g1, -⟩ := conc_see hcx
      obtain rfl := g1 hk.2
      have hi := hf.2.2.1 hk.1
      cases cx with
      | string z =>
        refine okVal hR (c := goInt z.size) ?_ ?_
        · simp only [Builtin.len_, List.getElem?_toArray, List.getElem?_cons_zero]
          rw [run_und' hd]
          rfl
        · have hf' : (⟨k.int, k.str, true, k.lo, k.hi, k.ne⟩ : Know).fits (.string z) := hf
          simp only [conc, hl, hu, Option.bind_some, Know.see, if_pos hf', goInt]
      | _ => cases hi
  show (match lenSym d x with | some v => R.ok (Nx.val v s) | none => (lenOfA C s d x >>= fun n => R.ok (Nx.val (.int .i64 (.ofNat n)) s))).path _
  cases hls : lenSym d x with
  | some v => exact symc v hls
  | none =>
  simp only
  cases d with
  | string =>
    cases x with
    | str l =>
      simp only [conc, Option.some.injEq] at hcx; subst hcx
      refine key _ ?_
      simp only [Builtin.len_, List.getElem?_toArray, List.getElem?_cons_zero]
      rw [run_und' hd]
      rfl
    | _ => trivial
  | array n e =>
    refine key _ ?_
    simp only [Builtin.len_, List.getElem?_toArray, List.getElem?_cons_zero]
    rw [run_und' hd]
    rfl
  | pointer e =>
    refine R.pbd (fun n => (Builtin.len_ ⟨t :: rest⟩ rt ⟨[cx]⟩).run C.P w = .ok (goInt (Int.ofNat n)) w) ?_ (fun n hn => key n hn)
    refine R.pbd _ (path_under hC e) fun d hd' => ?_
    cases d with
    | array n _ =>
      show (Builtin.len_ ⟨t :: rest⟩ rt ⟨[cx]⟩).run C.P w = .ok (goInt (Int.ofNat n)) w
      simp only [Builtin.len_, List.getElem?_toArray, List.getElem?_cons_zero]
      rw [run_und' hd]
      simp only
      rw [run_und' hd']
      rfl
    | _ => trivial
  | slice e =>
    cases x with
    | nilsl =>
      simp only [conc, Option.some.injEq] at hcx; subst hcx
      refine key _ ?_
      simp only [Builtin.len_, List.getElem?_toArray, List.getElem?_cons_zero]
      rw [run_und' hd]
      rfl
    | sl b off len cap =>
      simp only [conc, Option.map_eq_some_iff] at hcx
      obtain ⟨lc, hl, rfl⟩ := hcx
      refine key _ ?_
      simp only [Builtin.len_, List.getElem?_toArray, List.getElem?_cons_zero]
      rw [run_und' hd]
      rfl
    | osl b pre e0 len sz =>
      simp only [conc, Option.map_eq_some_iff] at hcx
      obtain ⟨lc, hl, rfl⟩ := hcx
      refine key _ ?_
      simp only [Builtin.len_, List.getElem?_toArray, List.getElem?_cons_zero]
      rw [run_und' hd]
      rfl
    | _ => trivial
  | map k v =>
    refine R.pbd (fun n => (Builtin.len_ ⟨t :: rest⟩ rt ⟨[cx]⟩).run C.P w = .ok (goInt (Int.ofNat n)) w) ?_ (fun n hn => key n hn)
    refine R.pbd _ (path_getMap hR x cx hcx) fun m hm => ?_
    show (Builtin.len_ ⟨t :: rest⟩ rt ⟨[cx]⟩).run C.P w = .ok (goInt (Int.ofNat m.1.length)) w
    simp only [Builtin.len_, List.getElem?_toArray, List.getElem?_cons_zero]
    rw [run_und' hd]
    rcases hm with ⟨rfl, rfl, rfl⟩ | ⟨r, lc, ents, rfl, hl, rfl, h1, h2, h4, _⟩
    · rfl
    · simp only [Sem.run_bind, runGetMap h2, Result.andThen_ok, Sem.run_pure]
      rw [h4.len]
      simp
  | _ => trivial

theorem ok_cap (hC : Good C) (hR : Rel C base γ s w) (argTypes : List TypeId) (args : List AV) (cargs : List Value) (hargs : concL γ args = some cargs) (rt : TypeId) :
    (biCap C s argTypes args).path (NxOk C base γ s w ((VS (Builtin.cap_ ⟨argTypes⟩ rt ⟨cargs⟩)).run C.P w)) := by
  unfold biCap
  split
  case h_2 => trivial
  rename_i x t rest
  obtain ⟨cx, cl1, hcx, h1, rfl⟩ := concL_cons.1 hargs
  simp only [concL, Option.some.injEq] at h1; subst h1
  refine R.pbd _ (path_under hC t) fun d hd => ?_
  cases d with
  | slice e =>
    cases x with
    | nilsl =>
      simp only [conc, Option.some.injEq] at hcx; subst hcx
      refine okVal hR (c := goInt 0) ?_ rfl
      simp only [Builtin.cap_, List.getElem?_toArray, List.getElem?_cons_zero]
      rw [run_und' hd]
      rfl
    | sl b off len cap =>
      simp only [conc, Option.map_eq_some_iff] at hcx
      obtain ⟨lc, hl, rfl⟩ := hcx
      refine okVal hR (c := goInt cap) ?_ rfl
      simp only [Builtin.cap_, List.getElem?_toArray, List.getElem?_cons_zero]
      rw [run_und' hd]
      rfl
    | _ => trivial
  | _ => trivial

theorem ok_sliceData (hC : Good C) (hR : Rel C base γ s w) (argTypes : List TypeId) (args : List AV) (cargs : List Value) (hargs : concL γ args = some cargs) (rt : TypeId) :
    (biSliceData C s argTypes args).path (NxOk C base γ s w ((VS (Builtin.unsafeSliceData_ ⟨argTypes⟩ rt ⟨cargs⟩)).run C.P w)) := by
  unfold biSliceData
  split
  · obtain ⟨cx, cl1, hcx, h1, rfl⟩ := concL_cons.1 hargs
    simp only [concL, Option.some.injEq] at h1; subst h1
    simp only [conc, Option.some.injEq] at hcx; subst hcx
    exact okVal hR (c := .pointer none) rfl rfl
  · rename_i b off len cap
    obtain ⟨cx, cl1, hcx, h1, rfl⟩ := concL_cons.1 hargs
    simp only [concL, Option.some.injEq] at h1; subst h1
    simp only [conc, Option.map_eq_some_iff] at hcx
    obtain ⟨lc, hl, rfl⟩ := hcx
    cases hb : Nat.beq cap 0 with
    | true => trivial
    | false =>
      have hne : cap ≠ 0 := by intro h; rw [h] at hb; cases hb
      refine okVal hR (c := .pointer (some ⟨lc.blk, lc.dl + off, none⟩)) ?_ (by simp [conc, hl])
      exact run_sliceData hne
  · rename_i b pre e0 len sz
    obtain ⟨cx, cl1, hcx, h1, rfl⟩ := concL_cons.1 hargs
    simp only [concL, Option.some.injEq] at h1; subst h1
    simp only [conc, Option.map_eq_some_iff] at hcx
    obtain ⟨lc, hl, rfl⟩ := hcx
    split
    · rename_i st rest n
      refine R.pbd _ (path_under hC st) fun d hd => ?_
      cases d with
      | slice e =>
        refine R.pbd _ (path_ti hC e) fun i hi => ?_
        refine R.pbd _ (R.path_guard _ _) fun _ hg => ?_
        obtain ⟨_, _, hcp⟩ := oOk_spec hR hi.1 hl hg
        have hcp' : e0 + (n + 1) ≤ lc.cp := hcp
        refine okVal hR (c := .pointer (some ⟨lc.blk, lc.dl + e0 * sz, none⟩)) ?_ (by simp [conc, hl])
        have hlt : e0 < lc.cp := by omega
        have hne : lc.cp - e0 ≠ 0 := by omega
        rw [if_pos hlt]; exact run_sliceData hne
      | _ => trivial
    · trivial
  · trivial

theorem minL_run (k : IntKind) : ∀ (l : List AV) (cl : List Value) (m : Int), concL γ l = some cl →
    (minL k l m).path (fun v => ∃ n, v = .int k n ∧ (cl.foldlM Builtin.min2 (.int k m)).run C.P w = .ok (.int k n) w)
  | [], cl, m, h => by
    simp only [concL, Option.some.injEq] at h; subst h
    exact ⟨m, rfl, rfl⟩
  | v :: l, cl, m, h => by
    obtain ⟨cv, cl', hcv, h1, rfl⟩ := concL_cons.1 h
    cases v with
    | int k' n =>
      simp only [conc, Option.some.injEq] at hcv; subst hcv
      have := minL_run k l cl' (if n < m then n else m) h1
      show (minL k l (match decide (n < m) with | true => n | false => m)).path _
      rw [show (match decide (n < m) with | true => n | false => m) = if n < m then n else m by by_cases h : n < m <;> simp [h]]
      refine R.path_mono ?_ this
      rintro v ⟨n', rfl, hr⟩
      refine ⟨n', rfl, ?_⟩
      simp only [List.foldlM_cons, Builtin.min2, Sem.run_bind, Sem.run_pure, Result.andThen_ok]
      exact hr
    | _ => trivial
theorem maxL_run (k : IntKind) : ∀ (l : List AV) (cl : List Value) (m : Int), concL γ l = some cl →
    (maxL k l m).path (fun v => ∃ n, v = .int k n ∧ (cl.foldlM Builtin.max2 (.int k m)).run C.P w = .ok (.int k n) w)
  | [], cl, m, h => by
    simp only [concL, Option.some.injEq] at h; subst h
    exact ⟨m, rfl, rfl⟩
  | v :: l, cl, m, h => by
    obtain ⟨cv, cl', hcv, h1, rfl⟩ := concL_cons.1 h
    cases v with
    | int k' n =>
      simp only [conc, Option.some.injEq] at hcv; subst hcv
      have := maxL_run k l cl' (if n > m then n else m) h1
      show (maxL k l (match decide (m < n) with | true => n | false => m)).path _
      rw [show (match decide (m < n) with | true => n | false => m) = if n > m then n else m by by_cases h : m < n <;> simp [h]]
      refine R.path_mono ?_ this
      rintro v ⟨n', rfl, hr⟩
      refine ⟨n', rfl, ?_⟩
      simp only [List.foldlM_cons, Builtin.max2, Sem.run_bind, Sem.run_pure, Result.andThen_ok]
      exact hr
    | _ => trivial

theorem ok_min (hR : Rel C base γ s w) (argTypes : List TypeId) (args : List AV) (cargs : List Value) (hargs : concL γ args = some cargs) (rt : TypeId) :
    (biMin s args).path (NxOk C base γ s w ((VS (Builtin.min_ ⟨argTypes⟩ rt ⟨cargs⟩)).run C.P w)) := by
  unfold biMin
  split
  · obtain ⟨cx, cl1, hcx, h1, rfl⟩ := concL_cons.1 hargs
    simp only [conc, Option.some.injEq] at hcx; subst hcx
    rename_i k n l
    refine R.pbd _ (minL_run (C := C) (w := w) k l cl1 n h1) fun v hv => ?_
    obtain ⟨m, rfl, hr⟩ := hv
    exact okVal hR hr rfl
  · trivial
theorem ok_max (hR : Rel C base γ s w) (argTypes : List TypeId) (args : List AV) (cargs : List Value) (hargs : concL γ args = some cargs) (rt : TypeId) :
    (biMax s args).path (NxOk C base γ s w ((VS (Builtin.max_ ⟨argTypes⟩ rt ⟨cargs⟩)).run C.P w)) := by
  unfold biMax
  split
  · obtain ⟨cx, cl1, hcx, h1, rfl⟩ := concL_cons.1 hargs
    simp only [conc, Option.some.injEq] at hcx; subst hcx
    rename_i k n l
    refine R.pbd _ (maxL_run (C := C) (w := w) k l cl1 n h1) fun v hv => ?_
    obtain ⟨m, rfl, hr⟩ := hv
    exact okVal hR hr rfl
  · trivial

theorem ok_panic (hR : Rel C base γ s w) (args : List AV) (cargs : List Value) (hargs : concL γ args = some cargs) :
    (biPanic s args).path (NxOk C base γ s w ((VS (Instr.panic ((⟨cargs⟩ : Array Value).getD 0 .nilIface))).run C.P w)) := by
  unfold biPanic
  split
  · obtain ⟨cx, cl1, hcx, h1, rfl⟩ := concL_cons.1 hargs
    simp only [concL, Option.some.injEq] at h1; subst h1
    rename_i t v
    have hcx' := hcx
    simp only [conc, Option.map_eq_some_iff] at hcx
    obtain ⟨cv, hcv, rfl⟩ := hcx
    exact ⟨γ, .iface t cv, w, rfl, hcx', Step.refl hR⟩
  · trivial

theorem ok_copy (hC : Good C) (hR : Rel C base γ s w) (argTypes : List TypeId) (args : List AV) (cargs : List Value) (hargs : concL γ args = some cargs) (rt : TypeId) :
    (biCopy C s argTypes args).path (NxOk C base γ s w ((VS (Builtin.copy_ ⟨argTypes⟩ rt ⟨cargs⟩)).run C.P w)) := by
  unfold biCopy
  split
  case h_2 => trivial
  rename_i dst src st rest
  obtain ⟨cd, cl1, hcd, h1, rfl⟩ := concL_cons.1 hargs
  obtain ⟨cs, cl2, hcs, h2, rfl⟩ := concL_cons.1 h1
  simp only [concL, Option.some.injEq] at h2; subst h2
  refine R.pbd _ (path_under hC st) fun d hd => ?_
  cases d with
  | slice e =>
    refine R.pbd _ (path_ti hC e) fun i hi => ?_
    refine R.pbd _ (path_srcCells hC hR e hi.1 src cs hcs) fun r hr => ?_
    obtain ⟨cc, hcc, hcl, hlen, hfc⟩ := hr
    have run : ∀ (b : Option Addr) (dLen dCap : Nat) (w' : World), cd = .slice b dLen dCap →
        (∀ ad, b = some ad → (storeCells ad (cc.take (Nat.min r.1 dLen * i.size))).run C.P w = .ok () w') → (b = none → w' = w) →
        (Builtin.copy_ ⟨st :: rest⟩ rt ⟨[cd, cs]⟩).run C.P w = .ok (goInt (Nat.min r.1 dLen)) w' := by
      intro b dLen dCap w' hcd' hst hnone
      subst hcd'
      simp only [Builtin.copy_, List.getElem?_toArray, List.getElem?_cons_zero, List.getElem?_cons_succ]
      rw [run_und' hd]
      simp only [Sem.run_bind, hlen, Result.andThen_ok, hi.2.size w, hfc _ (Nat.min_le_left _ _)]
      cases b with
      | none => simp only [hnone rfl]; rfl
      | some ad =>
        simp only [Sem.run_bind, hst ad rfl, Result.andThen_ok, Sem.run_pure]
    show (copyTo s e i.size r dst).path _
    cases dst with
    | nilsl =>
      simp only [conc, Option.some.injEq] at hcd
      have := run none 0 0 w hcd.symm (fun _ h => by cases h) (fun _ => rfl)
      refine okVal hR this ?_
      simp [conc, goInt]
    | sl b off len cap =>
      simp only [conc, Option.map_eq_some_iff] at hcd
      obtain ⟨lc, hl, hcd⟩ := hcd
      refine R.pbd _ (path_wrCells hR b off _ _ (concL_take _ hcc) lc hl) fun s' hs' => ?_
      obtain ⟨w', hw1, hw2⟩ := hs'
      have := run _ _ _ w' hcd.symm (fun ad h => by obtain rfl := Option.some.inj h; exact hw1) (fun h => by cases h)
      refine ⟨γ, _, w', ?_, rfl, hw2⟩
      simp only [VS, Sem.run_bind, this, Result.andThen_ok]; rfl
    | osl b pre e0 len sz =>
      simp only [conc, Option.map_eq_some_iff] at hcd
      obtain ⟨lc, hl, hcd⟩ := hcd
      refine R.pbd _ (R.path_guard _ _) fun _ hg => ?_
      obtain ⟨hsz, _, hcp⟩ := oOk_spec hR hi.1 hl hg
      have hcp' : e0 + len ≤ lc.cp := hcp
      refine R.pbd _ (path_wrCells hR b _ _ _ (concL_take _ hcc) lc hl) fun s' hs' => ?_
      obtain ⟨w', hw1, hw2⟩ := hs'
      by_cases h0 : len = 0
      · subst h0
        have hz : cc.take (Nat.min r.1 0 * i.size) = [] := by simp
        have hw0 : w' = w := by
          have hw1' : (storeCells ⟨lc.blk, lc.dl + e0 * sz, none⟩ (cc.take (Nat.min r.1 0 * i.size))).run C.P w = .ok () w' := hw1
          rw [hz] at hw1'
          simp only [storeCells, Sem.run_pure, Result.ok.injEq] at hw1'
          exact hw1'.2.symm
        have := run _ _ _ w' hcd.symm (fun ad h => by rw [hz, hw0]; rfl) (fun h => by cases h)
        refine ⟨γ, _, w', ?_, rfl, hw2⟩
        simp only [VS, Sem.run_bind, this, Result.andThen_ok]; rfl
      · have hlt : e0 < lc.cp := by omega
        have := run _ _ _ w' hcd.symm (fun ad h => by obtain rfl := Option.some.inj h; rw [if_pos hlt]; exact hw1) (fun h => by cases h)
        refine ⟨γ, _, w', ?_, rfl, hw2⟩
        simp only [VS, Sem.run_bind, this, Result.andThen_ok]; rfl
    | _ => trivial
  | _ => trivial

end
end Go.Proofs.YtabknehmohoemaaGreatDoor.Abs

namespace Go.Proofs.YtabknehmohoemaaGreatDoor.Abs
open Go

section
variable {C : Ctx} {base : Nat} {γ : G} {s : S} {w : World} {nt : Nat} {t : Tr AV} {a : Act}

theorem runAsInt {P : Program} (k : IntKind) (n : Int) (w : World) : (Go.asInt (.int k n)).run P w = .ok n w := rfl

theorem runSetMap {P : Program} {r c : Nat} {es es' : Array MapEntry} {c' : Nat} {w : World} (h : w.heap[r]? = some (.map es c)) :
    (setObj r (.map es' c')).run P w = .ok () { w with heap := w.heap.setIfInBounds r (.map es' c') } := by
  have hlt : r < w.heap.size := by
    rcases Nat.lt_or_ge r w.heap.size with h' | h'
    · exact h'
    · rw [Array.getElem?_eq_none h'] at h; cases h
  simp only [setObj, Sem.run, h]

/-- a map that is written -/
theorem Step.setMap (hR : Rel C base γ s w) {r c : Nat} {es : List ME} {ents : Array MapEntry} {lc : Loc} (hb : s.h.get r = some (.map es c)) (hl : γ r = some lc) (ho : w.heap[lc.blk]? = some (.map ents c))
    {es' : List ME} {c' : Nat} {ents' : Array MapEntry} (h1 : MapEnts γ es' ents'.toList) (h2 : ∃ d, ∀ e ∈ es', keyOf d e.k = true) :
    Step C base γ s w γ ⟨s.h.set r (.map es' c'), s.next⟩ { w with heap := w.heap.setIfInBounds lc.blk (.map ents' c') } := by
  have hlt : lc.blk < w.heap.size := by
    rcases Nat.lt_or_ge lc.blk w.heap.size with h' | h'
    · exact h'
    · rw [Array.getElem?_eq_none h'] at ho; cases ho
  have hnoshare : ∀ i x li, i ≠ r → (s.h.set r (.map es' c')).get i = some x → γ i = some li → li.blk = lc.blk → False := by
    intro i x li hi hx hγi hbl
    rw [Tr.get_set_other _ _ (Ne.symm hi)] at hx
    rcases hR.sep i r x _ li lc hx hb hγi hl hi hbl with h | h
    · cases x <;> simp [AncOf] at h
    · simp [AncOf] at h
  refine ⟨Grow.refl γ, ?_, ⟨by simp, rfl, rfl, rfl, ?_⟩, ?_, Nat.le_refl _, fun _ _ h => hR.lt h, fun _ l h => .inl ⟨l, h⟩, fun id x h1 _ => by
    simp only [Tr.get_set] at h1
    split at h1
    · next h => subst h; exact ⟨_, hb⟩
    · exact ⟨x, h1⟩⟩
  · refine hR.setBlk (b' := .map es' c') (o' := .map ents' c') hb hl hl ⟨rfl, rfl, rfl⟩ rfl (fun _ _ => rfl) ?_ (Tr.get_set_same _ _ _) ?_ ?_ (by simp) ⟨ents', rfl, h1, h2⟩
      (fun i x li hi hx h3 h4 => (hnoshare i x li hi hx h3 h4).elim) (fun i x li hi hx h3 h4 => (hnoshare i x li hi hx h3 h4).elim)
    · intro i x hi hx
      rw [Tr.get_set_other _ _ (Ne.symm hi)] at hx; exact hx
    · intro k hk
      simp [Ne.symm hk]
    · simp [hlt]
  · intro k o hk hn
    have : k ≠ lc.blk := fun h => hn ⟨r, _, lc, hb, rfl, hl, h.symm⟩
    simp [Ne.symm this, hk]
  · rintro k ⟨id, x, l, q1, q2, q3, q4⟩ _
    simp only [Tr.get_set] at q1
    split at q1
    · next h => subst h; exact ⟨_, _, lc, hb, rfl, hl, by rw [hl] at q3; obtain rfl := Option.some.inj q3; exact q4⟩
    · exact ⟨id, x, l, q1, q2, q3, q4⟩

theorem keyOf_head {d d' : TypeDesc} {x y : AV} (h1 : keyOf d x = true) (h2 : keyOf d' x = true) (h3 : keyOf d' y = true) : keyOf d y = true := by
  cases d <;> cases d' <;> cases x <;> simp [keyOf] at h1 h2 <;> cases y <;> simp [keyOf] at h3 ⊢
  rw [h1, ← h2, h3]

theorem keyFits_all {d : TypeDesc} {k : AV} {es : List ME} (h : keyFits d k es = true) (hk : ∃ d', ∀ e ∈ es, keyOf d' e.k = true) : keyOf d k = true ∧ ∀ e ∈ es, keyOf d e.k = true := by
  simp only [keyFits, Bool.and_eq_true] at h
  refine ⟨h.1, ?_⟩
  obtain ⟨d', hd'⟩ := hk
  cases es with
  | nil => intro e he; cases he
  | cons e0 es => intro e he; exact keyOf_head h.2 (hd' e0 (by simp)) (hd' e he)

theorem sameNow_eq {d : TypeDesc} {x y : AV} {cx cy : Value} (hx : conc γ x = some cx) (hy : conc γ y = some cy) (h1 : keyOf d x = true) (h2 : keyOf d y = true) :
    Instr.sameNow d cx cy = some (keyEq x y) ∧ (keyEq x y = true → x = y) ∧ (keyEq x y = true → Instr.sameBits 10000 cy cx = true) := by
  cases d <;> cases x <;> simp [keyOf] at h1 <;> cases y <;> simp [keyOf] at h2 <;> simp only [conc, Option.some.injEq] at hx hy <;> subst hx <;> subst hy
  · simp only [Instr.sameNow, keyEq, Instr.sameBits, Bool.beq_eq_decide_eq, decide_eq_true_eq, true_and]
    exact ⟨fun h => by rw [h], fun h => h.symm⟩
  · subst h1; subst h2
    simp only [Instr.sameNow, keyEq, Instr.sameBits, if_true, decide_eq_true_eq]
    refine ⟨?_, fun h => by rw [h], fun h => by simp [h]⟩
    rename_i m n
    by_cases h : m = n <;> simp [h]
  · rename_i l m
    simp only [Instr.sameNow, keyEq, Instr.sameBits, bytesEq_beq]
    have this : ((ByteArray.mk ⟨l⟩ : ByteArray) == ByteArray.mk ⟨m⟩) = (l == m) := by
      show ((Array.mk l) == Array.mk m) = _
      simp
    have this2 : ((ByteArray.mk ⟨m⟩ : ByteArray) == ByteArray.mk ⟨l⟩) = (m == l) := by
      show ((Array.mk m) == Array.mk l) = _
      simp
    refine ⟨by rw [this], fun h => by rw [eq_of_beq h], fun h => by rw [this2, eq_of_beq h]; simp⟩

/-- what is found, and what comes of a change -/
def Found (γ : G) (d : TypeDesc) (k : AV) (ck : Value) (es : List ME) (l : List MapEntry) (i0 : Nat) : Prop :=
  (findK k es = none ∧ Instr.findNow d ck l i0 = some none) ∨
  (∃ e i m, findK k es = some e ∧ Instr.findNow d ck l i0 = some (some (i0 + i, m.val)) ∧ l[i]? = some m ∧ MapEntRel γ e m ∧ e.k = k ∧ keyEq k e.k = true ∧ e ∈ es ∧
    (∀ (v : AV) (cv : Value), conc γ v = some cv → MapEnts γ (setK k v es) (l.modify i fun x => { x with key := ck, val := cv })) ∧
    MapEnts γ (delK k es) (l.eraseIdx i))

theorem found (d : TypeDesc) (k : AV) (ck : Value) (hk : conc γ k = some ck) (hkd : keyOf d k = true) : ∀ (es : List ME) (l : List MapEntry) (i0 : Nat), MapEnts γ es l → (∀ e ∈ es, keyOf d e.k = true) → Found γ d k ck es l i0
  | [], [], i0, _, _ => .inl ⟨rfl, rfl⟩
  | e :: es, m :: l, i0, ⟨h1, h2⟩, hd => by
    obtain ⟨s1, s2, s3⟩ := sameNow_eq hk h1.1 hkd (hd e (by simp))
    unfold Found findK Instr.findNow
    rw [s1]
    cases hq : keyEq k e.k with
    | true =>
      right
      refine ⟨e, 0, m, rfl, rfl, rfl, h1, (s2 hq).symm, hq, by simp, fun v cv hv => ?_, ?_⟩
      · simp only [setK, hq, List.modify_zero_cons]
        exact ⟨⟨hk, hv, h1.2.2⟩, h2⟩
      · simp only [delK, hq, List.eraseIdx_zero, List.tail_cons]
        exact h2
    | false =>
      simp only
      rcases found d k ck hk hkd es l (i0 + 1) h2 (fun e he => hd e (by simp [he])) with ⟨a1, a2⟩ | ⟨e', i, m', a1, a2, a3, a4, a5, a6, a7, a8, a9⟩
      · exact .inl ⟨a1, a2⟩
      · right
        refine ⟨e', i + 1, m', a1, ?_, by simpa using a3, a4, a5, a6, by simp [a7], fun v cv hv => ?_, ?_⟩
        · rw [a2]; congr 3; omega
        · simp only [setK, hq, List.modify_succ_cons]
          exact ⟨h1, a8 v cv hv⟩
        · simp only [delK, hq, List.eraseIdx_cons_succ]
          exact ⟨h1, a9⟩
  | [], _ :: _, _, h, _ => h.elim
  | _ :: _, [], _, h, _ => h.elim

theorem run_findKey {kt : TypeId} {d : TypeDesc} (hd : C.P.underlying kt = some d) {ck : Value} {l : List MapEntry} {r : Option (Nat × Value)} (h : Instr.findNow d ck l 0 = some r) :
    (Instr.findKey kt ck l).run C.P w = .ok r w := by
  unfold Instr.findKey
  rw [run_und' hd, h]; rfl

theorem run_checkKey {kt : TypeId} {d : TypeDesc} (hd : C.P.underlying kt = some d) {k : AV} {ck : Value} (hk : conc γ k = some ck) (hkd : keyOf d k = true) (b : Bool) (w : World) :
    (Instr.checkKey b 10000 kt ck).run C.P w = .ok () w := by
  show (Instr.checkKey b (9999 + 1) kt ck).run C.P w = .ok () w
  unfold Instr.checkKey
  rw [run_und' hd]
  cases d <;> cases k <;> simp [keyOf] at hkd <;> simp only [conc, Option.some.injEq] at hk <;> subst hk <;> rfl

theorem keyOf_set {d : TypeDesc} {k v : AV} (hk : keyOf d k = true) : ∀ {es : List ME}, (∀ e ∈ es, keyOf d e.k = true) → ∀ e ∈ setK k v es, keyOf d e.k = true
  | [], _, e, he => by simp [setK] at he
  | x :: es, h, e, he => by
    unfold setK at he
    cases hq : keyEq k x.k with
    | true =>
      rw [hq] at he
      rcases List.mem_cons.1 he with rfl | he
      · exact hk
      · exact h e (by simp [he])
    | false =>
      rw [hq] at he
      rcases List.mem_cons.1 he with rfl | he
      · exact h _ (by simp)
      · exact keyOf_set hk (fun e he => h e (by simp [he])) e he
theorem keyOf_del {d : TypeDesc} {k : AV} : ∀ {es : List ME}, (∀ e ∈ es, keyOf d e.k = true) → ∀ e ∈ delK k es, keyOf d e.k = true
  | [], _, e, he => by simp [delK] at he
  | x :: es, h, e, he => by
    unfold delK at he
    cases hq : keyEq k x.k with
    | true => rw [hq] at he; exact h e (by simp; exact .inr he)
    | false =>
      rw [hq] at he
      rcases List.mem_cons.1 he with rfl | he
      · exact h _ (by simp)
      · exact keyOf_del (fun e he => h e (by simp [he])) e he

theorem MapEnts.push : ∀ {es : List ME} {l : List MapEntry} {e : ME} {m : MapEntry}, MapEnts γ es l → MapEntRel γ e m → MapEnts γ (es ++ [e]) (l ++ [m])
  | [], [], _, _, _, h => ⟨h, trivial⟩
  | _ :: _, _ :: _, _, _, h, h' => ⟨h.1, MapEnts.push h.2 h'⟩
  | [], _ :: _, _, _, h, _ => h.elim
  | _ :: _, [], _, _, h, _ => h.elim


theorem put_run (hR : Rel C base γ s w) {r : Nat} {lc : Loc} {m : List ME × Nat} {ents : Array MapEntry} (hb : s.h.get r = some (.map m.1 m.2)) (hl : γ r = some lc) (ho : w.heap[lc.blk]? = some (.map ents m.2))
    (he : MapEnts γ m.1 ents.toList) (hk0 : ∃ d, ∀ e ∈ m.1, keyOf d e.k = true) {kt ty et : TypeId} {d : TypeDesc} (hty : C.P.underlying ty = some (.map kt et)) (hd : C.P.underlying kt = some d)
    {k v : AV} {ck cv : Value} (hk : conc γ k = some ck) (hv : conc γ v = some cv) (hf : keyFits d k m.1 = true) :
    ∃ w', (Instr.mapUpdate ty (.map (some lc.blk)) ck cv).run C.P w = .ok () w' ∧ Step C base γ s w γ (putK s r k v m) w' := by
  obtain ⟨hkd, hall⟩ := keyFits_all hf hk0
  unfold Instr.mapUpdate
  rw [run_und' hty]
  simp only [Sem.run_bind, runGetMap ho, Result.andThen_ok, run_checkKey hd hk hkd]
  rcases found d k ck hk hkd m.1 ents.toList 0 he hall with ⟨a1, a2⟩ | ⟨e, i, x, a1, a2, a3, a4, a5, a6, a7, a8, a9⟩
  · simp only [run_findKey hd a2, Result.andThen_ok, runSetMap ho]
    refine ⟨_, rfl, ?_⟩
    unfold putK
    rw [a1]
    refine Step.setMap hR hb hl ho ?_ ⟨d, ?_⟩
    · rw [Array.toList_push]
      exact he.push ⟨hk, hv, rfl⟩
    · intro e he
      rcases List.mem_append.1 he with he | he
      · exact hall e he
      · simp only [List.mem_singleton] at he; subst he; exact hkd
  · rw [Nat.zero_add] at a2
    have hx : ents[i]? = some x := by simpa using a3
    have hsame : Instr.sameBits 10000 (((ents[i]?).map (·.key)).getD ck) ck = true := by
      rw [hx]
      have := (sameNow_eq hk a4.1 hkd (hall e a7)).2.2 a6
      simpa using this
    simp only [run_findKey hd a2, Result.andThen_ok, Instr.keyThatStays, hsame, if_true, Sem.run_bind, Sem.run_pure, runSetMap ho]
    refine ⟨_, rfl, ?_⟩
    unfold putK
    rw [a1]
    refine Step.setMap hR hb hl ho ?_ ⟨d, keyOf_set hkd hall⟩
    rw [Array.toList_modify]
    exact a8 v cv hv

theorem ok_mapUpdate (hC : Good C) (hR : Rel C base γ s w) (ht : TmpsRel γ nt t a.tmps) (ty : TypeId) (x y z : Operand) (rt : TypeId) :
    (opMapUpdate ty x y z rt C t s).path (NxOk C base γ s w ((US (Instr.mapUpdate ty (a.eval x) (a.eval y) (a.eval z))).run C.P w)) := by
  refine R.pbd _ (path_under hC ty) fun d0 hd0 => ?_
  cases d0 with
  | map kt et =>
    refine R.pbd _ (path_under hC kt) fun d hd => ?_
    refine R.pbd _ (path_evA hR ht x) fun v hv => ?_
    cases v with
    | mapv r =>
      refine R.pbd _ (path_getMap hR _ _ hv) fun m hm => ?_
      refine R.pbd _ (path_evA hR ht y) fun k hk => ?_
      refine R.pbd _ (path_evA hR ht z) fun v' hv' => ?_
      refine R.pbd _ (R.path_guard _ _) fun _ hg => ?_
      rcases hm with ⟨h, _⟩ | ⟨r', lc, ents, h0, hl, hc, h1, h2, h3, h4⟩
      · cases h
      · cases h0
        obtain ⟨w', g1, g2⟩ := put_run hR h1 hl h2 h3 h4 hd0 hd hk hv' hg
        rw [hc]
        exact ⟨γ, w', by simp [US, g1], g2⟩
    | _ => trivial
  | _ => trivial

theorem run_lookup {kt ty et : TypeId} {d : TypeDesc} (hty : C.P.underlying ty = some (.map kt et)) (hd : C.P.underlying kt = some d) {cm ck z : Value} {k : AV} (hk : conc γ k = some ck) (hkd : keyOf d k = true)
    {ents : Array MapEntry} (hm : (cm = .map none ∧ ents = #[]) ∨ ∃ b c, cm = .map (some b) ∧ w.heap[b]? = some (.map ents c)) {r : Option (Nat × Value)} (hr : Instr.findNow d ck ents.toList 0 = some r)
    (hz : r = none → ∀ w, (zeroValue et).run C.P w = .ok z w) (ok : Bool) :
    (Instr.lookup ty cm ck ok).run C.P w = .ok (match r with | some (_, v) => (if ok then .tuple #[v, .bool true] else v) | none => (if ok then .tuple #[z, .bool false] else z)) w := by
  unfold Instr.lookup
  rw [run_und' hty]
  rcases hm with ⟨rfl, rfl⟩ | ⟨b, c, rfl, hb⟩
  · simp only [Sem.run_bind, Sem.run_pure, Result.andThen_ok, run_checkKey hd hk hkd, run_findKey hd hr]
    cases r with
    | none => simp only [Sem.run_bind, hz rfl, Result.andThen_ok, Sem.run_pure]
    | some p => rfl
  · simp only [Sem.run_bind, runGetMap hb, Sem.run_pure, Result.andThen_ok, run_checkKey hd hk hkd, run_findKey hd hr]
    cases r with
    | none => simp only [Sem.run_bind, hz rfl, Result.andThen_ok, Sem.run_pure]
    | some p => rfl

theorem MapAt.ents {m : List ME × Nat} {x : AV} {cx : Value} (hm : MapAt γ s w x cx m) : ∃ ents : Array MapEntry, ((cx = .map none ∧ ents = #[]) ∨ ∃ b c, cx = .map (some b) ∧ w.heap[b]? = some (.map ents c)) ∧
    MapEnts γ m.1 ents.toList ∧ (∃ d, ∀ e ∈ m.1, keyOf d e.k = true) := by
  rcases hm with ⟨_, hc, rfl⟩ | ⟨r', lc, ents, h0, hl, hc, h1, h2, h3, h4⟩
  · exact ⟨#[], .inl ⟨hc, rfl⟩, trivial, .bool, fun e he => by cases he⟩
  · exact ⟨ents, .inr ⟨_, _, hc, h2⟩, h3, h4⟩

theorem conc_withOk {v : AV} {c : Value} (h : conc γ v = some c) (ok b : Bool) : conc γ (withOk ok b v) = some (if ok then .tuple #[c, .bool b] else c) := by
  cases ok
  · exact h
  · simp [withOk, conc, concL, h]

theorem allNe_spec {k : Know} {a : List UInt8} (hf : ∀ x ∈ k.ne, neOne (.string ⟨⟨a⟩⟩) x) : ∀ {es : List ME}, allNe k es = true → ∀ e ∈ es, keyOf .string e.k = true ∧ keyEq (.str a) e.k = false
  | [], _, e, he => by cases he
  | x :: es, h, e, he => by
    unfold allNe at h
    cases hx : x.k with
    | str l =>
      rw [hx] at h
      simp only at h
      cases hm : klHasS l k.ne with
      | false => rw [hm] at h; cases h
      | true =>
        rw [hm] at h
        cases he with
        | head =>
          rw [hx]
          refine ⟨rfl, ?_⟩
          show bytesEq a l = false
          cases hb : bytesEq a l with
          | false => rfl
          | true => exact absurd (by rw [(bytesEq_iff a l).1 hb]) (hf _ (klHasS_mem hm))
        | tail _ he => exact allNe_spec hf h e he
    | _ => rw [hx] at h; cases h
theorem absent_spec {d : TypeDesc} {k : AV} {ck : Value} {es : List ME} (hk : conc γ k = some ck) (h : absentK d k es = true) :
    ∃ a, conc γ (.str a) = some ck ∧ d = .string ∧ (∀ e ∈ es, keyOf .string e.k = true) ∧ ∀ e ∈ es, keyEq (.str a) e.k = false := by
  unfold absentK at h
  cases d <;> first | cases h | skip
  cases k <;> first | cases h | skip
  rename_i k i
  simp only [Bool.and_eq_true, Bool.not_eq_true'] at h
  obtain ⟨⟨g1, g2⟩, g3⟩ := h
  obtain ⟨l, v, -, -, hf, h1, -⟩ := conc_see hk
  obtain rfl := h1 g2
  have hi := hf.2.2.1 g1
  cases ck with
  | string z =>
    have hz := string_eta z
    have hf' : ∀ x ∈ k.ne, neOne (.string ⟨⟨z.data.toList⟩⟩) x := fun x hx => by rw [← hz]; exact hf.2.2.2.2 x hx
    exact ⟨z.data.toList, by simp only [conc], rfl, fun e he => (allNe_spec hf' g3 e he).1, fun e he => (allNe_spec hf' g3 e he).2⟩
  | _ => cases hi
theorem ok_lookup (hC : Good C) (hR : Rel C base γ s w) (ht : TmpsRel γ nt t a.tmps) (ty : TypeId) (x y : Operand) (ok : Bool) (rt : TypeId) :
    (opLookup ty x y ok rt C t s).path (NxOk C base γ s w ((VS (Instr.lookup ty (a.eval x) (a.eval y) ok)).run C.P w)) := by
  refine R.pbd _ (path_under hC ty) fun d0 hd0 => ?_
  cases d0 with
  | map kt et =>
    refine R.pbd _ (path_under hC kt) fun d hd => ?_
    refine R.pbd _ (path_evA hR ht x) fun v hv => ?_
    refine R.pbd _ (path_getMap hR _ _ hv) fun m hm => ?_
    refine R.pbd _ (path_evA hR ht y) fun k hk => ?_
    obtain ⟨ents, hents, hme, hko⟩ := hm.ents
    show (match absentK d k m.1 with | true => (zeroVal C et >>= fun v => R.ok (Nx.val (withOk ok false v) s)) | false => (guardB (keyFits d k m.1) "lookup: key" >>= fun _ => match findK k m.1 with | some e => R.ok (Nx.val (withOk ok true e.v) s) | none => (zeroVal C et >>= fun v => R.ok (Nx.val (withOk ok false v) s)))).path _
    cases hab : absentK d k m.1 with
    | true =>
      obtain ⟨a, hka, hd', hall, hno⟩ := absent_spec hk hab
      subst hd'
      rcases found .string (.str a) _ hka rfl m.1 ents.toList 0 hme hall with ⟨a1, a2⟩ | ⟨e, i, x', a1, a2, a3, a4, a5, a6, a7, a8, a9⟩
      · refine R.pbd _ (path_zeroVal hC et) fun z hz => ?_
        obtain ⟨c, hz1, hz2⟩ := hz
        exact okVal hR (run_lookup hd0 hd hka rfl hents a2 (fun _ => hz1) ok) (conc_withOk (hz2 γ) ok false)
      · rw [hno e a7] at a6; cases a6
    | false =>
    simp only
    refine R.pbd _ (R.path_guard _ _) fun _ hg => ?_
    obtain ⟨hkd, hall⟩ := keyFits_all hg hko
    rcases found d k _ hk hkd m.1 ents.toList 0 hme hall with ⟨a1, a2⟩ | ⟨e, i, x', a1, a2, a3, a4, a5, a6, a7, a8, a9⟩
    · show (match findK k m.1 with | some e => R.ok (Nx.val (withOk ok true e.v) s) | none => (zeroVal C et >>= fun v => R.ok (Nx.val (withOk ok false v) s))).path _
      rw [a1]
      refine R.pbd _ (path_zeroVal hC et) fun z hz => ?_
      obtain ⟨c, hz1, hz2⟩ := hz
      exact okVal hR (run_lookup hd0 hd hk hkd hents a2 (fun _ => hz1) ok) (conc_withOk (hz2 γ) ok false)
    · show (match findK k m.1 with | some e => R.ok (Nx.val (withOk ok true e.v) s) | none => (zeroVal C et >>= fun v => R.ok (Nx.val (withOk ok false v) s))).path _
      rw [a1]
      exact okVal hR (run_lookup (z := .nilIface) hd0 hd hk hkd hents a2 (fun h => by cases h) ok) (conc_withOk a4.2.1 ok true)
  | _ => trivial

theorem ok_mapEntry (hC : Good C) (hR : Rel C base γ s w) (ht : TmpsRel γ nt t a.tmps) (ty : TypeId) (x y : Operand) (rt : TypeId) :
    (opMapEntry ty x y rt C t s).path (NxOk C base γ s w ((VS (Instr.mapEntry ty (a.eval x) (a.eval y))).run C.P w)) := by
  refine R.pbd _ (path_under hC ty) fun d0 hd0 => ?_
  cases d0 with
  | map kt et =>
    refine R.pbd _ (path_under hC kt) fun d hd => ?_
    refine R.pbd _ (path_evA hR ht x) fun v hv => ?_
    cases v with
    | mapv r =>
      refine R.pbd _ (path_getMap hR _ _ hv) fun m hm => ?_
      refine R.pbd _ (path_evA hR ht y) fun k hk => ?_
      refine R.pbd _ (R.path_guard _ _) fun _ hg => ?_
      rcases hm with ⟨h, _⟩ | ⟨r', lc, ents, h0, hl, hc, h1, h2, h3, h4⟩
      · cases h
      cases h0
      obtain ⟨hkd, hall⟩ := keyFits_all hg h4
      rw [hc]
      have hstart : ∀ r : Option (Nat × Value), Instr.findNow d (a.eval y) ents.toList 0 = some r → True := fun _ _ => trivial
      rcases found d k _ hk hkd m.1 ents.toList 0 h3 hall with ⟨a1, a2⟩ | ⟨e, i, x', a1, a2, a3, a4, a5, a6, a7, a8, a9⟩
      · show (match findK k m.1 with | some e => R.ok (Nx.val (.tup [e.v, .int .i64 (.ofNat e.born)]) ⟨s.h.set r (Blk.map (setK k e.v m.1) m.2), s.next⟩) | none => (zeroVal C et >>= fun v => R.ok (Nx.val (.tup [v, .int .i64 (.ofNat m.2)]) ⟨s.h.set r (Blk.map (m.1 ++ [(⟨k, v, m.2⟩ : ME)]) (Nat.add m.2 1)), s.next⟩))).path _
        rw [a1]
        refine R.pbd _ (path_zeroVal hC et) fun z hz => ?_
        obtain ⟨c, hz1, hz2⟩ := hz
        refine ⟨γ, .tuple #[c, goInt m.2], _, ?_, ?_, Step.setMap hR h1 hl h2 (ents' := ents.push { key := a.eval y, val := c, born := m.2 }) (c' := m.2 + 1) ?_ ⟨d, ?_⟩⟩
        · unfold Instr.mapEntry
          simp only [VS]
          rw [Sem.run_bind, run_und' hd0]
          simp only [Sem.run_bind, runGetMap h2, Result.andThen_ok, run_checkKey hd hk hkd, run_findKey hd a2, hz1, runSetMap h2, Sem.run_pure]
        · simp [conc, concL, hz2 γ, goInt]
        · rw [Array.toList_push]
          exact h3.push ⟨hk, hz2 γ, rfl⟩
        · intro e he
          rcases List.mem_append.1 he with he | he
          · exact hall e he
          · simp only [List.mem_singleton] at he; subst he; exact hkd
      · show (match findK k m.1 with | some e => R.ok (Nx.val (.tup [e.v, .int .i64 (.ofNat e.born)]) ⟨s.h.set r (Blk.map (setK k e.v m.1) m.2), s.next⟩) | none => (zeroVal C et >>= fun v => R.ok (Nx.val (.tup [v, .int .i64 (.ofNat m.2)]) ⟨s.h.set r (Blk.map (m.1 ++ [(⟨k, v, m.2⟩ : ME)]) (Nat.add m.2 1)), s.next⟩))).path _
        rw [a1]
        rw [Nat.zero_add] at a2
        have hx : ents[i]? = some x' := by simpa using a3
        have hsame : Instr.sameBits 10000 (((ents[i]?).map (·.key)).getD (a.eval y)) (a.eval y) = true := by
          rw [hx]
          have := (sameNow_eq hk a4.1 hkd (hall e a7)).2.2 a6
          simpa using this
        refine ⟨γ, .tuple #[x'.val, goInt x'.born], _, ?_, ?_, Step.setMap hR h1 hl h2 (ents' := ents.modify i fun e => { e with key := a.eval y }) (c' := m.2) ?_ ⟨d, keyOf_set hkd hall⟩⟩
        · unfold Instr.mapEntry
          simp only [VS]
          rw [Sem.run_bind, run_und' hd0]
          simp only [Sem.run_bind, runGetMap h2, Result.andThen_ok, run_checkKey hd hk hkd, run_findKey hd a2, Instr.keyThatStays, hsame, if_true, Sem.run_pure, runSetMap h2]
          simp [hx]
        · simp [conc, concL, a4.2.1, goInt, a4.2.2]
        · rw [Array.toList_modify]
          have := a8 e.v x'.val a4.2.1
          have h' : ents.toList.modify i (fun e => { e with key := a.eval y, val := x'.val }) = ents.toList.modify i (fun e => { e with key := a.eval y }) := by
            apply List.ext_getElem?
            intro j
            simp only [List.getElem?_modify]
            by_cases hij : i = j
            · subst hij; rw [a3]; simp
            · simp [hij]
          rw [← h']; exact this
    | _ => trivial
  | _ => trivial

theorem setB_rel (b : Nat) {v : AV} {cv : Value} (hv : conc γ v = some cv) : ∀ {es : List ME} {l : List MapEntry}, MapEnts γ es l →
    (findB b es = none) ∨ (∃ e i, findB b es = some e ∧ l.findIdx? (fun e => (e.born : Int) == (b : Int)) = some i ∧ MapEnts γ (setB b v es) (l.modify i fun x => { x with val := cv }))
  | [], [], _ => .inl rfl
  | e :: es, m :: l, ⟨h1, h2⟩ => by
    unfold findB setB
    cases hq : Nat.beq e.born b with
    | true =>
      right
      have : e.born = b := Nat.eq_of_beq_eq_true hq
      refine ⟨e, 0, rfl, ?_, ?_⟩
      · rw [List.findIdx?_cons]; simp [h1.2.2, this]
      · simp only [List.modify_zero_cons]
        exact ⟨⟨h1.1, hv, h1.2.2⟩, h2⟩
    | false =>
      have : e.born ≠ b := by intro h; rw [h] at hq; simp at hq
      rcases setB_rel b hv h2 with h | ⟨e', i, a1, a2, a3⟩
      · exact .inl h
      · right
        refine ⟨e', i + 1, a1, ?_, ?_⟩
        · rw [List.findIdx?_cons, a2]
          have hf : ((m.born : Int) == (b : Int)) = false := by
            rw [h1.2.2]; exact beq_eq_false_iff_ne.2 (by omega)
          rw [hf]; rfl
        · simp only [List.modify_succ_cons]
          exact ⟨h1, a3⟩
  | [], _ :: _, h => h.elim
  | _ :: _, [], h => h.elim
theorem keyOf_setB {d : TypeDesc} {b : Nat} {v : AV} : ∀ {es : List ME}, (∀ e ∈ es, keyOf d e.k = true) → ∀ e ∈ setB b v es, keyOf d e.k = true
  | [], _, e, he => by simp [setB] at he
  | x :: es, h, e, he => by
    unfold setB at he
    cases hq : Nat.beq x.born b with
    | true =>
      rw [hq] at he
      rcases List.mem_cons.1 he with rfl | he
      · exact h x (by simp)
      · exact h e (by simp [he])
    | false =>
      rw [hq] at he
      rcases List.mem_cons.1 he with rfl | he
      · exact h _ (by simp)
      · exact keyOf_setB (fun e he => h e (by simp [he])) e he

theorem arr_findIdx {α : Type} (p : α → Bool) (a : Array α) : a.findIdx? p = a.toList.findIdx? p := by
  cases a; simp

theorem ok_entryStore (hR : Rel C base γ s w) (ht : TmpsRel γ nt t a.tmps) (ty : TypeId) (x y z : Operand) (rt : TypeId) :
    (opEntryStore x y z rt C t s).path (NxOk C base γ s w ((US (Instr.entryStore ty (a.eval x) (a.eval y) (a.eval z))).run C.P w)) := by
  refine R.pbd _ (path_evA hR ht x) fun v hv => ?_
  cases v with
  | mapv r =>
    refine R.pbd _ (path_getMap hR _ _ hv) fun m hm => ?_
    refine R.pbd _ (path_evA hR ht y) fun k hk => ?_
    refine R.pbd _ (path_asIdx k) fun b hb => ?_
    obtain ⟨kk, rfl⟩ := hb
    refine R.pbd _ (path_evA hR ht z) fun v' hv' => ?_
    rcases hm with ⟨h, _⟩ | ⟨r', lc, ents, h0, hl, hc, h1, h2, h3, d, h4⟩
    · cases h
    cases h0
    rw [hc]
    simp only [conc, Option.some.injEq] at hk
    rw [← hk]
    show (match findB b m.1 with | some _ => R.ok (Nx.skip ⟨s.h.set r (.map (setB b v' m.1) m.2), s.next⟩) | none => R.bad _).path _
    rcases setB_rel b hv' h3 with h | ⟨e, i, a1, a2, a3⟩
    · rw [h]; trivial
    · rw [a1]
      have a2' : ents.findIdx? (fun e => (e.born : Int) == (b : Int)) = some i := by rw [arr_findIdx]; exact a2
      refine ⟨γ, _, ?_, Step.setMap hR h1 hl h2 (ents' := ents.modify i fun e => { e with val := a.eval z }) (c' := m.2) ?_ ⟨d, keyOf_setB h4⟩⟩
      · unfold Instr.entryStore
        simp only [US, Sem.run_bind, runGetMap h2, Result.andThen_ok, runAsInt, Sem.run_pure]
        have : (Int.ofNat b) = (b : Int) := rfl
        rw [this, a2']
        simp only [runSetMap h2, Result.andThen_ok]
      · rw [Array.toList_modify]; exact a3
  | _ => trivial

theorem ok_delete (hC : Good C) (hR : Rel C base γ s w) (argTypes : List TypeId) (args : List AV) (cargs : List Value) (hargs : concL γ args = some cargs) (rt : TypeId) :
    (biDelete C s argTypes args).path (NxOk C base γ s w ((VS (Builtin.delete_ ⟨argTypes⟩ rt ⟨cargs⟩)).run C.P w)) := by
  unfold biDelete
  split
  case h_2 => trivial
  rename_i x k ty rest
  obtain ⟨cx, cl1, hcx, g1, rfl⟩ := concL_cons.1 hargs
  obtain ⟨ck, cl2, hk, g2, rfl⟩ := concL_cons.1 g1
  simp only [concL, Option.some.injEq] at g2; subst g2
  refine R.pbd _ (path_under hC ty) fun d0 hd0 => ?_
  cases d0 with
  | map kt et =>
    refine R.pbd _ (path_under hC kt) fun d hd => ?_
    refine R.pbd _ (path_getMap hR _ _ hcx) fun m hm => ?_
    refine R.pbd _ (R.path_guard _ _) fun _ hg => ?_
    rcases hm with ⟨h, hc, rfl⟩ | ⟨r, lc, ents, h0, hl, hc, h1, h2, h3, h4⟩
    · subst h; subst hc
      simp only [keyFits, Bool.and_eq_true] at hg
      refine okVal hR (c := .tuple #[]) ?_ (by simp [conc, concL])
      simp only [Builtin.delete_, List.getElem?_toArray, List.getElem?_cons_zero, List.getElem?_cons_succ]
      rw [run_und' hd0]
      simp only [Sem.run_bind, run_checkKey hd hk hg.1, Result.andThen_ok, Sem.run_pure]
    · subst h0; subst hc
      obtain ⟨hkd, hall⟩ := keyFits_all hg h4
      show (R.ok (Nx.val (.tup []) ⟨s.h.set r (.map (delK k m.1) m.2), s.next⟩)).path _
      rcases found d k _ hk hkd m.1 ents.toList 0 h3 hall with ⟨a1, a2⟩ | ⟨e, i, x', a1, a2, a3, a4, a5, a6, a7, a8, a9⟩
      · refine ⟨γ, .tuple #[], _, ?_, by simp [conc, concL], Step.setMap hR h1 hl h2 (ents' := ents) (c' := m.2) ?_ ⟨d, keyOf_del hall⟩⟩
        · simp only [VS, Builtin.delete_, List.getElem?_toArray, List.getElem?_cons_zero, List.getElem?_cons_succ]
          rw [Sem.run_bind, run_und' hd0]
          simp only [Sem.run_bind, runGetMap h2, run_checkKey hd hk hkd, run_findKey hd a2, Result.andThen_ok, Sem.run_pure, runSetMap h2]
        · have : delK k m.1 = m.1 := by
            have : ∀ es : List ME, findK k es = none → delK k es = es := by
              intro es
              induction es with
              | nil => intro _; rfl
              | cons e es ih =>
                intro h
                unfold findK at h; unfold delK
                cases hq : keyEq k e.k with
                | true => rw [hq] at h; cases h
                | false => rw [hq] at h; simp only; rw [ih h]
            exact this _ a1
          rw [this]; exact h3
      · rw [Nat.zero_add] at a2
        have hlt : i < ents.size := by
          rcases Nat.lt_or_ge i ents.size with h' | h'
          · exact h'
          · rw [List.getElem?_eq_none (by simpa using h')] at a3; cases a3
        refine ⟨γ, .tuple #[], _, ?_, by simp [conc, concL], Step.setMap hR h1 hl h2 (ents' := ents.eraseIdxIfInBounds i) (c' := m.2) ?_ ⟨d, keyOf_del hall⟩⟩
        · simp only [VS, Builtin.delete_, List.getElem?_toArray, List.getElem?_cons_zero, List.getElem?_cons_succ]
          rw [Sem.run_bind, run_und' hd0]
          simp only [Sem.run_bind, runGetMap h2, run_checkKey hd hk hkd, run_findKey hd a2, Result.andThen_ok, Sem.run_pure, runSetMap h2]
        · have : (ents.eraseIdxIfInBounds i).toList = ents.toList.eraseIdx i := by
            simp [Array.eraseIdxIfInBounds, hlt]
          rw [this]; exact a9
  | _ => trivial

theorem ok_makeMap (hC : Good C) (hR : Rel C base γ s w) (ht : TmpsRel γ nt t a.tmps) (ty : TypeId) (x : Option Operand) (rt : TypeId) :
    (opMap ty x rt C t s).path (NxOk C base γ s w ((VS (Instr.makeMap ty (x.map a.eval))).run C.P w)) := by
  have hstep := Step.alloc (base := base) hR (.map [] 0) (.map #[] 0) 0 1 (w' := w.alloc (.map #[] 0)) rfl rfl rfl rfl
    (fun γ' _ => ⟨#[], rfl, trivial, .bool, fun e he => by cases he⟩)
  cases x with
  | none =>
    refine ⟨_, .map (some w.heap.size), _, ?_, ?_, hstep⟩
    · rfl
    · simp [conc]
  | some x =>
    refine R.pbd _ (path_under hC ty) fun d hd => ?_
    cases d with
    | map kt et =>
      refine R.pbd _ (path_evA hR ht x) fun v hv => ?_
      cases v with
      | int k n =>
        simp only [conc, Option.some.injEq] at hv
        refine ⟨_, .map (some w.heap.size), _, ?_, ?_, hstep⟩
        · simp only [Option.map_some, VS, Instr.makeMap, Sem.run_bind]
          rw [← hv]
          rw [run_und hd]
          rfl
        · simp [conc]
      | _ => trivial
    | _ => trivial

theorem path_clearIn (hC : Good C) (hR : Rel C base γ s w) (e : TypeId) (x : AV) (cx : Value) (hcx : conc γ x = some cx) {ty : TypeId} (hd : C.P.underlying ty = some (.slice e)) (rest : List TypeId) (rt : TypeId) :
    (clearIn C s e x).path (NxOk C base γ s w ((VS (Builtin.clear_ ⟨ty :: rest⟩ rt ⟨[cx]⟩)).run C.P w)) := by
  have run : ∀ (ad : Addr) (len cap : Nat) (zv : Value) (q : List Value) (w' : World), cx = .slice (some ad) (len + 1) cap → (∀ w, (zeroValue e).run C.P w = .ok zv w) →
      Builtin.zeroCells zv.cells (len + 1) = ⟨q⟩ → (storeCells ad q).run C.P w = .ok () w' → (Builtin.clear_ ⟨ty :: rest⟩ rt ⟨[cx]⟩).run C.P w = .ok (.tuple #[]) w' := by
    intro ad len cap zv q w' h hz hq hs
    subst h
    simp only [Builtin.clear_, List.getElem?_toArray, List.getElem?_cons_zero]
    rw [run_und' hd]
    simp only [Sem.run_bind, hz, Result.andThen_ok, hq, hs, Sem.run_pure]
  have run0 : ∀ (ad : Addr) (cap : Nat), cx = .slice (some ad) 0 cap → (Builtin.clear_ ⟨ty :: rest⟩ rt ⟨[cx]⟩).run C.P w = .ok (.tuple #[]) w := by
    intro ad cap h
    subst h
    simp only [Builtin.clear_, List.getElem?_toArray, List.getElem?_cons_zero]
    rw [run_und' hd]
    rfl
  have zc : ∀ (zv : Value) (z : List AV) (len : Nat), (∀ γ, concL γ z = some zv.cells.toList) → ∃ q, concL γ (repl z len) = some q ∧ Builtin.zeroCells zv.cells len = ⟨q⟩ := by
    intro zv z len hz
    obtain ⟨q, q1, q2, q3⟩ := concL_repl (hz γ) len
    refine ⟨q, q1, ?_⟩
    exact zeros_eq (r := zv.cells.toList) (n := len * zv.cells.size) (m := len) (by simp) zv.cells (fun _ => rfl) (by simpa using q2) (fun j hj => q3 j (by simpa using hj))
  cases x with
  | sl b off len cap =>
    simp only [conc, Option.map_eq_some_iff] at hcx
    obtain ⟨lc, hl, hcx⟩ := hcx
    refine R.pbd _ (path_zero hC e) fun z hz => ?_
    obtain ⟨i, zv, z1, z2, z3, z4⟩ := hz
    obtain ⟨q, q1, q2⟩ := zc zv z len z4
    refine R.pbd _ (path_wrCells hR b off _ q q1 lc hl) fun s' hs' => ?_
    obtain ⟨w', hw1, hw2⟩ := hs'
    cases len with
    | zero =>
      have hq : q = [] := by simp [repl, concL] at q1; exact q1
      subst hq
      have hw0 : w = w' := by
        simp only [storeCells, Sem.run_pure, Result.ok.injEq] at hw1; exact hw1.2
      subst hw0
      refine ⟨γ, .tuple #[], w, ?_, by simp [conc, concL], hw2⟩
      simp only [VS, Sem.run_bind, run0 _ _ hcx.symm, Result.andThen_ok, Sem.run_pure]
    | succ len =>
      refine ⟨γ, .tuple #[], w', ?_, by simp [conc, concL], hw2⟩
      simp only [VS, Sem.run_bind, run _ _ _ zv q w' hcx.symm z3 q2 hw1, Result.andThen_ok, Sem.run_pure]
  | osl b pre e0 len sz =>
    simp only [conc, Option.map_eq_some_iff] at hcx
    obtain ⟨lc, hl, hcx⟩ := hcx
    refine R.pbd _ (path_ti hC e) fun i hi => ?_
    refine R.pbd _ (R.path_guard _ _) fun _ hg => ?_
    obtain ⟨hsz, _, hcp⟩ := oOk_spec hR hi.1 hl hg
    have hcp' : e0 + len ≤ lc.cp := hcp
    refine R.pbd _ (path_zero hC e) fun z hz => ?_
    obtain ⟨i', zv, z1, z2, z3, z4⟩ := hz
    obtain ⟨q, q1, q2⟩ := zc zv z len z4
    refine R.pbd _ (path_wrCells hR b _ _ q q1 lc hl) fun s' hs' => ?_
    obtain ⟨w', hw1, hw2⟩ := hs'
    cases len with
    | zero =>
      have hq : q = [] := by simp [repl, concL] at q1; exact q1
      subst hq
      have hw0 : w = w' := by
        simp only [storeCells, Sem.run_pure, Result.ok.injEq] at hw1; exact hw1.2
      subst hw0
      refine ⟨γ, .tuple #[], w, ?_, by simp [conc, concL], hw2⟩
      simp only [VS, Sem.run_bind, run0 _ _ hcx.symm, Result.andThen_ok, Sem.run_pure]
    | succ len =>
      have hlt : e0 < lc.cp := by omega
      rw [if_pos hlt] at hcx
      refine ⟨γ, .tuple #[], w', ?_, by simp [conc, concL], hw2⟩
      simp only [VS, Sem.run_bind, run _ _ _ zv q w' hcx.symm z3 q2 hw1, Result.andThen_ok, Sem.run_pure]
  | _ => trivial

theorem ok_clear (hC : Good C) (hR : Rel C base γ s w) (argTypes : List TypeId) (args : List AV) (cargs : List Value) (hargs : concL γ args = some cargs) (rt : TypeId) :
    (biClear C s argTypes args).path (NxOk C base γ s w ((VS (Builtin.clear_ ⟨argTypes⟩ rt ⟨cargs⟩)).run C.P w)) := by
  unfold biClear
  split
  case h_2 => trivial
  rename_i x ty rest
  obtain ⟨cx, cl1, hcx, g1, rfl⟩ := concL_cons.1 hargs
  simp only [concL, Option.some.injEq] at g1; subst g1
  refine R.pbd _ (path_under hC ty) fun d0 hd0 => ?_
  cases d0 with
  | slice e =>
    cases x with
    | nilsl =>
      simp only [conc, Option.some.injEq] at hcx; subst hcx
      refine okVal hR (c := .tuple #[]) ?_ (by simp [conc, concL])
      simp only [Builtin.clear_, List.getElem?_toArray, List.getElem?_cons_zero]
      rw [run_und' hd0]; rfl
    | sl b off len cap => exact path_clearIn hC hR e _ cx hcx hd0 rest rt
    | osl b pre e0 len sz => exact path_clearIn hC hR e _ cx hcx hd0 rest rt
    | _ => trivial
  | map kt et =>
    cases x with
    | nilmap =>
      simp only [conc, Option.some.injEq] at hcx; subst hcx
      refine okVal hR (c := .tuple #[]) ?_ (by simp [conc, concL])
      simp only [Builtin.clear_, List.getElem?_toArray, List.getElem?_cons_zero]
      rw [run_und' hd0]; rfl
    | mapv r =>
      refine R.pbd _ (path_getMap hR _ _ hcx) fun m hm => ?_
      rcases hm with ⟨h, _⟩ | ⟨r, lc, ents, h0, hl, hc, h1, h2, h3, h4⟩
      · cases h
      cases h0; subst hc
      refine ⟨γ, .tuple #[], _, ?_, by simp [conc, concL], Step.setMap hR h1 hl h2 (ents' := #[]) (c' := m.2) (es' := []) trivial ⟨.bool, fun e he => by cases he⟩⟩
      simp only [VS, Builtin.clear_, List.getElem?_toArray, List.getElem?_cons_zero]
      rw [Sem.run_bind, run_und' hd0]
      simp only [Sem.run_bind, runGetMap h2, Result.andThen_ok, Sem.run_pure, runSetMap h2]
    | _ => trivial
  | _ => trivial

end
end Go.Proofs.YtabknehmohoemaaGreatDoor.Abs

namespace Go.Proofs.YtabknehmohoemaaGreatDoor.Abs
open Go

section
variable {C : Ctx} {base : Nat} {γ : G} {s : S} {w : World} {nt : Nat} {t : Tr AV} {a : Act}

def isCells : Blk → Bool
  | .cells .. => true
  | _ => false

/-- a block that holds no cells is written -/
theorem Step.setOther (hR : Rel C base γ s w) {r : Nat} {b b' : Blk} {o o' : Obj} {lc : Loc} (hb : s.h.get r = some b) (hl : γ r = some lc) (ho : w.heap[lc.blk]? = some o)
    (h1 : isCells b = false) (_h2 : isCells b' = false) (hr : BlkRel C γ lc b' o') {w' : World} (hw : w'.heap = w.heap.setIfInBounds lc.blk o') (ht : w'.tape = w.tape) (hos : w'.os = w.os) (hout : w'.output = w.output) :
    Step C base γ s w γ ⟨s.h.set r b', s.next⟩ w' := by
  have hlt : lc.blk < w.heap.size := by
    rcases Nat.lt_or_ge lc.blk w.heap.size with h' | h'
    · exact h'
    · rw [Array.getElem?_eq_none h'] at ho; cases ho
  have hst : isStale b = false := by cases b <;> first | rfl | cases h1
  have hnoshare : ∀ i x li, i ≠ r → (s.h.set r b').get i = some x → γ i = some li → li.blk = lc.blk → False := by
    intro i x li hi hx hγi hbl
    rw [Tr.get_set_other _ _ (Ne.symm hi)] at hx
    rcases hR.sep i r x _ li lc hx hb hγi hl hi hbl with h | h
    · cases b <;> first | (cases h1; done) | (cases x <;> simp [AncOf] at h)
    · cases b <;> first | (cases h1; done) | simp [AncOf] at h
  refine ⟨Grow.refl γ, ?_, ⟨by rw [hw]; simp, ht, hos, hout, ?_⟩, ?_, Nat.le_refl _, fun _ _ h => hR.lt h, fun _ l h => .inl ⟨l, h⟩, fun id x h1 _ => by
    simp only [Tr.get_set] at h1
    split at h1
    · next h => subst h; exact ⟨_, hb⟩
    · exact ⟨x, h1⟩⟩
  · refine hR.setBlk (b' := b') (o' := o') hb hl hl ⟨rfl, rfl, rfl⟩ hst (fun _ _ => rfl) ?_ (Tr.get_set_same _ _ _) ?_ ?_ (by rw [hw]; simp) hr
      (fun i x li hi hx h3 h4 => (hnoshare i x li hi hx h3 h4).elim) (fun i x li hi hx h3 h4 => (hnoshare i x li hi hx h3 h4).elim)
    · intro i x hi hx
      rw [Tr.get_set_other _ _ (Ne.symm hi)] at hx; exact hx
    · intro k hk
      rw [hw]; simp [Ne.symm hk]
    · rw [hw]; simp [hlt]
  · intro k o hk hn
    have : k ≠ lc.blk := fun h => hn ⟨r, _, lc, hb, hst, hl, h.symm⟩
    rw [hw]; simp [Ne.symm this, hk]
  · rintro k ⟨id, x, l, q1, q2, q3, q4⟩ _
    simp only [Tr.get_set] at q1
    split at q1
    · next h => subst h; exact ⟨_, _, lc, hb, hst, hl, by rw [hl] at q3; obtain rfl := Option.some.inj q3; exact q4⟩
    · exact ⟨id, x, l, q1, q2, q3, q4⟩

theorem runSetObj {P : Program} {r : Nat} {o o' : Obj} {w : World} (h : w.heap[r]? = some o) (hc : ∀ x y z, o ≠ .cells x y z) :
    (setObj r o').run P w = .ok () { w with heap := w.heap.setIfInBounds r o' } := by
  simp only [setObj, Sem.run, h]
theorem runGetObj {P : Program} {r : Nat} {o : Obj} {w : World} (h : w.heap[r]? = some o) (hc : ∀ x y z, o ≠ .cells x y z) : (getObj r).run P w = .ok o w := by
  simp only [getObj, Sem.run, h]

theorem ok_range (hC : Good C) (hR : Rel C base γ s w) (ht : TmpsRel γ nt t a.tmps) (ty : TypeId) (x : Operand) (rt : TypeId) :
    (opRange ty x rt C t s).path (NxOk C base γ s w ((VS (Instr.range ty (a.eval x))).run C.P w)) := by
  refine R.pbd _ (path_evA hR ht x) fun v hv => ?_
  refine R.pbd _ (path_under hC ty) fun d hd => ?_
  have fin : ∀ (b : Blk) (o : Obj), (∀ γ', Grow γ γ' → BlkRel C γ' ⟨w.heap.size, 0, 1, none⟩ b o) → (Instr.range ty (a.eval x)).run C.P w = .ok (.pointer (some ⟨w.heap.size, 0, none⟩)) (w.alloc o) →
      NxOk C base γ s w ((VS (Instr.range ty (a.eval x))).run C.P w) (.val (.ptr s.next 0) (s.new b)) := by
    intro b o hb hr
    refine ⟨_, .pointer (some ⟨w.heap.size, 0, none⟩), _, ?_, ?_, Step.alloc (base := base) hR b o 0 1 (w' := w.alloc o) rfl rfl rfl rfl hb⟩
    · simp only [VS, Sem.run_bind, hr, Result.andThen_ok]; rfl
    · simp [conc]
  cases d with
  | string =>
    cases v with
    | str l =>
      simp only [conc, Option.some.injEq] at hv
      refine fin (.siter l 0) (.stringIter ⟨⟨l⟩⟩ 0) (fun γ' _ => ⟨rfl, rfl⟩) ?_
      rw [← hv]
      unfold Instr.range
      rw [run_und' hd]; rfl
    | _ => trivial
  | map kt et =>
    cases v with
    | nilmap =>
      simp only [conc, Option.some.injEq] at hv
      refine fin (.miter none 0 [] 0) (.mapIter none 0 #[] 0) (fun γ' _ => ⟨rfl, rfl⟩) ?_
      rw [← hv]
      unfold Instr.range
      rw [run_und' hd]; rfl
    | mapv r =>
      show ((getMap s (.mapv r) >>= fun m => R.ok (Blk.miter (some r) m.2 [] m.2)) >>= fun b => R.ok (Nx.val (.ptr s.next 0) (s.new b))).path _
      refine R.pbd (fun b => ∃ o, (∀ γ', Grow γ γ' → BlkRel C γ' ⟨w.heap.size, 0, 1, none⟩ b o) ∧ (Instr.range ty (a.eval x)).run C.P w = .ok (.pointer (some ⟨w.heap.size, 0, none⟩)) (w.alloc o)) ?_ (fun b hb => ?_)
      · refine R.pbd _ (path_getMap hR _ _ hv) fun m hm => ?_
        rcases hm with ⟨h, _⟩ | ⟨r', lc, ents, h0, hl, hc, h1, h2, h3, h4⟩
        · cases h
        cases h0
        refine ⟨.mapIter (some lc.blk) m.2 #[] m.2, fun γ' hg => ?_, ?_⟩
        · obtain ⟨l', q1, q2, q3, q4⟩ := hg r lc hl
          exact ⟨rfl, l', q1, by rw [q2]; rfl⟩
        · rw [hc]
          unfold Instr.range
          rw [run_und' hd]
          simp only [Sem.run_bind, runGetMap h2, Result.andThen_ok, Sem.run_pure]
          rfl
      · obtain ⟨o, q1, q2⟩ := hb
        exact fin b o q1 q2
    | _ => trivial
  | _ => trivial

theorem hasN_eq (k : Nat) : ∀ l : List Nat, hasN k l = l.contains k
  | [] => rfl
  | e :: es => by
    show (match Nat.beq k e with | true => true | false => hasN k es) = _
    rw [List.contains_cons, hasN_eq k es]
    cases h : Nat.beq k e with
    | true => simp [Nat.eq_of_beq_eq_true h]
    | false =>
      have : k ≠ e := by intro h'; rw [h'] at h; simp at h
      simp [this]

theorem leftOf_rel (seen : List Nat) : ∀ {es : List ME} {l : List MapEntry}, MapEnts γ es l → MapEnts γ (leftOf seen es) (l.filter fun e => !seen.contains e.born)
  | [], [], _ => trivial
  | e :: es, m :: l, ⟨h1, h2⟩ => by
    have ih := leftOf_rel seen h2
    show MapEnts γ (match hasN e.born seen with | true => leftOf seen es | false => e :: leftOf seen es) _
    rw [hasN_eq, List.filter_cons, h1.2.2]
    cases hq : seen.contains e.born with
    | true => simpa using ih
    | false => exact ⟨h1, ih⟩
  | [], _ :: _, h => h.elim
  | _ :: _, [], h => h.elim

theorem allBelow_rel (n : Nat) : ∀ {es : List ME} {l : List MapEntry}, MapEnts γ es l → allBelow n es = true → ∀ m ∈ l, m.born < n
  | [], [], _, _ => fun _ h => by cases h
  | e :: es, m :: l, ⟨h1, h2⟩, h => by
    unfold allBelow at h
    cases hq : Nat.blt e.born n with
    | true =>
      rw [hq] at h
      have hlt : e.born < n := Nat.le_of_ble_eq_true hq
      intro m' hm'
      rcases List.mem_cons.1 hm' with rfl | hm'
      · rw [h1.2.2]; exact hlt
      · exact allBelow_rel n h2 h m' hm'
    | false => rw [hq] at h; cases h
  | [], _ :: _, h, _ => h.elim
  | _ :: _, [], h, _ => h.elim

theorem MapEnts.get : ∀ {es : List ME} {l : List MapEntry} (i : Nat) (e : ME), MapEnts γ es l → es[i]? = some e → ∃ m, l[i]? = some m ∧ MapEntRel γ e m
  | [], [], i, e, _, h => by simp at h
  | x :: es, m :: l, 0, e, ⟨h1, h2⟩, h => by simp at h; subst h; exact ⟨m, by simp, h1⟩
  | x :: es, m :: l, i + 1, e, ⟨h1, h2⟩, h => by simpa using MapEnts.get i e h2 (by simpa using h)
  | [], _ :: _, _, _, h, _ => h.elim
  | _ :: _, [], _, _, h, _ => h.elim

/-- one step over a map that has not grown -/
theorem run_nextMap {r m since last clock : Nat} {seen : List Nat} {ents : Array MapEntry} (hr : w.heap[r]? = some (.mapIter (some m) since ⟨seen.reverse⟩ last)) (hm : w.heap[m]? = some (.map ents clock))
    (h1 : ∀ e ∈ ents.toList, e.born < last) (h2 : ∀ e ∈ ents.toList, e.born < since) (rt : TypeId) :
    ∃ left : List MapEntry, left = ents.toList.filter (fun e => !seen.contains e.born) ∧
    (left = [] → (Instr.next (.pointer (some ⟨r, 0, none⟩)) false rt).run C.P w = .ok (.tuple #[.bool false]) w) ∧
    (∀ e, left = [e] → (Instr.next (.pointer (some ⟨r, 0, none⟩)) false rt).run C.P w = .ok (.tuple #[.bool true, e.key, e.val]) { w with heap := w.heap.setIfInBounds r (.mapIter (some m) since ⟨(e.born :: seen).reverse⟩ clock) }) ∧
    (2 ≤ left.length → ∃ i e, i < left.length ∧ left[i]? = some e ∧ (Instr.next (.pointer (some ⟨r, 0, none⟩)) false rt).run C.P w =
      .ok (.tuple #[.bool true, e.key, e.val]) { w with drawn := w.drawn + 1, heap := w.heap.setIfInBounds r (.mapIter (some m) since ⟨(e.born :: seen).reverse⟩ clock) }) := by
  have hq1 : (!(Array.isEmpty (⟨seen.reverse⟩ : Array Nat)) && !ents.isEmpty && ents.all (·.born ≥ last)) = false := by
    cases he : ents.toList with
    | nil =>
      have : ents.isEmpty = true := by cases ents; simp at he; subst he; rfl
      simp [this]
    | cons e es =>
      have : ents.all (·.born ≥ last) = false := by
        have h3 := h1 e (by rw [he]; simp)
        rw [← Array.all_toList, he]
        simp; intro h; omega
      rw [this]; simp
  have hleft : (ents.filter fun e => !(⟨seen.reverse⟩ : Array Nat).contains e.born).toList = ents.toList.filter (fun e => !seen.contains e.born) := by
    simp
  have hold : ((ents.filter fun e => !(⟨seen.reverse⟩ : Array Nat).contains e.born).filter (·.born < since)).toList = ents.toList.filter (fun e => !seen.contains e.born) := by
    rw [Array.toList_filter, hleft, List.filter_eq_self.2]
    intro e he
    simpa using h2 e ((List.mem_filter.1 he).1)
  have hnew : ((ents.filter fun e => !(⟨seen.reverse⟩ : Array Nat).contains e.born).filter (·.born ≥ since)).toList = [] := by
    rw [Array.toList_filter, hleft, List.filter_eq_nil_iff]
    intro e he
    have := h2 e ((List.mem_filter.1 he).1)
    simp; omega
  generalize hL : ents.toList.filter (fun e => !seen.contains e.born) = L at hleft hold hnew
  have hcand : ((if ((ents.filter fun e => !(⟨seen.reverse⟩ : Array Nat).contains e.born).filter (·.born < since)).isEmpty then #[none] else #[]) ++
      (((ents.filter fun e => !(⟨seen.reverse⟩ : Array Nat).contains e.born).filter (·.born < since)) ++ ((ents.filter fun e => !(⟨seen.reverse⟩ : Array Nat).contains e.born).filter (·.born ≥ since))).map some)
      = (⟨if L = [] then [none] else L.map some⟩ : Array (Option MapEntry)) := by
    apply Array.ext'
    rw [Array.toList_append, Array.toList_map, Array.toList_append, hold, hnew, List.append_nil]
    have he : ((ents.filter fun e => !(⟨seen.reverse⟩ : Array Nat).contains e.born).filter (·.born < since)).isEmpty = L.isEmpty := by
      rw [← Array.isEmpty_toList, hold]
    rw [he]
    cases L <;> simp
  have hrun : (Instr.next (.pointer (some ⟨r, 0, none⟩)) false rt).run C.P w = ((do
      match (⟨if L = [] then [none] else L.map some⟩ : Array (Option MapEntry))[← choose (.mapNext (⟨if L = [] then [none] else L.map some⟩ : Array (Option MapEntry)).size)]? with
      | some (some e) =>
        setObj r (.mapIter (some m) since ((⟨seen.reverse⟩ : Array Nat).push e.born) clock)
        pure (.tuple #[.bool true, e.key, e.val])
      | some none => pure (.tuple #[.bool false])
      | none => stuck "Next: no such candidate" : Sem Value)).run C.P w := by
    simp only [Instr.next, Sem.run_bind, runGetObj hr (fun _ _ _ => by simp), Result.andThen_ok, runGetMap hm, hq1, Bool.false_eq_true, if_false, hcand]
    rfl
  refine ⟨_, rfl, ?_, ?_, ?_⟩
  · intro h
    rw [hrun, if_pos h]
    simp only [Sem.run_bind, run_choose, Question.forced]
    rfl
  · intro e h
    subst h
    rw [hrun, if_neg (by simp)]
    simp only [Sem.run_bind, run_choose, Question.forced]
    simp only [List.map_cons, List.map_nil, List.size_toArray, List.length_cons, List.length_nil, Nat.zero_add, Nat.le_refl, decide_true, if_true, Result.andThen_ok]
    simp only [List.getElem?_toArray, List.getElem?_cons_zero, Sem.run_bind]
    rw [runSetObj hr (fun _ _ _ => by simp)]
    simp
  · intro h
    have hne : L ≠ [] := by intro h'; rw [h'] at h; simp at h
    rw [hrun, if_neg hne]
    simp only [Sem.run_bind, run_choose, Question.forced]
    have hsz : (⟨L.map some⟩ : Array (Option MapEntry)).size = L.length := by simp
    rw [hsz]
    have hn : decide (L.length ≤ 1) = false := by simp; omega
    have hn' : ¬ (L.length ≤ 1) := by omega
    simp only [decide_eq_true_eq, hn', if_false, Result.andThen_ok, Question.cut]
    have hlt : w.tape w.drawn (.mapNext L.length) % L.length < L.length := Nat.mod_lt _ (by omega)
    refine ⟨w.tape w.drawn (.mapNext L.length) % L.length, L[w.tape w.drawn (.mapNext L.length) % L.length], hlt, by simp [hlt], ?_⟩
    simp only [List.getElem?_toArray, List.getElem?_map, List.getElem?_eq_getElem hlt, Option.map_some, Sem.run_bind]
    rw [runSetObj (w := { w with drawn := w.drawn + 1 }) hr (fun _ _ _ => by simp)]
    simp

theorem ok_next (hR : Rel C base γ s w) (ht : TmpsRel γ nt t a.tmps) (x : Operand) (isStr : Bool) (rt : TypeId) :
    (opNext x isStr rt C t s).path (NxOk C base γ s w ((VS (Instr.next (a.eval x) isStr rt)).run C.P w)) := by
  refine R.pbd _ (path_evA hR ht x) fun v hv => ?_
  cases v with
  | ptr r off =>
    cases off with
    | succ n => trivial
    | zero =>
      simp only [conc, Option.map_eq_some_iff] at hv
      obtain ⟨lc, hl, hv⟩ := hv
      show (nextOf s r isStr).path _
      unfold nextOf
      cases hb : s.h.get r with
      | none => trivial
      | some b =>
        obtain ⟨l', o, h1, h2, h3⟩ := hR.blk r b hb
        rw [hl] at h1; obtain rfl := Option.some.inj h1
        cases b with
        | siter l pos =>
          obtain ⟨h0, rfl⟩ : lc.dl = 0 ∧ o = .stringIter ⟨⟨l⟩⟩ pos := h3
          cases isStr with
          | false => trivial
          | true =>
            show (match Nat.blt pos l.length with | true => stepStr s r l pos (Utf8.decode ⟨⟨l⟩⟩ pos) | false => R.ok (Nx.val (.tup [.bool false]) s)).path _
            rw [← hv]
            cases hq : Nat.blt pos l.length with
            | true =>
              have hlt : pos < l.length := Nat.le_of_ble_eq_true hq
              have hlt' : pos < (ByteArray.mk ⟨l⟩).size := hlt
              refine ⟨γ, .tuple #[.bool true, goInt pos, .int .i32 (Utf8.decode ⟨⟨l⟩⟩ pos).1], _, ?_, ?_, Step.setOther hR hb hl h2 rfl rfl (b' := .siter l (pos + (Utf8.decode ⟨⟨l⟩⟩ pos).2)) (o' := .stringIter ⟨⟨l⟩⟩ (pos + (Utf8.decode ⟨⟨l⟩⟩ pos).2)) ⟨h0, rfl⟩ (w' := { w with heap := w.heap.setIfInBounds lc.blk (.stringIter ⟨⟨l⟩⟩ (pos + (Utf8.decode ⟨⟨l⟩⟩ pos).2)) }) rfl rfl rfl rfl⟩
              · simp only [VS, Instr.next, Sem.run_bind, Nat.add_zero, h0, runGetObj h2 (fun _ _ _ => by simp), Result.andThen_ok, hlt', if_true, runSetObj h2 (fun _ _ _ => by simp), Sem.run_pure]
              · simp [conc, concL, goInt]
            | false =>
              have hlt : ¬ pos < l.length := fun h => by
                have : Nat.blt pos l.length = true := Nat.ble_eq_true_of_le h
                rw [this] at hq; cases hq
              have hlt' : ¬ pos < (ByteArray.mk ⟨l⟩).size := hlt
              refine okVal hR (c := .tuple #[.bool false]) ?_ (by simp [conc, concL])
              simp only [Instr.next, Sem.run_bind, Nat.add_zero, h0, runGetObj h2 (fun _ _ _ => by simp), Result.andThen_ok, hlt', if_false, Sem.run_pure]
        | miter m since seen last =>
          cases isStr with
          | true => cases m <;> trivial
          | false =>
            rw [← hv]
            cases m with
            | none =>
              obtain ⟨h0, rfl⟩ : lc.dl = 0 ∧ o = .mapIter none 0 #[] 0 := h3
              refine okVal hR (c := .tuple #[.bool false]) ?_ (by simp [conc, concL])
              simp only [Instr.next, Sem.run_bind, Nat.add_zero, h0, runGetObj h2 (fun _ _ _ => by simp), Result.andThen_ok, Sem.run_pure]
            | some m =>
              obtain ⟨h0, lm, hlm, rfl⟩ := h3
              refine R.pbd _ (path_getMap hR (.mapv m) (.map (some lm.blk)) (by simp [conc, hlm])) fun mm hm => ?_
              refine R.pbd _ (R.path_guard _ _) fun _ hg => ?_
              simp only [Bool.and_eq_true] at hg
              rcases hm with ⟨h, _⟩ | ⟨r', lc', ents, g0, gl, gc, g1, g2, g3, g4⟩
              · cases h
              cases g0
              rw [hlm] at gl; obtain rfl := Option.some.inj gl
              obtain ⟨left, hleft, k0, k1, k2⟩ := run_nextMap (C := C) h2 g2 (allBelow_rel last g3 hg.1) (allBelow_rel since g3 hg.2) rt
              have hrel := leftOf_rel seen g3
              rw [← hleft] at hrel
              have hz : lc.dl + 0 = 0 := by omega
              rw [hz]
              unfold nextMap
              have step : ∀ (e : ME) (x : MapEntry) (d : Nat), MapEntRel γ e x → (Instr.next (.pointer (some ⟨lc.blk, 0, none⟩)) false rt).run C.P w = .ok (.tuple #[.bool true, x.key, x.val]) { w with drawn := d, heap := w.heap.setIfInBounds lc.blk (.mapIter (some lm.blk) since ⟨(x.born :: seen).reverse⟩ mm.2) } →
                  (stepIter s r m since seen mm.2 e).path (NxOk C base γ s w ((VS (Instr.next (.pointer (some ⟨lc.blk, 0, none⟩)) false rt)).run C.P w)) := by
                intro e x d he hx
                refine ⟨γ, .tuple #[.bool true, x.key, x.val], _, ?_, ?_, Step.setOther hR hb hl h2 rfl rfl (b' := .miter (some m) since (e.born :: seen) mm.2) (o' := .mapIter (some lm.blk) since ⟨(x.born :: seen).reverse⟩ mm.2) ⟨h0, lm, hlm, by rw [he.2.2]⟩
                  (w' := { w with drawn := d, heap := w.heap.setIfInBounds lc.blk (.mapIter (some lm.blk) since ⟨(x.born :: seen).reverse⟩ mm.2) }) rfl rfl rfl rfl⟩
                · simp only [VS, Sem.run_bind, hx, Result.andThen_ok, Sem.run_pure]
                · simp [conc, concL, he.1, he.2.1]
              cases hle : leftOf seen mm.1 with
              | nil =>
                rw [hle] at hrel
                have hl0 : left = [] := by cases left with | nil => rfl | cons _ _ => exact hrel.elim
                exact okVal hR (c := .tuple #[.bool false]) (k0 hl0) (by simp [conc, concL])
              | cons e es =>
                rw [hle] at hrel
                cases es with
                | nil =>
                  cases left with
                  | nil => exact hrel.elim
                  | cons x left =>
                    cases left with
                    | nil => exact step e x w.drawn hrel.1 (k1 x rfl)
                    | cons _ _ => exact hrel.2.elim
                | cons e2 es =>
                  have hlen := hrel.len
                  obtain ⟨i, x, q1, q2, q3⟩ := k2 (by rw [← hlen]; simp)
                  show (R.ask (e :: e2 :: es).length (fun i => match nth (e :: e2 :: es) i with | some x => stepIter s r m since seen mm.2 x | none => R.bad _)).path _
                  refine ⟨i, by rw [hlen]; exact q1, ?_⟩
                  have hi : i < (e :: e2 :: es).length := by rw [hlen]; exact q1
                  obtain ⟨x', p1, p2⟩ := MapEnts.get i _ hrel (List.getElem?_eq_getElem hi)
                  rw [q2] at p1; obtain rfl := Option.some.inj p1
                  show (match nth (e :: e2 :: es) i with | some x => stepIter s r m since seen mm.2 x | none => R.bad _).path _
                  rw [nth_eq, List.getElem?_eq_getElem hi]
                  exact step _ x (w.drawn + 1) p2 q3
        | _ => trivial
  | _ => trivial

theorem findB_rel (b : Nat) : ∀ {es : List ME} {l : List MapEntry}, MapEnts γ es l → findB b es = none ∨ ∃ e m, findB b es = some e ∧ l.find? (·.born == b) = some m ∧ MapEntRel γ e m
  | [], [], _ => .inl rfl
  | e :: es, m :: l, ⟨h1, h2⟩ => by
    unfold findB
    cases hq : Nat.beq e.born b with
    | true =>
      right
      have : e.born = b := Nat.eq_of_beq_eq_true hq
      exact ⟨e, m, rfl, by rw [List.find?_cons]; simp [h1.2.2, this], h1⟩
    | false =>
      have : e.born ≠ b := by intro h; rw [h] at hq; simp at hq
      rcases findB_rel b h2 with h | ⟨e', m', a1, a2, a3⟩
      · exact .inl h
      · right
        refine ⟨e', m', a1, ?_, a3⟩
        rw [List.find?_cons]
        have hf : (m.born == b) = false := by rw [h1.2.2]; exact beq_eq_false_iff_ne.2 this
        rw [hf]; exact a2
  | [], _ :: _, h => h.elim
  | _ :: _, [], h => h.elim

theorem ok_entry (hR : Rel C base γ s w) (ht : TmpsRel γ nt t a.tmps) (x : Operand) (rt : TypeId) :
    (opEntry x rt C t s).path (NxOk C base γ s w ((VS (Instr.entry (a.eval x))).run C.P w)) := by
  refine R.pbd _ (path_evA hR ht x) fun v hv => ?_
  cases v with
  | ptr r off =>
    cases off with
    | succ n => trivial
    | zero =>
      simp only [conc, Option.map_eq_some_iff] at hv
      obtain ⟨lc, hl, hv⟩ := hv
      rw [← hv]
      refine R.pbd (fun x => ∃ c, conc γ x = some c ∧ (Instr.entry (.pointer (some ⟨lc.blk, lc.dl + 0, none⟩))).run C.P w = .ok c w) ?_ (fun x hx => ?_)
      · unfold entryOf
        cases hb : s.h.get r with
        | none => trivial
        | some b =>
          obtain ⟨l', o, h1, h2, h3⟩ := hR.blk r b hb
          rw [hl] at h1; obtain rfl := Option.some.inj h1
          cases b with
          | miter m since seen last =>
            cases m with
            | none => trivial
            | some m =>
              cases seen with
              | nil => trivial
              | cons k seen =>
                obtain ⟨h0, lm, hlm, rfl⟩ := h3
                refine R.pbd _ (path_getMap hR (.mapv m) (.map (some lm.blk)) (by simp [conc, hlm])) fun mm hm => ?_
                refine R.pbd _ (R.path_guard _ _) fun _ hg => ?_
                have hg' : mm.2 = last := Nat.eq_of_beq_eq_true hg
                rcases hm with ⟨h, _⟩ | ⟨r', lc', ents, g0, gl, gc, g1, g2, g3, g4⟩
                · cases h
                cases g0
                rw [hlm] at gl; obtain rfl := Option.some.inj gl
                rcases findB_rel k g3 with h | ⟨e, x, a1, a2, a3⟩
                · rw [h]; trivial
                · rw [a1]
                  refine ⟨.tuple #[x.key, x.val], by simp [conc, concL, a3.1, a3.2.1], ?_⟩
                  have hback : (⟨(k :: seen).reverse⟩ : Array Nat).back? = some k := by simp
                  have hfind : ents.find? (·.born == k) = some x := by rw [← a2]; cases ents; simp
                  simp only [Instr.entry, Sem.run_bind, Nat.add_zero, h0, runGetObj h2 (fun _ _ _ => by simp), Result.andThen_ok, hback, runGetMap g2, hg', bne_self_eq_false, Bool.false_eq_true, if_false, hfind, Sem.run_pure]
          | _ => trivial
      · obtain ⟨c, q1, q2⟩ := hx
        exact okVal hR q2 q1
  | _ => trivial

end
end Go.Proofs.YtabknehmohoemaaGreatDoor.Abs

namespace Go.Proofs.YtabknehmohoemaaGreatDoor.Abs
open Go

section
variable {C : Ctx} {base : Nat} {γ : G} {s : S} {w : World} {nt : Nat} {t : Tr AV} {a : Act}

theorem info_of_types (_hC : Good C) {t : TypeId} {ti : TypeInfo} (h : C.P.types[t]? = some ti) : C.P.info? t = some ti := by
  have hlt : t < C.P.types.size := by
    rcases Nat.lt_or_ge t C.P.types.size with h' | h'
    · exact h'
    · rw [Array.getElem?_eq_none h'] at h; cases h
  show Tables.info? _ t = _
  unfold Tables.info?
  rw [if_pos hlt]; exact h

theorem ok_TA (hC : Good C) (hR : Rel C base γ s w) (ht : TmpsRel γ nt t a.tmps) (x : Operand) (xt asserted : TypeId) (ok : Bool) (rt : TypeId) :
    (opTA x asserted ok rt C t s).path (NxOk C base γ s w ((VS (Instr.typeAssert (a.eval x) xt asserted ok)).run C.P w)) := by
  refine R.pbd _ (path_evA hR ht x) fun v hv => ?_
  refine R.pbd (fun r => ∃ c, conc γ r = some c ∧ (Instr.typeAssert (a.eval x) xt asserted ok).run C.P w = .ok c w) ?_ (fun r hr => by obtain ⟨c, h1, h2⟩ := hr; exact okVal hR h2 h1)
  refine R.pbd _ (path_under hC asserted) fun d hd => ?_
  -- the two endings
  have holds : ∀ (v : AV) (c : Value), conc γ v = some c → (Instr.typeAssert (a.eval x) xt asserted ok).run C.P w = .ok (if ok then .tuple #[c, .bool true] else c) w →
      (taHolds ok v).path (fun r => ∃ c, conc γ r = some c ∧ (Instr.typeAssert (a.eval x) xt asserted ok).run C.P w = .ok c w) := by
    intro v c h1 h2
    cases ok with
    | true => exact ⟨_, by simp [conc, concL, h1], h2⟩
    | false => exact ⟨_, h1, h2⟩
  have fails : ∀ (st dyn : Option TypeId) (mi : String), (Instr.typeAssert (a.eval x) xt asserted ok).run C.P w = ((if ok then do pure (.tuple #[← zeroValue asserted, .bool false]) else runtimePanic (.typeAssertion st dyn asserted mi) : Sem Value)).run C.P w →
      (taFails C asserted ok).path (fun r => ∃ c, conc γ r = some c ∧ (Instr.typeAssert (a.eval x) xt asserted ok).run C.P w = .ok c w) := by
    intro st dyn mi h
    cases ok with
    | false => trivial
    | true =>
      refine R.pbd _ (path_zeroVal hC asserted) fun z hz => ?_
      obtain ⟨c, h1, h2⟩ := hz
      refine ⟨.tuple #[c, .bool false], by simp [conc, concL, h2 γ], ?_⟩
      rw [h]
      simp only [if_true, Sem.run_bind, h1, Result.andThen_ok, Sem.run_pure]
  cases v with
  | nili =>
    simp only [conc, Option.some.injEq] at hv
    rw [← hv] at holds fails ⊢
    cases d with
    | interface want =>
      refine fails none none "" ?_
      unfold Instr.typeAssert
      rw [run_und' hd]
    | _ =>
      refine fails (some xt) none "" ?_
      unfold Instr.typeAssert
      rw [run_und' hd]
  | iface t v =>
    have hv0 := hv
    simp only [conc, Option.map_eq_some_iff] at hv
    obtain ⟨cv, hcv, hv⟩ := hv
    rw [← hv] at holds fails hv0 ⊢
    cases d with
    | interface want =>
      show (taIface C want t (.iface t v) asserted ok).path _
      unfold taIface
      cases hti : C.P.types[t]? with
      | none => trivial
      | some info =>
        have hinfo := info_of_types hC hti
        simp only
        cases hm : Instr.missingMethod want info.methods with
        | none =>
          refine holds _ _ hv0 ?_
          unfold Instr.typeAssert
          rw [run_und' hd]
          simp only [Sem.run_bind, typeInfo, run_program, hinfo, Result.andThen_ok, Sem.run_pure, hm]
        | some m =>
          refine fails none (some t) m ?_
          unfold Instr.typeAssert
          rw [run_und' hd]
          simp only [Sem.run_bind, typeInfo, run_program, hinfo, Result.andThen_ok, Sem.run_pure, hm]
    | _ =>
      show (match Nat.beq t asserted with | true => taHolds ok v | false => taFails C asserted ok).path _
      cases hq : Nat.beq t asserted with
      | true =>
        have : t = asserted := Nat.eq_of_beq_eq_true hq
        refine holds _ _ hcv ?_
        unfold Instr.typeAssert
        rw [run_und' hd]
        simp only [this, if_true]; rfl
      | false =>
        have : t ≠ asserted := by intro h; rw [h] at hq; simp at hq
        refine fails (some xt) (some t) "" ?_
        unfold Instr.typeAssert
        rw [run_und' hd]
        simp only [this, if_false]
  | _ => trivial

theorem ba_push (l : List UInt8) (b : UInt8) : (ByteArray.mk ⟨l⟩).push b = ⟨⟨l ++ [b]⟩⟩ := by
  simp [ByteArray.push]

/-- cells that are bytes -/
theorem path_avBytes : ∀ (l : List AV) (cl : List Value), concL γ l = some cl →
    (avBytes l).path (fun bs => ∀ (acc : List UInt8) (w : World), (forIn cl (ByteArray.mk ⟨acc⟩) (fun c s => (match c with | .int .u8 n => pure (ForInStep.yield (s.push (UInt8.ofNat n.toNat))) | _ => do { stuck "bytesToString: byte expected"; pure (ForInStep.yield s) } : Sem (ForInStep ByteArray)))).run C.P w = .ok (ByteArray.mk ⟨acc ++ bs⟩) w)
  | [], cl, h => by
    simp only [concL, Option.some.injEq] at h; subst h
    intro acc w
    simp
  | v :: l, cl, h => by
    obtain ⟨c, cl', hc, hcl, rfl⟩ := concL_cons.1 h
    cases v with
    | int k n =>
      cases k with
      | u8 =>
        cases n with
        | ofNat n =>
          simp only [conc, Option.some.injEq] at hc; subst hc
          refine R.pbd _ (path_avBytes l cl' hcl) fun bs hbs => ?_
          intro acc w
          simp only [List.forIn_cons, Sem.run_bind, Sem.run_pure, Result.andThen_ok, ba_push]
          have := hbs (acc ++ [UInt8.ofNat n]) w
          rw [show acc ++ UInt8.ofNat n :: bs = acc ++ [UInt8.ofNat n] ++ bs by simp]
          exact this
        | negSucc n => trivial
      | _ => trivial
    | _ => trivial

theorem rowAt_mono (P : Program) (fits : TypeId → Bool) (e : TypeId) (d count count' off off' n q : Nat) (h1 : off' = q * P.cellsOf e + off) (h2 : q + count ≤ count')
    (h : rowAt P fits d e count off n = true) : rowAt P fits d e count' off' n = true := by
  cases d with
  | zero => cases h
  | succ d =>
    unfold rowAt at h ⊢
    simp only at h ⊢
    split at h
    · cases h
    · next hs =>
      rw [if_neg hs]
      have hpos : 0 < P.cellsOf e := Nat.pos_of_ne_zero hs
      have e1 : off' / P.cellsOf e = q + off / P.cellsOf e := by
        rw [h1, Nat.add_comm (q * P.cellsOf e), Nat.add_mul_div_right _ _ hpos, Nat.add_comm]
      have e2 : off' % P.cellsOf e = off % P.cellsOf e := by
        rw [h1, Nat.add_comm (q * P.cellsOf e), Nat.add_mul_mod_self_right]
      rw [e1, e2]
      simp only [Bool.or_eq_true, Bool.and_eq_true, decide_eq_true_eq] at h ⊢
      rcases h with ⟨⟨h3, h4⟩, h5⟩ | ⟨h3, h4⟩
      · exact .inl ⟨⟨h3, by omega⟩, h5⟩
      · exact .inr ⟨by omega, h4⟩

end
end Go.Proofs.YtabknehmohoemaaGreatDoor.Abs

namespace Go.Proofs.YtabknehmohoemaaGreatDoor.Abs
open Go

section
variable {C : Ctx} {base : Nat} {γ : G} {s : S} {w : World} {nt : Nat} {t : Tr AV} {a : Act}

theorem cellsOf_eq {e : TypeId} {i : TI} (h : TIRel C.P e i) : C.P.cellsOf e = i.size := by
  obtain ⟨ti, h1, h2, h3, _⟩ := h.info
  simp [Program.cellsOf, h1, h3]

theorem placeOk_spec (hC : Good C) (hR : Rel C base γ s w) {b off : Nat} {u : TypeId} {lc : Loc} (hl : γ b = some lc) (h : placeOk C s b off u = true) :
    ∃ el cells, w.shape? lc.blk = some (el, cells) ∧ lc.dl + off < cells ∧ liesAt C.P C.P.depth el (cells / C.P.cellsOf el) (lc.dl + off) u 1 = true := by
  unfold placeOk at h
  cases hb : s.h.get b with
  | none => rw [hb] at h; cases h
  | some q =>
    rw [hb] at h
    cases q with
    | cells el cs n fz anc st sg =>
      simp only [Bool.and_eq_true] at h
      obtain ⟨l', o, h1, h2, vs, lo, hi, rfl, g1, g2, ⟨i, g3, g4, g5, qd, g7⟩, g6⟩ := hR.blk b _ hb
      rw [hl] at h1; obtain rfl := Option.some.inj h1
      have hlt : off < n := Nat.le_of_ble_eq_true h.1
      refine ⟨el, vs.size, by simp [World.shape?, h2], by omega, ?_⟩
      have hd : C.P.depth = (2 * (C.P.types.size + Made.depth) + 1) + 1 := rfl
      rw [hd]
      unfold liesAt
      rw [Bool.or_eq_true]
      left
      have hcs := cellsOf_eq (tiRel hC g3)
      refine rowAt_mono C.P _ el C.P.depth (n / C.P.cellsOf el) _ off _ 1 qd (by rw [hcs, g7]) ?_ h.2
      rw [hcs]
      rcases Nat.eq_zero_or_pos i.size with hz | hz
      · exfalso
        rw [hz] at g4; omega
      · have : (n + qd * i.size) / i.size ≤ vs.size / i.size := Nat.div_le_div_right (by omega)
        rw [Nat.add_mul_div_right _ _ hz] at this
        omega
    | _ => cases h

theorem run_seenAt {P : Program} {ad : Addr} {el : TypeId} {n : Nat} (h : w.shape? ad.block = some (el, n)) : (Conv.seenAt ad).run P w = .ok ad w := by
  simp [Conv.seenAt, viewAt, h]

theorem ok_convPtr (hC : Good C) (hR : Rel C base γ s w) (src dst u : TypeId) (x : AV) (cx : Value) (hx : conc γ x = some cx)
    (hd : (C.P.underlying src = some (.pointer u) ∧ C.P.underlying dst = some .unsafePointer) ∨ (C.P.underlying src = some .unsafePointer ∧ C.P.underlying dst = some (.pointer u))) :
    (convPtr C s u x).path (NxOk C base γ s w ((VS (convert src dst cx)).run C.P w)) := by
  have hcv : ∀ p, cx = .pointer p → (convert src dst cx).run C.P w = (Conv.unsafePointer src dst cx).run C.P w := by
    intro p h
    subst h
    unfold convert
    rcases hd with ⟨h1, h2⟩ | ⟨h1, h2⟩
    · rw [run_und' h1, run_und' h2]
    · rw [run_und' h1, run_und' h2]
  cases x with
  | nilp =>
    simp only [conc, Option.some.injEq] at hx
    refine okVal hR (c := .pointer none) ?_ rfl
    rw [hcv none hx.symm, ← hx]
    unfold Conv.unsafePointer
    rcases hd with ⟨h1, h2⟩ | ⟨h1, h2⟩
    · rw [run_und' h1, run_und' h2]; rfl
    · rw [run_und' h1, run_und' h2]; rfl
  | ptr b off =>
    have hx0 := hx
    simp only [conc, Option.map_eq_some_iff] at hx
    obtain ⟨lc, hl, hx⟩ := hx
    refine R.pbd _ (path_ti hC u) fun i hi => ?_
    refine R.pbd _ (R.path_guard _ _) fun _ hg => ?_
    simp only [Bool.and_eq_true, Bool.not_eq_true'] at hg
    have hsz : i.size ≠ 0 := by intro h; rw [h] at hg; exact absurd hg.1 (by simp)
    obtain ⟨el, cells, p1, p2, p3⟩ := placeOk_spec hC hR hl hg.2
    refine okVal hR (c := cx) ?_ hx0
    rw [hcv _ hx.symm, ← hx]
    unfold Conv.unsafePointer
    rcases hd with ⟨h1, h2⟩ | ⟨h1, h2⟩
    · rw [run_und' h1, run_und' h2]
      simp only [Sem.run_bind]
      rw [run_seenAt (ad := ⟨lc.blk, lc.dl + off, none⟩) p1]
      have : ¬ (lc.dl + off ≥ cells) := by omega
      simp [cellsIn, p1, hi.2.size w, hsz]
      intro h; omega
    · rw [run_und' h1, run_und' h2]
      simp only [Sem.run_bind]
      rw [run_seenAt (ad := ⟨lc.blk, lc.dl + off, none⟩) p1]
      simp [variablesAt, p1, hi.2.size w, hsz, p3]
  | _ => trivial

theorem ok_convBytes (hC : Good C) (hR : Rel C base γ s w) (src dst e : TypeId) (x : AV) (cx : Value) (hx : conc γ x = some cx)
    (h1 : C.P.underlying src = some (.slice e)) (h2 : C.P.underlying dst = some .string) (hns : ∀ l, x ≠ .str l) :
    (convBytes C s e x).path (NxOk C base γ s w ((VS (convert src dst cx)).run C.P w)) := by
  refine R.pbd _ (path_ti hC e) fun i hi => ?_
  have hund := hi.2.und
  cases hdsc : i.desc with
  | int k =>
    cases k with
    | u8 =>
      show (guardB (Nat.beq i.size 1) _ >>= fun _ => srcCells s e i.size x >>= fun r => avBytes r.2 >>= fun bs => R.ok (Nx.val (.str bs) s)).path _
      refine R.pbd _ (R.path_guard _ _) fun _ hg => ?_
      have hsz : i.size = 1 := Nat.eq_of_beq_eq_true hg
      rw [hdsc] at hund
      have fin : ∀ b n c, cx = .slice b n c → (srcCells s e i.size x >>= fun r => avBytes r.2 >>= fun bs => R.ok (Nx.val (.str bs) s)).path (NxOk C base γ s w ((VS (convert src dst cx)).run C.P w)) := by
        intro b n c hcx
        subst hcx
        refine R.pbd _ (path_srcCells hC hR e hi.1 x _ hx) fun r hr => ?_
        obtain ⟨cc, hcc, hcl, hlen, hfc⟩ := hr
        refine R.pbd _ (path_avBytes (C := C) r.2 cc hcc) fun bs hbs => ?_
        refine okVal hR (c := .string ⟨⟨bs⟩⟩) ?_ rfl
        unfold convert
        rw [run_und' h1, run_und' h2]
        simp only
        rw [run_und' hund]
        simp only [Conv.bytesToString]
        have hn : n = r.1 := by
          have := hlen w
          simp only [Builtin.lenOf, Sem.run_pure, Result.ok.injEq] at this
          exact this.1
        have hall := hfc r.1 (Nat.le_refl _)
        have htake : cc.take (r.1 * i.size) = cc := List.take_of_length_le (by rw [concL_len hcc, hcl]; exact Nat.le_refl _)
        rw [htake] at hall
        cases b with
        | none =>
          simp only [Builtin.firstCells, Sem.run_pure, Result.ok.injEq] at hall
          have hcc0 : cc = [] := by
            have := hall.1
            injection this with this
            exact this.symm
          subst hcc0
          have := hbs [] w
          simp at this
          subst this
          rfl
        | some ad =>
          simp only [Builtin.firstCells, hsz, Nat.mul_one] at hall
          rw [hn]
          simp only [Sem.run_bind, hall, Result.andThen_ok]
          have := hbs [] w
          refine (congrArg (fun r => Result.andThen r _) (?_ : _ = Result.ok (ByteArray.mk ⟨bs⟩) w)).trans rfl
          have e : ∀ (f : Value → ByteArray → Sem (ForInStep ByteArray)), forIn (⟨cc⟩ : Array Value) ByteArray.empty f = forIn cc (ByteArray.mk ⟨[]⟩) f := by
            intro f; simp; rfl
          rw [e]
          exact this
      cases x with
      | nilsl => simp only [conc, Option.some.injEq] at hx; exact fin _ _ _ hx.symm
      | sl => simp only [conc, Option.map_eq_some_iff] at hx; obtain ⟨_, _, hx⟩ := hx; exact fin _ _ _ hx.symm
      | osl => simp only [conc, Option.map_eq_some_iff] at hx; obtain ⟨_, _, hx⟩ := hx; exact fin _ _ _ hx.symm
      | str l => exact absurd rfl (hns l)
      | _ => trivial
    | _ => trivial
  | _ => trivial

theorem list_modify_last {α : Type} (o : α) (f : α → α) : ∀ l : List α, (l ++ [o]).modify l.length f = l ++ [f o]
  | [] => by simp
  | x :: l => by simp [list_modify_last o f l]
theorem modify_push {α : Type} (h : Array α) (o : α) (f : α → α) : (h.push o).modify h.size f = h.push (f o) := by
  apply Array.ext'
  rw [Array.toList_modify, Array.toList_push, Array.toList_push]
  exact list_modify_last o f h.toList

theorem run_mark (P : Program) (w : World) (arr : Array Value) (e : TypeId) :
    (markStringish ⟨w.heap.size, 0, none⟩).run P (w.alloc (.cells arr e (0, 0))) = .ok () { w with heap := w.heap.push (.cells arr e (arr.size, arr.size + 1)) } := by
  have hsh : World.shape? (w.alloc (.cells arr e (0, 0))) w.heap.size = some (e, arr.size) := by
    show (match (w.heap.push (.cells arr e (0, 0)))[w.heap.size]? with | some (.cells c elem _) => some (elem, c.size) | _ => none) = _
    rw [Array.getElem?_push_size]
  simp only [markStringish, Sem.run_bind, run_shape, Result.andThen_ok, hsh, run_freeze]
  congr 1
  show World.freeze _ ⟨w.heap.size, arr.size, none⟩ 1 = _
  unfold World.freeze
  rw [if_neg (by omega)]
  show World.mk ((w.heap.push (.cells arr e (0, 0))).modify w.heap.size _) _ _ _ _ = _
  rw [modify_push]
  rfl

theorem run_strToBytes (P : Program) (e : TypeId) (l : List UInt8) (w : World) : ∃ (cap : Nat) (arr : Array Value), arr.size = cap ∧ l.length ≤ cap ∧
    (∀ (j : Nat) c, (l.map fun b => Value.int .u8 b.toNat)[j]? = some c → arr[j]? = some c) ∧
    (Conv.stringToBytes e ⟨⟨l⟩⟩).run P w = .ok (.slice (some ⟨w.heap.size, 0, none⟩) l.length cap)
      { w with drawn := w.drawn + 1, heap := w.heap.push (.cells arr e (arr.size, arr.size + 1)) } := by
  let cap := (Question.appendCap l.length 0 e).cut (w.tape w.drawn (.appendCap l.length 0 e))
  have hcap : l.length ≤ cap := by
    show l.length ≤ l.length + _
    omega
  refine ⟨cap, (⟨l⟩ : Array UInt8).map (fun b => Value.int .u8 b.toNat) ++ Array.replicate (cap - l.length) (.int .u8 0), by simp; omega, hcap, ?_, ?_⟩
  · intro j c hj
    rw [Array.getElem?_append_left (by
      rcases Nat.lt_or_ge j l.length with h | h
      · simpa using h
      · rw [List.getElem?_eq_none (by simpa using h)] at hj; cases hj)]
    simpa using hj
  have hsz : (ByteArray.mk ⟨l⟩).size = l.length := rfl
  unfold Conv.stringToBytes
  rw [hsz]
  simp only [Sem.run_bind, run_choose]
  have hq : (Question.appendCap l.length 0 e).forced = false := rfl
  simp only [hq, Bool.false_eq_true, if_false, Result.andThen_ok, run_newRow]
  have := run_mark P { w with drawn := w.drawn + 1 } ((⟨l⟩ : Array UInt8).map (fun b => Value.int .u8 b.toNat) ++ Array.replicate (cap - l.length) (.int .u8 0)) e
  exact (congrArg (fun r => Result.andThen r _) this).trans rfl

theorem ok_convStr (hC : Good C) (hR : Rel C base γ s w) (src dst e : TypeId) (l : List UInt8) {d : TypeDesc} (h1 : C.P.underlying src = some d) (h2 : C.P.underlying dst = some (.slice e)) :
    (convStr C s e l).path (NxOk C base γ s w ((VS (convert src dst (.string ⟨⟨l⟩⟩))).run C.P w)) := by
  refine R.pbd _ (path_ti hC e) fun i hi => ?_
  have hund := hi.2.und
  cases hdsc : i.desc with
  | int k =>
    cases k with
    | u8 =>
      rw [hdsc] at hund
      show (guardB (Nat.beq i.size 1) _ >>= fun _ => R.ok (Nx.val (.osl s.next 0 0 l.length 1) (s.new (.cells e (Tr.ofList (bytesAV l)) l.length 0 [] false true)))).path _
      refine R.pbd _ (R.path_guard _ _) fun _ hg => ?_
      have hsz : i.size = 1 := Nat.eq_of_beq_eq_true hg
      obtain ⟨cap, arr, hc1, hc2, hc3, hrun⟩ := run_strToBytes C.P e l w
      have hstep := Step.alloc (base := base) hR (.cells e (Tr.ofList (bytesAV l)) l.length 0 [] false true) (.cells arr e (arr.size, arr.size + 1)) 0 cap
        (w' := { w with drawn := w.drawn + 1, heap := w.heap.push (.cells arr e (arr.size, arr.size + 1)) }) rfl rfl rfl rfl
        (by
          intro γ' hg'
          have := newCells_rel (C := C) (γ := γ) hi.1 (concL_bytes γ l) (arr := arr) (cp := cap) (by rw [bytesAV_len, hsz]; omega) (by rw [hsz]; omega) hc3 w.heap.size 0 true arr.size (arr.size + 1)
            (fun off a b => .inr ⟨rfl, a⟩) (by omega) γ' hg'
          rw [bytesAV_len] at this
          exact this)
      refine ⟨_, .slice (some ⟨w.heap.size, 0, none⟩) l.length cap, _, ?_, ?_, hstep⟩
      · have : (convert src dst (.string ⟨⟨l⟩⟩)).run C.P w = (Conv.stringToBytes e ⟨⟨l⟩⟩).run C.P w := by
          unfold convert
          rw [run_und' h1, run_und' h2]
          have h3 : ∀ (f g h : Sem Value), ((underlying e >>= fun x => match x with | .int .u8 => f | .int .i32 => g | _ => h) : Sem Value).run C.P w = f.run C.P w := by
            intro f g h
            rw [run_und' hund]
          cases d <;> exact h3 _ _ _
        simp only [VS, Sem.run_bind, this, hrun, Result.andThen_ok, Sem.run_pure]
      · simp only [conc, if_true, Option.map_some, Option.some.injEq]
        simp
    | _ => trivial
  | _ => trivial

theorem ok_conv (hC : Good C) (hR : Rel C base γ s w) (ht : TmpsRel γ nt t a.tmps) (src dst : TypeId) (x : Operand) (rt : TypeId) :
    (opConv src dst x rt C t s).path (NxOk C base γ s w ((VS (convert src dst (a.eval x))).run C.P w)) := by
  refine R.pbd _ (path_evA hR ht x) fun v hv => ?_
  refine R.pbd _ (path_under hC src) fun da hda => ?_
  refine R.pbd _ (path_under hC dst) fun db hdb => ?_
  cases db with
  | int k =>
    cases v with
    | int k' n =>
      simp only [conc, Option.some.injEq] at hv
      rw [← hv]
      refine okVal hR (c := .int k (k.wrap n)) ?_ rfl
      unfold convert
      rw [run_und' hda, run_und' hdb]
      cases da <;> rfl
    | _ => trivial
  | string =>
    have other : (∀ l, v ≠ .str l) → (match da with | .slice e => convBytes C s e v | _ => R.bad "conv to string").path (NxOk C base γ s w ((VS (convert src dst (a.eval x))).run C.P w)) := by
      intro hns
      cases da with
      | slice e => exact ok_convBytes hC hR src dst e v _ hv hda hdb hns
      | _ => trivial
    cases v with
    | str l =>
      simp only [conc, Option.some.injEq] at hv
      rw [← hv]
      refine okVal hR (c := .string ⟨⟨l⟩⟩) ?_ rfl
      unfold convert
      rw [run_und' hda, run_und' hdb]
      cases da <;> rfl
    | int k n =>
      simp only [conc, Option.some.injEq] at hv
      rw [← hv]
      refine okVal hR (c := .string (Utf8.encode n)) ?_ rfl
      unfold convert
      rw [run_und' hda, run_und' hdb]
      cases da <;> rfl
    | _ => exact other (fun l => by simp)
  | slice e =>
    cases v with
    | str l =>
      simp only [conc, Option.some.injEq] at hv
      rw [← hv]
      exact ok_convStr hC hR src dst e l hda hdb
    | _ => trivial
  | unsafePointer =>
    cases da with
    | pointer u => exact ok_convPtr hC hR src dst u v _ hv (.inl ⟨hda, hdb⟩)
    | _ => trivial
  | pointer u =>
    cases da with
    | unsafePointer => exact ok_convPtr hC hR src dst u v _ hv (.inr ⟨hda, hdb⟩)
    | _ => trivial
  | _ => trivial

end
end Go.Proofs.YtabknehmohoemaaGreatDoor.Abs

namespace Go.Proofs.YtabknehmohoemaaGreatDoor.Abs
open Go

section
variable {C : Ctx} {base : Nat} {γ : G} {s : S} {w : World} {nt : Nat} {t : Tr AV} {a : Act}

theorem path_loadBytes {P : Program} {blk : Nat} : ∀ (l : List AV) (cl : List Value), concL γ l = some cl →
    (avBytes l).path (fun bs => ∀ (acc : List UInt8) (o : Nat), (∀ (j : Nat) v, cl[j]? = some v → w.cell? ⟨blk, o + j, none⟩ = some v) →
      (loadBytes ⟨blk, o, none⟩ (ByteArray.mk ⟨acc⟩) l.length).run P w = .ok (ByteArray.mk ⟨acc ++ bs⟩) w)
  | [], cl, h => by
    intro acc o _
    simp [loadBytes]
  | v :: l, cl, h => by
    obtain ⟨c, cl', hc, hcl, rfl⟩ := concL_cons.1 h
    cases v with
    | int k n =>
      cases k with
      | u8 =>
        cases n with
        | ofNat n =>
          simp only [conc, Option.some.injEq] at hc; subst hc
          refine R.pbd _ (path_loadBytes (P := P) (blk := blk) l cl' hcl) fun bs hbs => ?_
          intro acc o hcell
          have h0 : w.cell? ⟨blk, o, none⟩ = some (.int .u8 (.ofNat n)) := by simpa using hcell 0 _ (by simp)
          simp only [List.length_cons, loadBytes, Sem.run_bind, run_load]
          rw [h0]
          simp only [Result.andThen_ok, ba_push, addr_add]
          have := hbs (acc ++ [UInt8.ofNat n]) (o + 1) (fun j v hj => by
            have := hcell (j + 1) v (by simpa using hj)
            rw [show o + 1 + j = o + (j + 1) by omega]; exact this)
          rw [show acc ++ UInt8.ofNat n :: bs = acc ++ [UInt8.ofNat n] ++ bs by simp]
          exact this
        | negSucc n => trivial
      | _ => trivial
    | _ => trivial

/-- a live block of cells that is frozen further -/
theorem Step.freeze (hR : Rel C base γ s w) {b : Nat} {e : TypeId} {cs : Tr AV} {k fz fz' : Nat} {anc : List Nat} {lc : Loc} (hb : s.h.get b = some (.cells e cs k fz anc false false)) (hl : γ b = some lc)
    {vs : Array Value} {lo hi lo' hi' : Nat} (ho : w.heap[lc.blk]? = some (.cells vs e (lo, hi))) (hlh : lo' ≤ hi') (hfr : hi' ≤ lc.dl + fz') {w' : World}
    (hw : w'.heap = w.heap.setIfInBounds lc.blk (.cells vs e (lo', hi'))) (ht : w'.tape = w.tape) (hos : w'.os = w.os) (hout : w'.output = w.output) :
    Step C base γ s w γ ⟨s.h.set b (.cells e cs k fz' anc false false), s.next⟩ w' := by
  have hlt : lc.blk < w.heap.size := by
    rcases Nat.lt_or_ge lc.blk w.heap.size with h' | h'
    · exact h'
    · rw [Array.getElem?_eq_none h'] at ho; cases ho
  obtain ⟨l', o, q1, q2, vs', lo1, hi1, hoo, g1, g2, g3, g4, glh⟩ := hR.blk b _ hb
  rw [hl] at q1; obtain rfl := Option.some.inj q1
  rw [ho] at q2; obtain rfl := Option.some.inj q2
  cases hoo
  have hshare : ∀ i x li, i ≠ b → (s.h.set b (.cells e cs k fz' anc false false)).get i = some x → γ i = some li → li.blk = lc.blk →
      ∃ e' cs' k' fz' anc' sg', x = .cells e' cs' k' fz' anc' true sg' ∧ i ∈ anc ∧ li.dl + k' ≤ lc.dl + k := by
    intro i x li hi hx hγi hbl
    rw [Tr.get_set_other _ _ (Ne.symm hi)] at hx
    rcases hR.sep i b x _ li lc hx hb hγi hl hi hbl with h | h
    · cases x <;> simp [AncOf] at h
    · cases x <;> simp only [AncOf] at h
      obtain ⟨h1, h2, h3⟩ := h
      subst h2
      exact ⟨_, _, _, _, _, _, rfl, h1, h3⟩
  refine ⟨Grow.refl γ, ?_, ⟨by rw [hw]; simp, ht, hos, hout, ?_⟩, ?_, Nat.le_refl _, fun _ _ h => hR.lt h, fun _ l h => .inl ⟨l, h⟩, fun id x h1 _ => by
    simp only [Tr.get_set] at h1
    split at h1
    · next h => subst h; exact ⟨_, hb⟩
    · exact ⟨x, h1⟩⟩
  · refine hR.setBlk (b' := .cells e cs k fz' anc false false) (o' := .cells vs e (lo', hi')) hb hl hl ⟨rfl, rfl, rfl⟩ rfl (fun _ _ => rfl) ?_ (Tr.get_set_same _ _ _) ?_ ?_ (by rw [hw]; simp)
      ⟨vs, lo', hi', rfl, g1, g2, g3, fun _ off h1 h2 => .inl (by omega), hlh⟩ ?_ ?_
    · intro i x hi hx
      rw [Tr.get_set_other _ _ (Ne.symm hi)] at hx; exact hx
    · intro k hk
      rw [hw]; simp [Ne.symm hk]
    · rw [hw]; simp [hlt]
    · intro i x li hi hx hγi hbl
      obtain ⟨e', cs', k', fz'', anc', sg', rfl, _, hle⟩ := hshare i x li hi hx hγi hbl
      rw [Tr.get_set_other _ _ (Ne.symm hi)] at hx
      obtain ⟨l2, o2, p1, p2, vs2, lo2, hi2, rfl, f1, f2, f3, f4, flh⟩ := hR.blk i _ hx
      rw [hγi] at p1; obtain rfl := Option.some.inj p1
      rw [hbl, ho] at p2
      cases p2
      exact ⟨vs, lo', hi', rfl, f1, f2, f3, (fun h => by cases h), hlh⟩
    · intro i x li hi hx hγi hbl
      obtain ⟨e', cs', k', fz'', anc', sg', rfl, hm, hle⟩ := hshare i x li hi hx hγi hbl
      exact ⟨hm, rfl, hle⟩
  · intro k o hk hn
    have : k ≠ lc.blk := fun h => hn ⟨b, _, lc, hb, rfl, hl, h.symm⟩
    rw [hw]; simp [Ne.symm this, hk]
  · rintro k ⟨id, x, l, q1, q2, q3, q4⟩ _
    simp only [Tr.get_set] at q1
    split at q1
    · next h => subst h; exact ⟨_, _, lc, hb, rfl, hl, by rw [hl] at q3; obtain rfl := Option.some.inj q3; exact q4⟩
    · exact ⟨id, x, l, q1, q2, q3, q4⟩

theorem ok_string (hC : Good C) (hR : Rel C base γ s w) (argTypes : List TypeId) (args : List AV) (cargs : List Value) (hargs : concL γ args = some cargs) (rt : TypeId) :
    (biString C s argTypes args).path (NxOk C base γ s w ((VS (Builtin.unsafeString_ ⟨argTypes⟩ rt ⟨cargs⟩)).run C.P w)) := by
  unfold biString
  split
  case h_2 => trivial
  rename_i p n ty rest
  obtain ⟨cp, cl1, hcp, g1, rfl⟩ := concL_cons.1 hargs
  obtain ⟨cn, cl2, hcn, g2, rfl⟩ := concL_cons.1 g1
  simp only [concL, Option.some.injEq] at g2; subst g2
  refine R.pbd _ (path_asIdx n) fun m hm => ?_
  obtain ⟨kk, rfl⟩ := hm
  simp only [conc, Option.some.injEq] at hcn; subst hcn
  cases m with
  | zero =>
    have hz : ∀ q, cp = .pointer q → (Builtin.unsafeString_ ⟨ty :: rest⟩ rt ⟨[cp, .int kk (.ofNat 0)]⟩).run C.P w = .ok (.string .empty) w := by
      intro q hq
      subst hq
      have e : Builtin.unsafeString_ ⟨ty :: rest⟩ rt ⟨[.pointer q, .int kk (.ofNat 0)]⟩ = (Go.asInt (.int kk (.ofNat 0)) >>= _) := rfl
      rw [e, Sem.run_bind, runAsInt]
      cases q <;> rfl
    cases p with
    | nilp =>
      simp only [conc, Option.some.injEq] at hcp
      exact okVal hR (hz _ hcp.symm) rfl
    | ptr b off =>
      simp only [conc, Option.map_eq_some_iff] at hcp
      obtain ⟨lc, hl, hcp⟩ := hcp
      exact okVal hR (hz _ hcp.symm) rfl
    | _ => trivial
  | succ m =>
    cases p with
    | ptr b off =>
      simp only [conc, Option.map_eq_some_iff] at hcp
      obtain ⟨lc, hl, hcp⟩ := hcp
      refine R.pbd _ (path_under hC ty) fun d hd => ?_
      cases d with
      | pointer u =>
        show (strAt C s u b off (m + 1)).path _
        unfold strAt
        cases hb : s.h.get b with
        | none => trivial
        | some q =>
          cases q with
          | cells e cs k fz anc st sg =>
            cases st with
            | true => trivial
            | false =>
              cases sg with
              | true => trivial
              | false =>
                refine R.pbd _ (R.path_guard _ _) fun _ hg => ?_
                simp only [Bool.and_eq_true] at hg
                obtain ⟨⟨hg1, hg2⟩, hg3⟩ := hg
                have hk : off + (m + 1) ≤ k := Nat.le_of_ble_eq_true hg1
                have hm : m + 1 ≤ 1099511627776 := Nat.le_of_ble_eq_true hg3
                obtain ⟨l', o, q1, q2, vs, lo, hi, hoo, g1, g2, ⟨i, g3, g4, g5, qd, g7⟩, g6, glh⟩ := hR.blk b _ hb
                rw [hl] at q1; obtain rfl := Option.some.inj q1
                subst hoo
                refine R.pbd _ (path_getCells g2 (m + 1) off hk) fun l hl' => ?_
                obtain ⟨cl, o1, o2, o3⟩ := hl'
                refine R.pbd _ (path_loadBytes (P := C.P) (w := w) (blk := lc.blk) l cl o1) fun bs hbs => ?_
                have hload := hbs [] (lc.dl + off) (fun j v hj => by
                  have := o3 j v hj
                  simp only [World.cell?, q2]
                  simpa using this)
                rw [o2] at hload
                have hcs := cellsOf_eq (tiRel hC g3)
                have hpos : 0 < i.size := by
                  rcases Nat.eq_zero_or_pos i.size with hz | hz
                  · rw [hz] at g4; omega
                  · exact hz
                have hlies : liesAt C.P C.P.depth e (vs.size / C.P.cellsOf e) (lc.dl + off) u (m + 1) = true := by
                  have hdp : C.P.depth = (2 * (C.P.types.size + Made.depth) + 1) + 1 := rfl
                  rw [hdp]
                  unfold liesAt
                  rw [Bool.or_eq_true]
                  left
                  refine rowAt_mono C.P _ e C.P.depth (k / C.P.cellsOf e) _ off _ (m + 1) qd (by rw [hcs, g7]) ?_ hg2
                  rw [hcs]
                  have : (k + qd * i.size) / i.size ≤ vs.size / i.size := Nat.div_le_div_right (by omega)
                  rw [Nat.add_mul_div_right _ _ hpos] at this
                  omega
                have hsh : w.shape? lc.blk = some (e, vs.size) := by simp [World.shape?, q2]
                -- the frozen part
                have hfrz : ∃ lo' hi', lo' ≤ hi' ∧ hi' ≤ lc.dl + max fz (off + (m + 1)) ∧ (w.freeze ⟨lc.blk, lc.dl + off, none⟩ (m + 1)).heap = w.heap.setIfInBounds lc.blk (.cells vs e (lo', hi')) := by
                  have hlt : lc.blk < w.heap.size := by
                    rcases Nat.lt_or_ge lc.blk w.heap.size with h' | h'
                    · exact h'
                    · rw [Array.getElem?_eq_none h'] at q2; cases q2
                  have hat : w.heap[lc.blk] = .cells vs e (lo, hi) := by
                    rw [Array.getElem?_eq_getElem hlt] at q2; exact Option.some.inj q2
                  refine ⟨(if lo == hi then (lc.dl + off, lc.dl + off + (m + 1)) else (min lo (lc.dl + off), max hi (lc.dl + off + (m + 1)))).1, (if lo == hi then (lc.dl + off, lc.dl + off + (m + 1)) else (min lo (lc.dl + off), max hi (lc.dl + off + (m + 1)))).2, ?_, ?_, ?_⟩
                  · split
                    · simp only; omega
                    · simp only; omega
                  · split
                    · simp only; omega
                    · next hne =>
                      have hne' : lo ≠ hi := by simpa using hne
                      rcases g6 rfl (hi - 1) (by omega) (by omega) with h | ⟨h, _⟩
                      · simp only; omega
                      · cases h
                  · unfold World.freeze
                    rw [if_neg (by omega)]
                    apply Array.ext_getElem?
                    intro j
                    simp only [Array.getElem?_modify, Array.getElem?_setIfInBounds]
                    by_cases hjb : lc.blk = j
                    · subst hjb; simp [hat, hlt]
                    · simp [hjb]
                obtain ⟨lo', hi', hf1, hf2, hf3⟩ := hfrz
                have hstep := Step.freeze hR hb hl q2 (lo' := lo') (hi' := hi') (fz' := max fz (off + (m + 1))) hf1 hf2 (w' := w.freeze ⟨lc.blk, lc.dl + off, none⟩ (m + 1)) hf3
                  (by unfold World.freeze; rw [if_neg (by omega)]) (by unfold World.freeze; rw [if_neg (by omega)]) (by unfold World.freeze; rw [if_neg (by omega)])
                refine ⟨γ, .string ⟨⟨bs⟩⟩, w.freeze ⟨lc.blk, lc.dl + off, none⟩ (m + 1), ?_, rfl, hstep⟩
                rw [← hcp]
                have h1 : ¬ ((Int.ofNat (m + 1)) < 0) := by simp only [Int.ofNat_eq_natCast]; omega
                have h2 : ¬ (Int.ofNat (m + 1) > IntKind.i64.max) := by
                  have : IntKind.i64.max = 9223372036854775807 := by decide
                  rw [this]; simp only [Int.ofNat_eq_natCast]; omega
                have h3 : ¬ (Int.ofNat (m + 1) = 0) := by simp only [Int.ofNat_eq_natCast]; omega
                have hel : (elemOf ty).run C.P w = .ok u w := by
                  unfold elemOf
                  rw [run_und' hd]; rfl
                have hva : (variablesAt ⟨lc.blk, lc.dl + off, none⟩ u (m + 1)).run C.P w = .ok true w := by
                  simp only [variablesAt, Sem.run_bind, run_program, Result.andThen_ok, run_shape, hsh, Sem.run_pure, hlies]
                have hload' : (loadBytes ⟨lc.blk, lc.dl + off, none⟩ .empty (m + 1)).run C.P w = .ok ⟨⟨bs⟩⟩ w := hload
                have e : Builtin.unsafeString_ ⟨ty :: rest⟩ rt ⟨[.pointer (some ⟨lc.blk, lc.dl + off, none⟩), .int kk (.ofNat (m + 1))]⟩ = (Go.asInt (.int kk (.ofNat (m + 1))) >>= _) := rfl
                simp only [VS]
                rw [e]
                simp only [Sem.run_bind, runAsInt, Result.andThen_ok, List.getElem?_toArray, List.getElem?_cons_zero, h1, h2, h3, if_false, hel]
                have htn : (Int.ofNat (m + 1)).toNat = m + 1 := rfl
                simp only [htn, hva, Result.andThen_ok, if_true, Sem.run_bind, hload', run_freeze, Sem.run_pure]
          | _ => trivial
      | _ => trivial
    | _ => trivial

end
end Go.Proofs.YtabknehmohoemaaGreatDoor.Abs

namespace Go.Proofs.YtabknehmohoemaaGreatDoor.Abs
open Go

section
variable {C : Ctx} {base : Nat} {γ : G} {s : S} {w : World} {nt : Nat} {t : Tr AV} {a : Act}

theorem run_callExtern {f : FuncId} {fn : Func} {e : Array Value → Sem Value} (h1 : C.P.funcs[f]? = some fn) (h2 : fn.body = none) (h3 : (fn.name == "runtime.NumGoroutine") = false) (h4 : Extern.findNext fn = none)
    (h5 : Extern.find fn = some e) (args : Array Value) : (callFunc f args).run C.P w = (VS (e args)).run C.P w := by
  have h3' : fn.name ≠ "runtime.NumGoroutine" := by simpa using h3
  simp [callFunc, h1, h2, h3', h4, h5, VS]

theorem u8_beq (b : UInt8) (c : Nat) (hc : c < 256) : (b == (Int.ofNat c).toNat.toUInt8) = Nat.beq b.toNat c := by
  have h1 : (Int.ofNat c).toNat = c := rfl
  rw [h1]
  have h2 : c.toUInt8.toNat = c := by simp [Nat.toUInt8, UInt8.toNat_ofNat']; omega
  cases hq : Nat.beq b.toNat c with
  | true =>
    have := Nat.eq_of_beq_eq_true hq
    have : b = c.toUInt8 := UInt8.toNat_inj.1 (by rw [h2]; exact this)
    rw [this]; simp
  | false =>
    apply beq_eq_false_iff_ne.2
    intro h
    rw [h, h2] at hq
    simp at hq

theorem findByte_eq (c : Nat) (hc : c < 256) : ∀ (l : List UInt8) (k : Nat), findByte c l k = if Go.Lib.indexByte l (Int.ofNat c).toNat.toUInt8 == -1 then -1 else (k : Int) + Go.Lib.indexByte l (Int.ofNat c).toNat.toUInt8
  | [], k => rfl
  | b :: l, k => by
    show (match Nat.beq b.toNat c with | true => Int.ofNat k | false => findByte c l (k + 1)) = _
    unfold Go.Lib.indexByte
    rw [u8_beq b c hc]
    cases hb : Nat.beq b.toNat c with
    | true => simp
    | false =>
      simp only [Bool.false_eq_true, if_false]
      rw [findByte_eq c hc l (k + 1)]
      have hge := Go.Lib.indexByte_ge l (Int.ofNat c).toNat.toUInt8
      generalize Go.Lib.indexByte l (Int.ofNat c).toNat.toUInt8 = m at hge
      by_cases h : m = -1
      · subst h; rfl
      · have h' : (m == -1) = false := by simpa using h
        have h2 : (m + 1 == -1) = false := by simp; omega
        simp only [h', Bool.false_eq_true, if_false, h2]
        omega

theorem countByte_eq (c : Nat) (hc : c < 256) : ∀ (l : List UInt8), countByte c l = Go.Lib.countByte l (Int.ofNat c).toNat.toUInt8
  | [] => rfl
  | b :: l => by
    show (match Nat.beq b.toNat c with | true => countByte c l + 1 | false => countByte c l) = _
    unfold Go.Lib.countByte
    rw [List.count_cons, u8_beq b c hc, countByte_eq c hc l]
    cases hb : Nat.beq b.toNat c <;> simp [Go.Lib.countByte]

theorem cmpOf_eq : ∀ (a b : List UInt8), cmpOf a b = Go.Lib.compareBytes a b
  | [], [] => rfl
  | [], _ :: _ => rfl
  | _ :: _, [] => rfl
  | x :: a, y :: b => by
    have ih := cmpOf_eq a b
    unfold Go.Lib.compareBytes
    rw [← ih]
    unfold cmpOf
    show (match (match Nat.blt x.toNat y.toNat with | true => true | false => match Nat.beq x.toNat y.toNat with | true => bytesLt a b | false => false) with | true => (-1 : Int) | false => match (match Nat.beq x.toNat y.toNat with | true => bytesEq a b | false => false) with | true => (0 : Int) | false => (1 : Int)) = _
    cases h1 : Nat.blt x.toNat y.toNat with
    | true =>
      have : x < y := UInt8.lt_iff_toNat_lt.2 (Nat.le_of_ble_eq_true h1)
      simp [this]
    | false =>
      have hn : ¬ x < y := fun h => by
        have : Nat.blt x.toNat y.toNat = true := Nat.ble_eq_true_of_le (UInt8.lt_iff_toNat_lt.1 h)
        rw [this] at h1; cases h1
      cases h2 : Nat.beq x.toNat y.toNat with
      | true =>
        have : x = y := UInt8.toNat_inj.1 (Nat.eq_of_beq_eq_true h2)
        subst this
        rw [if_neg hn]
        simp only [hn, if_false]
        cases bytesLt a b <;> cases bytesEq a b <;> rfl
      | false =>
        have hne : x ≠ y := by intro h; subst h; simp at h2
        have : y < x := UInt8.lt_of_le_of_ne (UInt8.not_lt.1 hn) (Ne.symm hne)
        simp [hn, this]

theorem path_asByte (v : AV) (cv : Value) (hv : conc γ v = some cv) : (asByteA v).path (fun c => c < 256 ∧ cv = .int .u8 (.ofNat c)) := by
  cases v with
  | int k n =>
    cases n with
    | negSucc n => trivial
    | ofNat n =>
      cases k with
      | u8 =>
        simp only [conc, Option.some.injEq] at hv
        show (match Nat.blt n 256 with | true => R.ok n | false => R.bad _).path _
        cases hq : Nat.blt n 256 with
        | true => exact ⟨Nat.le_of_ble_eq_true hq, hv.symm⟩
        | false => trivial
      | _ => trivial
  | _ => trivial

theorem path_bytesOf (v : AV) (cv : Value) (hv : conc γ v = some cv) : (bytesOf v).path (fun l => cv = .string ⟨⟨l⟩⟩) := by
  cases v with
  | str l => simp only [conc, Option.some.injEq] at hv; exact hv.symm
  | _ => trivial

theorem digits_size : ∀ (n k : Nat) (acc : Array Value), (Extern.BytealgMakeNoZero.digits n k acc).size = acc.size + n
  | 0, k, acc => by simp [Extern.BytealgMakeNoZero.digits]
  | n + 1, k, acc => by
    unfold Extern.BytealgMakeNoZero.digits
    rw [digits_size n]; simp; omega

theorem junks_len : ∀ n, (junks n).length = n
  | 0 => rfl
  | n + 1 => by show (AV.junk :: junks n).length = _; simp [junks_len n]
theorem junks_mem : ∀ n v, v ∈ junks n → v = .junk
  | 0, v, h => by cases h
  | n + 1, v, h => by
    rcases List.mem_cons.1 h with h | h
    · exact h
    · exact junks_mem n v h

theorem ok_noZero (hC : Good C) (hR : Rel C base γ s w) (fn : Func) (n : Nat) :
    (extNoZero C s fn n).path (NxOk C base γ s w ((VS (Extern.BytealgMakeNoZero.makeNoZero fn.params fn.resultTypes #[.int .i64 (.ofNat n)])).run C.P w)) := by
  refine R.pbd _ (R.path_ofOpt _ _) fun ty hty => ?_
  refine R.pbd _ (path_under hC ty) fun d hd => ?_
  cases d with
  | slice e =>
    refine R.pbd _ (path_ti hC e) fun i hi => ?_
    refine R.pbd _ (R.path_guard _ _) fun _ hg => ?_
    simp only [Bool.and_eq_true] at hg
    have hn : n ≤ 1099511627776 := Nat.le_of_ble_eq_true hg.1
    have hsz : i.size = 1 := Nat.eq_of_beq_eq_true hg.2
    obtain ⟨cap, arr, hcap, harr, hrun⟩ : ∃ (cap : Nat) (arr : Array Value), n ≤ cap ∧ arr.size = cap ∧
        (Extern.BytealgMakeNoZero.makeNoZero fn.params fn.resultTypes #[.int .i64 (.ofNat n)]).run C.P w =
          .ok (.slice (some ⟨w.heap.size, 0, none⟩) n cap) { w with drawn := w.drawn + 1 + 1, heap := w.heap.push (.cells arr e (0, 0)) } := by
      let cap := (Question.appendCap n 0 e).cut (w.tape w.drawn (.appendCap n 0 e))
      let by_ := (Question.extern "internal/bytealg.MakeNoZero.bytes" 0).cut (w.tape (w.drawn + 1) (.extern "internal/bytealg.MakeNoZero.bytes" 0))
      refine ⟨cap, Extern.BytealgMakeNoZero.digits cap by_ #[], ?_, by simp [digits_size], ?_⟩
      · show n ≤ n + _
        omega
      · have e1 : Extern.BytealgMakeNoZero.makeNoZero fn.params fn.resultTypes #[.int .i64 (.ofNat n)] = (match fn.resultTypes[0]? with | some t => (underlying t >>= _) | x => _) := rfl
        rw [e1, hty]
        simp only
        rw [run_und' hd]
        have h1 : ¬ ((Int.ofNat n) < 0) := by simp only [Int.ofNat_eq_natCast]; omega
        have h2 : ¬ ((Int.ofNat n) > 2 ^ 48) := by simp only [Int.ofNat_eq_natCast]; omega
        have hq1 : (Question.appendCap n 0 e).forced = false := rfl
        have hq2 : (Question.extern "internal/bytealg.MakeNoZero.bytes" 0).forced = false := rfl
        have hnn : (Int.ofNat n).toNat = n := rfl
        simp only [h1, h2, decide_false, Bool.or_self, Bool.false_eq_true, if_false, Sem.run_bind, run_choose, hq1, hq2, hnn, Result.andThen_ok, run_askRoom, run_newRow, Sem.run_pure]
        rfl
    have hstep := Step.alloc (base := base) hR (.cells e (Tr.ofList (junks n)) n 0 [] false false) (.cells arr e (0, 0)) 0 cap
      (w' := { w with drawn := w.drawn + 1 + 1, heap := w.heap.push (.cells arr e (0, 0)) }) rfl rfl rfl rfl
      (by
        intro γ' hg'
        refine ⟨arr, 0, 0, rfl, by simp only; omega, ?_, ⟨i, hi.1, by rw [hsz]; simp only; omega, by rw [hsz]; simp only; omega, 0, by simp⟩, fun _ off a b => by omega, Nat.le_refl _⟩
        intro j v hj hv
        rw [Tr.get_ofList] at hv
        have : v = .junk := junks_mem n v (List.mem_of_getElem? hv)
        have hlt : 0 + j < arr.size := by omega
        exact ⟨arr[0 + j], by simp, .inl this⟩)
    refine ⟨_, .slice (some ⟨w.heap.size, 0, none⟩) n cap, _, ?_, ?_, hstep⟩
    · simp only [VS, Sem.run_bind, hrun, Result.andThen_ok, Sem.run_pure]
    · simp only [conc, if_true, Option.map_some, Option.some.injEq]
      simp
  | _ => trivial

theorem ok_extern (hC : Good C) (hR : Rel C base γ s w) (fn : Func) (e : Ext) (args : List AV) (cargs : List Value) (hargs : concL γ args = some cargs) :
    (externCall C s fn e args).path (NxOk C base γ s w ((VS (extRow fn e ⟨cargs⟩)).run C.P w)) := by
  cases e with
  | index g => trivial
  | closed g t => trivial
  | as x => trivial
  | noEscape =>
    simp only [externCall]
    split
    case h_2 => trivial
    rename_i x
    obtain ⟨cx, cl, hcx, h1, rfl⟩ := concL_cons.1 hargs
    simp only [concL, Option.some.injEq] at h1; subst h1
    exact okVal hR (c := cx) rfl hcx
  | clone =>
    simp only [externCall]
    split
    case h_2 => trivial
    rename_i x
    obtain ⟨cx, cl, hcx, h1, rfl⟩ := concL_cons.1 hargs
    simp only [concL, Option.some.injEq] at h1; subst h1
    cases x with
    | iface ty m =>
      simp only [conc, Option.map_eq_some_iff] at hcx
      obtain ⟨cm, hcm, rfl⟩ := hcx
      cases m with
      | mapv r =>
        refine R.pbd _ (path_getMap hR _ _ hcm) fun m hm => ?_
        rcases hm with ⟨h, _⟩ | ⟨r', lc, ents, h0, hl, hc, h1, h2, h3, h4⟩
        · cases h
        cases h0; subst hc
        have hstep := Step.alloc (base := base) hR (.map m.1 m.2) (.map ents m.2) 0 1 (w' := w.alloc (.map ents m.2)) rfl rfl rfl rfl
          (fun γ' hg => ⟨ents, rfl, h3.grow hg, h4⟩)
        refine ⟨_, .iface ty (.map (some w.heap.size)), _, ?_, ?_, hstep⟩
        · have e1 : extRow fn .clone ⟨[.iface ty (.map (some lc.blk))]⟩ = (getObj lc.blk >>= _) := rfl
          rw [e1]
          simp only [VS, Sem.run_bind, runGetMap h2, Result.andThen_ok]
          rfl
        · simp [conc]
      | _ => trivial
    | _ => trivial
  | noZero =>
    simp only [externCall]
    split
    case h_2 => trivial
    rename_i x
    obtain ⟨cx, cl, hcx, h1, rfl⟩ := concL_cons.1 hargs
    simp only [concL, Option.some.injEq] at h1; subst h1
    cases x with
    | int k n =>
      cases n with
      | negSucc n => trivial
      | ofNat n =>
        cases k with
        | i64 =>
          simp only [conc, Option.some.injEq] at hcx; subst hcx
          exact ok_noZero hC hR fn n
        | _ => trivial
    | _ => trivial
  | indexByte =>
    simp only [externCall]
    split
    case h_2 => trivial
    rename_i x c
    obtain ⟨cx, cl, hcx, h1, rfl⟩ := concL_cons.1 hargs
    obtain ⟨cc, cl2, hcc, h2, rfl⟩ := concL_cons.1 h1
    simp only [concL, Option.some.injEq] at h2; subst h2
    refine R.pbd _ (path_bytesOf x cx hcx) fun l hl => ?_
    refine R.pbd _ (path_asByte c cc hcc) fun c hc => ?_
    obtain ⟨hc, rfl⟩ := hc
    subst hl
    refine okVal hR (Go.Lib.run_indexByteString ⟨⟨l⟩⟩ (.ofNat c) w) ?_
    simp only [conc, Option.some.injEq, Value.int.injEq, true_and]
    rw [findByte_eq c hc l 0]
    split
    · next h => exact (eq_of_beq h).symm
    · simp
  | count =>
    simp only [externCall]
    split
    case h_2 => trivial
    rename_i x c
    obtain ⟨cx, cl, hcx, h1, rfl⟩ := concL_cons.1 hargs
    obtain ⟨cc, cl2, hcc, h2, rfl⟩ := concL_cons.1 h1
    simp only [concL, Option.some.injEq] at h2; subst h2
    refine R.pbd _ (path_bytesOf x cx hcx) fun l hl => ?_
    refine R.pbd _ (path_asByte c cc hcc) fun c hc => ?_
    obtain ⟨hc, rfl⟩ := hc
    subst hl
    refine okVal hR (Go.Lib.run_countString ⟨⟨l⟩⟩ (.ofNat c) w) ?_
    simp only [conc, Option.some.injEq, Value.int.injEq, true_and]
    rw [countByte_eq c hc l]
    rfl
  | cmp =>
    simp only [externCall]
    split
    case h_2 => trivial
    rename_i x y
    obtain ⟨cx, cl, hcx, h1, rfl⟩ := concL_cons.1 hargs
    obtain ⟨cy, cl2, hcy, h2, rfl⟩ := concL_cons.1 h1
    simp only [concL, Option.some.injEq] at h2; subst h2
    refine R.pbd _ (path_bytesOf x cx hcx) fun l hl => ?_
    refine R.pbd _ (path_bytesOf y cy hcy) fun m hm => ?_
    subst hl; subst hm
    refine okVal hR (Go.Lib.run_compareString ⟨⟨l⟩⟩ ⟨⟨m⟩⟩ w) ?_
    simp only [conc, Option.some.injEq, Value.int.injEq, true_and]
    exact cmpOf_eq l m

end
end Go.Proofs.YtabknehmohoemaaGreatDoor.Abs

namespace Go.Proofs.YtabknehmohoemaaGreatDoor.Abs
open Go

section
variable {C : Ctx} {base : Nat} {γ : G} {s : S} {w : World} {nt : Nat} {t : Tr AV} {a : Act}

theorem ok_callF (hC : Good C) (hR : Rel C base γ s w) (f : FuncId) (args : List AV) (cargs : List Value) (hargs : concL γ args = some cargs) :
    (callF C s f args).path (NxOk C base γ s w ((callFunc f ⟨cargs⟩).run C.P w)) := by
  unfold callF
  cases hf : C.F.get f with
  | none => trivial
  | some fn =>
    have hfn := fun_get hC hf
    cases hb : fn.body with
    | some b =>
      simp only [hb]
      have hn := hC.noNum f fn hfn (by rw [hb]; rfl)
      have hn' : fn.name ≠ "runtime.NumGoroutine" := by simpa using hn
      refine ⟨γ, cargs, w, ?_, hargs, Step.refl hR⟩
      simp [callFunc, hfn, hn', hb]
    | none =>
      simp only [hb]
      cases he : extOf f C.X with
      | none => trivial
      | some e =>
        by_cases hi : ∃ g, e = .index g
        · obtain ⟨g, rfl⟩ := hi
          exact R.path_bad _ _
        · by_cases hi' : ∃ g t, e = .closed g t
          · obtain ⟨g, t, rfl⟩ := hi'
            exact R.path_bad _ _
          · by_cases hi2 : ∃ x, e = .as x
            · obtain ⟨x, rfl⟩ := hi2
              exact R.path_bad _ _
            · obtain ⟨fn', g1, g2, g3, g4, g5⟩ := hC.ext f e he (fun g h => hi ⟨g, h⟩) (fun g t h => hi' ⟨g, t, h⟩) fun x h => hi2 ⟨x, h⟩
              rw [hfn] at g1; obtain rfl := Option.some.inj g1
              rw [run_callExtern hfn g2 g3 g4 g5]
              exact ok_extern hC hR fn e args cargs hargs

theorem ok_callM (hC : Good C) (hR : Rel C base γ s w) (r : AV) (cr : Value) (hr : conc γ r = some cr) (name : String) (args : List AV) (cargs : List Value) (hargs : concL γ args = some cargs) :
    (callM C s r name args).path (NxOk C base γ s w ((callMethod cr name ⟨cargs⟩).run C.P w)) := by
  unfold callM
  cases r with
  | iface ty v =>
    simp only [conc, Option.map_eq_some_iff] at hr
    obtain ⟨cv, hcv, rfl⟩ := hr
    simp only
    cases hm : methodRow C.P ty name with
    | none => trivial
    | some fp =>
      obtain ⟨f, ptr⟩ := fp
      refine R.pbd _ (path_under hC ty) fun d hd => ?_
      unfold methodRow at hm
      cases hi : C.P.types[ty]? with
      | none => rw [hi] at hm; cases hm
      | some info =>
        rw [hi] at hm
        simp only at hm
        cases hfind : info.methods.find? (·.name == name) with
        | none => rw [hfind] at hm; cases hm
        | some m =>
          rw [hfind] at hm
          simp only at hm
          cases hp : m.path.isEmpty with
          | false => rw [hp] at hm; cases hm
          | true =>
            rw [hp] at hm
            have hpath : m.path.toList = [] := by
              have : m.path = #[] := by simpa using hp
              rw [this]
            have hinfo := info_of_types hC hi
            have hsz : 0 < C.P.types.size := by
              rcases Nat.eq_zero_or_pos C.P.types.size with h | h
              · rw [Array.getElem?_eq_none (by omega)] at hi; cases hi
              · exact h
            obtain ⟨k, hk⟩ : ∃ k, C.P.types.size + Made.depth = k + 1 := ⟨C.P.types.size + Made.depth - 1, by omega⟩
            have fin : (receiverAt ty (.val cv) ptr (some ((name.splitOn ".").getLastD name))).run C.P w = .ok cv w →
                (callF C s f (v :: args)).path (NxOk C base γ s w ((callMethod (.iface ty cv) name ⟨cargs⟩).run C.P w)) := by
              intro hrec
              have hrun : (callMethod (.iface ty cv) name ⟨cargs⟩).run C.P w = (callFunc f ⟨cv :: cargs⟩).run C.P w := by
                simp only [callMethod, Sem.run_bind, run_program, Result.andThen_ok, hk, method, typeInfo, hinfo, Sem.run_pure, hfind, hpath, follow, hm, hp, if_true, hrec]
                congr 1
                simp
              rw [hrun]
              exact ok_callF hC hR f (v :: args) (cv :: cargs) (concL_cons.2 ⟨_, _, hcv, hargs, rfl⟩)
            cases d <;> cases ptr <;> first | trivial | (refine fin ?_; unfold receiverAt; rw [run_und' hd]; rfl)
  | _ => trivial

theorem ok_invokeF (hC : Good C) (hR : Rel C base γ s w) (f : AV) (cf : Value) (hf : conc γ f = some cf) (args : List AV) (cargs : List Value) (hargs : concL γ args = some cargs) :
    (invokeF C s f args).path (NxOk C base γ s w ((do let d ← Deferred.ofValue cf ⟨cargs⟩; invoke d.target d.args : Sem Next).run C.P w)) := by
  cases f with
  | fn g first cap =>
    simp only [conc] at hf
    cases hn : noYield g with
    | false => simp [hn] at hf
    | true =>
      cases hx : concL γ first with
      | none => simp [hn, hx] at hf
      | some cx =>
        cases hy : concL γ cap with
        | none => simp [hn, hx, hy] at hf
        | some cy =>
          simp only [hn, hx, hy, Option.some.injEq] at hf
          subst hf
          have hstart : (do let d ← Deferred.ofValue (.func g ⟨cx⟩ ⟨cy⟩) ⟨cargs⟩; invoke d.target d.args : Sem Next).run C.P w = (invoke (.fn g ⟨cy⟩) (⟨cx⟩ ++ ⟨cargs⟩)).run C.P w := by
            simp [Deferred.ofValue]
          rw [hstart]
          have hall := concL_append hx hargs
          have happ : ((⟨cx⟩ : Array Value) ++ ⟨cargs⟩) = ⟨cx ++ cargs⟩ := by simp
          rw [happ]
          unfold invokeF
          cases g with
          | func g =>
            have : (invoke (.fn (.func g) ⟨cy⟩) ⟨cx ++ cargs⟩).run C.P w = (callFunc g ⟨cx ++ cargs ++ cy⟩).run C.P w := by simp [invoke]
            rw [this]
            exact ok_callF hC hR g _ _ (concL_append hall hy)
          | method name =>
            simp only
            cases hl : first ++ args with
            | nil => trivial
            | cons r rest =>
              rw [hl] at hall
              obtain ⟨cr, crest, h1, h2, h3⟩ := concL_cons.1 hall
              rw [h3]
              have : (invoke (.fn (.method name) ⟨cy⟩) ⟨cr :: crest⟩).run C.P w = (callMethod cr name ⟨crest⟩).run C.P w := by simp [invoke]
              rw [this]
              exact ok_callM hC hR r cr h1 name rest crest h2
          | methodOf ty name =>
            simp only
            cases hl : first ++ args with
            | nil => trivial
            | cons r rest =>
              rw [hl] at hall
              obtain ⟨cr, crest, h1, h2, h3⟩ := concL_cons.1 hall
              rw [h3]
              refine R.pbd _ (path_under hC ty) fun d hd => ?_
              have hi : ∀ recv, ((underlying ty >>= fun d => (match d with | .interface _ => pure cr | _ => pure (.iface ty cr) : Sem Value)) : Sem Value).run C.P w = .ok recv w →
                  (invoke (.fn (.methodOf ty name) ⟨cy⟩) ⟨cr :: crest⟩).run C.P w = (callMethod recv name ⟨crest⟩).run C.P w := by
                intro recv h
                rw [run_und' hd] at h
                have e : invoke (.fn (.methodOf ty name) ⟨cy⟩) ⟨cr :: crest⟩ = (underlying ty >>= _) := rfl
                rw [e, run_und' hd]
                cases d <;> (simp only [Sem.run_pure, Result.ok.injEq, and_true] at h; subst h; simp)
              cases d with
              | interface m =>
                rw [hi cr (by rw [run_und' hd]; rfl)]
                exact ok_callM hC hR r cr h1 name rest crest h2
              | _ =>
                rw [hi (.iface ty cr) (by rw [run_und' hd]; rfl)]
                exact ok_callM hC hR (.iface ty r) (.iface ty cr) (by simp [conc, h1]) name rest crest h2
          | _ => trivial
  | yield l =>
    simp only [conc, Option.map_eq_some_iff] at hf
    obtain ⟨lc, hl, rfl⟩ := hf
    refine ⟨rfl, lc, cargs, hl, hargs, ?_⟩
    simp [Deferred.ofValue, invoke]
  | _ => trivial

end
end Go.Proofs.YtabknehmohoemaaGreatDoor.Abs

namespace Go.Proofs.YtabknehmohoemaaGreatDoor.Abs
open Go

section
variable {C : Ctx} {base : Nat} {γ : G} {s : S} {w : World} {nt : Nat} {t : Tr AV} {a : Act}

theorem ok_builtin (hC : Good C) (hR : Rel C base γ s w) (b : Builtin) (argTypes : List TypeId) (rt : TypeId) (consts : Array Bool) (args : List AV) (cargs : List Value) (hargs : concL γ args = some cargs) :
    (evBuiltin b C s argTypes args).path (NxOk C base γ s w ((builtin b ⟨argTypes⟩ rt consts ⟨cargs⟩).run C.P w)) := by
  cases b with
  | append => exact ok_append hC hR argTypes args cargs hargs rt
  | len => exact ok_len hC hR argTypes args cargs hargs rt
  | cap => exact ok_cap hC hR argTypes args cargs hargs rt
  | copy => exact ok_copy hC hR argTypes args cargs hargs rt
  | delete => exact ok_delete hC hR argTypes args cargs hargs rt
  | clear => exact ok_clear hC hR argTypes args cargs hargs rt
  | min => exact ok_min hR argTypes args cargs hargs rt
  | max => exact ok_max hR argTypes args cargs hargs rt
  | recover => exact ⟨rfl, rfl⟩
  | panic => exact ok_panic hR args cargs hargs
  | unsafeString => exact ok_string hC hR argTypes args cargs hargs rt
  | unsafeSliceData => exact ok_sliceData hC hR argTypes args cargs hargs rt
  | _ => trivial

theorem ok_call (hC : Good C) (hR : Rel C base γ s w) (ht : TmpsRel γ nt t a.tmps) (c : Call) (rt : TypeId) :
    (opCall c rt C t s).path (NxOk C base γ s w ((do let d ← resolve a.eval c rt; invoke d.target d.args : Sem Next).run C.P w)) := by
  refine R.pbd _ (path_evL hR ht c.args.toList) fun args hargs => ?_
  have hm : c.args.map a.eval = ⟨c.args.toList.map a.eval⟩ := by
    apply Array.ext'; simp
  cases hc : c.callee with
  | builtin b =>
    simp only
    have e : (do let d ← resolve a.eval c rt; invoke d.target d.args : Sem Next).run C.P w = (builtin b c.argTypes rt (c.args.map fun | .const _ => true | _ => false) (c.args.map a.eval)).run C.P w := by
      simp [resolve, hc, invoke]
      rfl
    rw [e, hm]
    exact ok_builtin hC hR b c.argTypes.toList rt _ args _ hargs
  | value f =>
    simp only
    refine R.pbd _ (path_evA hR ht f) fun fv hf => ?_
    have e : (do let d ← resolve a.eval c rt; invoke d.target d.args : Sem Next).run C.P w = (do let d ← Deferred.ofValue (a.eval f) ⟨c.args.toList.map a.eval⟩; invoke d.target d.args : Sem Next).run C.P w := by
      simp [resolve, hc, hm]
    rw [e]
    exact ok_invokeF hC hR fv _ hf args _ hargs
  | invoke r name =>
    simp only
    refine R.pbd _ (path_evA hR ht r) fun rv hr => ?_
    have e : (do let d ← resolve a.eval c rt; invoke d.target d.args : Sem Next).run C.P w = (callMethod (a.eval r) name ⟨c.args.toList.map a.eval⟩).run C.P w := by
      simp [resolve, hc, invoke, hm]
      rw [List.take_of_length_le (by simp)]
    rw [e]
    exact ok_callM hC hR rv _ hr name args _ hargs

theorem ok_defer (hR : Rel C base γ s w) (ht : TmpsRel γ nt t a.tmps) (c : Call) (rt : TypeId) :
    (opDefer c rt C t s).path (NxOk C base γ s w ((do pure (.defer (← resolve a.eval c rt)) : Sem Next).run C.P w)) := by
  refine R.pbd _ (path_evL hR ht c.args.toList) fun args hargs => ?_
  have hm : c.args.map a.eval = ⟨c.args.toList.map a.eval⟩ := by
    apply Array.ext'; simp
  cases hc : c.callee with
  | value f =>
    simp only
    refine R.pbd _ (path_evA hR ht f) fun fv hf => ?_
    cases fv with
    | fn g x y =>
      simp only [conc] at hf
      cases hn : noYield g with
      | false => simp [hn] at hf
      | true =>
        cases hx : concL γ x with
        | none => simp [hn, hx] at hf
        | some cx =>
          cases hy : concL γ y with
          | none => simp [hn, hx, hy] at hf
          | some cy =>
            simp only [hn, hx, hy, Option.some.injEq] at hf
            refine ⟨γ, { target := .fn g ⟨cy⟩, args := (⟨cx⟩ : Array Value) ++ ⟨c.args.toList.map a.eval⟩ }, w, ?_, ?_, Step.refl hR⟩
            · simp only [resolve, hc]
              rw [← hf, hm]
              simp [Deferred.ofValue]
            · simp only [concD, conc, hn, hx, hy, hargs]
    | _ => trivial
  | _ => simp only; trivial

theorem ok_panicOp (hR : Rel C base γ s w) (ht : TmpsRel γ nt t a.tmps) (x : Operand) (rt : TypeId) :
    (opPanic x rt C t s).path (NxOk C base γ s w ((VS (Instr.panic (a.eval x))).run C.P w)) := by
  refine R.pbd _ (path_evA hR ht x) fun v hv => ?_
  cases v with
  | iface ty v =>
    have hv0 := hv
    simp only [conc, Option.map_eq_some_iff] at hv
    obtain ⟨cv, hcv, hv⟩ := hv
    rw [← hv] at hv0 ⊢
    exact ⟨γ, .iface ty cv, w, rfl, hv0, Step.refl hR⟩
  | _ => trivial

/-- every operation of the abstract machine is the model's -/
theorem path_evOp (hC : Good C) (hR : Rel C base γ s w) (ht : TmpsRel γ nt t a.tmps) (o : Oper) :
    (evOp o.op o.type C t s).path (NxOk C base γ s w ((execOp a.eval o).run C.P w)) := by
  cases h : o.op with
  | move x => simp only [execOp, h]; exact ok_move hR ht x o.type
  | assign x => simp only [execOp, h]; exact ok_move hR ht x o.type
  | pick x y z => simp only [execOp, h]; exact ok_pick hR ht x y z o.type
  | alloc e => simp only [execOp, h]; exact ok_alloc (t := t) hC hR e o.type
  | box e x => simp only [execOp, h]; exact ok_box hC hR ht e x o.type
  | build ty ps => simp only [execOp, h]; exact ok_build hC hR ht ty ps o.type
  | buildSlice ty n ps => simp only [execOp, h]; exact ok_buildSlice hC hR ht ty n ps o.type
  | insert ty m k x => simp only [execOp, h]; exact ok_mapUpdate hC hR ht ty m k x o.type
  | load ty x => simp only [execOp, h]; exact ok_load hC hR ht ty x o.type
  | store ty x y => simp only [execOp, h]; exact ok_store hC hR ht ty x y o.type
  | nilCheck x => have := ok_nilCheck (C := C) (base := base) (s := s) (w := w) hR ht o x h o.type; exact this
  | binOp op ty x y yt => simp only [execOp, h]; exact ok_bin hC hR ht op ty x y o.type
  | unOp op ty x => simp only [execOp, h]; exact ok_un hR ht op x o.type
  | convert src dst x => simp only [execOp, h]; exact ok_conv hC hR ht src dst x o.type
  | makeInterface ty x => simp only [execOp, h]; exact ok_iface hC hR ht ty x o.type
  | makeFunc f x y => simp only [execOp, h]; exact ok_func hR ht f x y o.type
  | makeMap ty r => simp only [execOp, h]; exact ok_makeMap hC hR ht ty r o.type
  | makeSlice ty x y => simp only [execOp, h]; exact ok_makeSlice hC hR ht ty x y o.type
  | slice ty x lo hi mx => simp only [execOp, h]; exact ok_slice hC hR ht ty x lo hi mx o.type
  | fieldAddr ty x f => simp only [execOp, h]; exact ok_fieldAddr hC hR ht ty x f o.type
  | field ty x f => simp only [execOp, h]; exact ok_field hC hR ht ty x f o.type
  | indexAddr ty x i => simp only [execOp, h]; exact ok_indexAddr hC hR ht ty x i o.type
  | index ty x i => simp only [execOp, h]; exact ok_index hC hR ht ty x i o.type
  | lookup ty x k ok => simp only [execOp, h]; exact ok_lookup hC hR ht ty x k ok o.type
  | mapUpdate ty m k x => simp only [execOp, h]; exact ok_mapUpdate hC hR ht ty m k x o.type
  | mapEntry ty m k => simp only [execOp, h]; exact ok_mapEntry hC hR ht ty m k o.type
  | entryStore ty m b x => simp only [execOp, h]; exact ok_entryStore hR ht ty m b x o.type
  | range ty x => simp only [execOp, h]; exact ok_range hC hR ht ty x o.type
  | next x b => simp only [execOp, h]; exact ok_next hR ht x b o.type
  | entry x => simp only [execOp, h]; exact ok_entry hR ht x o.type
  | typeAssert x xt ty ok => simp only [execOp, h]; exact ok_TA hC hR ht x xt ty ok o.type
  | extract x i => simp only [execOp, h]; exact ok_extract hR ht x i o.type
  | call c => simp only [execOp, h]; exact ok_call hC hR ht c o.type
  | defer c => simp only [execOp, h]; exact ok_defer hR ht c o.type
  | panic x => simp only [execOp, h]; exact ok_panicOp hR ht x o.type
  | _ => trivial

end
end Go.Proofs.YtabknehmohoemaaGreatDoor.Abs
