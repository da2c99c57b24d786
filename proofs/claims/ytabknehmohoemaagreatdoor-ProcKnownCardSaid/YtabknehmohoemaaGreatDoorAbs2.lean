/- The relation between the abstract machine's state and the model's, and the proofs of its simple operations. Conditions: those of each theorem. -/
import Derived.Test.YtabknehmohoemaaGreatDoorAbs1
import Derived.Laws.World
import Derived.Laws.Cells
import Derived.Calls
import Derived.Lib.Index
import Derived.Laws.Entries
import Derived.WideLaws
import Derived.Laws.Strings
import Derived.Laws.StructEq
namespace Go.Proofs.YtabknehmohoemaaGreatDoor.Abs
open Go

/-! tries -/
section tries
variable {α : Type}
theorem Tr.get_nil (i : Nat) : (Tr.nil : Tr α).get i = none := rfl
theorem Tr.get_zero (v : Option α) (l r : Tr α) : (Tr.node v l r).get 0 = v := rfl
theorem Tr.get_succ (v : Option α) (l r : Tr α) (n : Nat) :
    (Tr.node v l r).get (n + 1) = if n % 2 = 0 then l.get (n / 2) else r.get (n / 2) := by
  show @Bool.rec (fun _ => Option α) (r.get (Nat.div n 2)) (l.get (Nat.div n 2)) (Nat.beq (Nat.mod n 2) 0) = _
  by_cases h : n % 2 = 0
  · have : Nat.beq (Nat.mod n 2) 0 = true := by rw [show Nat.mod n 2 = 0 from h]; rfl
    rw [this, if_pos h]; rfl
  · have : Nat.beq (Nat.mod n 2) 0 = false := by
      cases hb : Nat.beq (Nat.mod n 2) 0
      · rfl
      · exact absurd (Nat.eq_of_beq_eq_true hb) h
    rw [this, if_neg h]; rfl
theorem Tr.upd_zero (x : Option α) (f : Nat) (t : Tr α) :
    Tr.upd x (f + 1) 0 t = match t with | .nil => .node x .nil .nil | .node _ l r => .node x l r := by
  cases t <;> rfl
theorem Tr.upd_succ (x : Option α) (f n : Nat) (t : Tr α) :
    Tr.upd x (f + 1) (n + 1) t = if n % 2 = 0 then
      (match t with | .nil => .node none (Tr.upd x f (n / 2) .nil) .nil | .node v l r => .node v (Tr.upd x f (n / 2) l) r)
      else (match t with | .nil => .node none .nil (Tr.upd x f (n / 2) .nil) | .node v l r => .node v l (Tr.upd x f (n / 2) r)) := by
  have key : Tr.upd x (f + 1) (n + 1) t = @Bool.rec (fun _ => Tr α)
        (@Tr.rec α (fun _ => Tr α) (.node none .nil (Tr.upd x f (Nat.div n 2) .nil)) (fun v l r _ _ => .node v l (Tr.upd x f (Nat.div n 2) r)) t)
        (@Tr.rec α (fun _ => Tr α) (.node none (Tr.upd x f (Nat.div n 2) .nil) .nil) (fun v l r _ _ => .node v (Tr.upd x f (Nat.div n 2) l) r) t)
        (Nat.beq (Nat.mod n 2) 0) := rfl
  rw [key]
  by_cases h : n % 2 = 0
  · have : Nat.beq (Nat.mod n 2) 0 = true := by rw [show Nat.mod n 2 = 0 from h]; rfl
    rw [this, if_pos h]; cases t <;> rfl
  · have : Nat.beq (Nat.mod n 2) 0 = false := by
      cases hb : Nat.beq (Nat.mod n 2) 0
      · rfl
      · exact absurd (Nat.eq_of_beq_eq_true hb) h
    rw [this, if_neg h]; cases t <;> rfl
theorem Tr.get_upd_same (x : Option α) : ∀ (f i : Nat) (t : Tr α), i < f → (Tr.upd x f i t).get i = x
  | 0, _, _, h => absurd h (Nat.not_lt_zero _)
  | f + 1, 0, t, _ => by rw [Tr.upd_zero]; cases t <;> rfl
  | f + 1, n + 1, t, h => by
    rw [Tr.upd_succ]
    have hn : n / 2 < f := by omega
    by_cases hp : n % 2 = 0
    · rw [if_pos hp]; cases t <;> (simp only [Tr.get_succ, if_pos hp]; exact Tr.get_upd_same x f _ _ hn)
    · rw [if_neg hp]; cases t <;> (simp only [Tr.get_succ, if_neg hp]; exact Tr.get_upd_same x f _ _ hn)
theorem Tr.get_upd_other (x : Option α) : ∀ (f i j : Nat) (t : Tr α), i ≠ j → (Tr.upd x f i t).get j = t.get j
  | 0, _, _, _, _ => rfl
  | f + 1, 0, 0, _, h => absurd rfl h
  | f + 1, 0, j + 1, t, _ => by rw [Tr.upd_zero]; cases t <;> simp [Tr.get_succ, Tr.get_nil]
  | f + 1, n + 1, 0, t, _ => by
    rw [Tr.upd_succ]
    split <;> cases t <;> rfl
  | f + 1, n + 1, m + 1, t, h => by
    rw [Tr.upd_succ]
    by_cases hp : n % 2 = 0
    · rw [if_pos hp]
      by_cases hq : m % 2 = 0
      · have hne : n / 2 ≠ m / 2 := by omega
        cases t <;> simp only [Tr.get_succ, if_pos hq, Tr.get_upd_other x f _ _ _ hne, Tr.get_nil]
      · cases t <;> simp only [Tr.get_succ, if_neg hq, Tr.get_nil]
    · rw [if_neg hp]
      by_cases hq : m % 2 = 0
      · cases t <;> simp only [Tr.get_succ, if_pos hq, Tr.get_nil]
      · have hne : n / 2 ≠ m / 2 := by omega
        cases t <;> simp only [Tr.get_succ, if_neg hq, Tr.get_upd_other x f _ _ _ hne, Tr.get_nil]
theorem Tr.get_set_same (t : Tr α) (i : Nat) (x : α) : (t.set i x).get i = some x := Tr.get_upd_same _ _ _ _ (Nat.lt_succ_self i)
theorem Tr.get_set_other (t : Tr α) {i j : Nat} (x : α) (h : i ≠ j) : (t.set i x).get j = t.get j := Tr.get_upd_other _ _ _ _ _ h
theorem Tr.get_set (t : Tr α) (i j : Nat) (x : α) : (t.set i x).get j = if i = j then some x else t.get j := by
  split
  · next h => subst h; exact Tr.get_set_same t i x
  · next h => exact Tr.get_set_other t x h
theorem Tr.get_del (t : Tr α) (i j : Nat) : (t.del i).get j = if i = j then none else t.get j := by
  split
  · next h => subst h; exact Tr.get_upd_same _ _ _ _ (Nat.lt_succ_self i)
  · next h => exact Tr.get_upd_other _ _ _ _ _ h
theorem Tr.setList_cons (x : α) (xs : List α) (i : Nat) (t : Tr α) : Tr.setList (x :: xs) i t = Tr.setList xs (i + 1) (t.set i x) := rfl
theorem Tr.get_setList : ∀ (l : List α) (k j : Nat) (t : Tr α), (Tr.setList l k t).get j = if k ≤ j ∧ j < k + l.length then l[j - k]? else t.get j
  | [], k, j, t => by
    rw [if_neg (by simp only [List.length_nil]; omega)]; rfl
  | x :: xs, k, j, t => by
    rw [Tr.setList_cons, Tr.get_setList xs (k + 1) j]
    by_cases h1 : k + 1 ≤ j ∧ j < k + 1 + xs.length
    · rw [if_pos h1, if_pos (by simp; omega)]
      have : j - k = (j - (k + 1)) + 1 := by omega
      rw [this]; simp
    · rw [if_neg h1, Tr.get_set]
      by_cases h2 : k = j
      · subst h2; simp
      · rw [if_neg h2, if_neg (by simp; omega)]
theorem Tr.get_ofList (l : List α) (j : Nat) : (Tr.ofList l).get j = l[j]? := by
  unfold Tr.ofList
  rw [Tr.get_setList]
  by_cases h : j < l.length
  · simp [h]
  · simp [h, Tr.get_nil]
theorem nth_eq : ∀ (l : List α) (i : Nat), nth l i = l[i]?
  | [], i => by simp [nth]
  | x :: l, 0 => by simp [nth]
  | x :: l, i + 1 => by simp [nth, nth_eq l i]
end tries

/-! paths through a tree of answers -/
def R.path {α : Type} (r : R α) (Q : α → Prop) : Prop :=
  match r with
  | .ok a => Q a
  | .bad _ => True
  | .ask n k => ∃ i, i < n ∧ (k i).path Q
theorem R.path_ok {α : Type} (a : α) (Q : α → Prop) : (R.ok a).path Q ↔ Q a := Iff.rfl
theorem R.path_bad {α : Type} (w : String) (Q : α → Prop) : (R.bad w : R α).path Q := trivial
theorem R.path_mono {α : Type} {Q Q' : α → Prop} (h : ∀ a, Q a → Q' a) : ∀ {r : R α}, r.path Q → r.path Q'
  | .ok _, hr => h _ hr
  | .bad _, _ => trivial
  | .ask _ _, ⟨i, hi, hr⟩ => ⟨i, hi, R.path_mono h hr⟩
theorem R.path_bind {α β : Type} {Q : β → Prop} {f : α → R β} : ∀ {r : R α}, r.path (fun a => (f a).path Q) → (r.bind f).path Q
  | .ok _, h => h
  | .bad _, _ => trivial
  | .ask _ _, ⟨i, hi, h⟩ => ⟨i, hi, R.path_bind h⟩
theorem R.bind_eq {α β : Type} (r : R α) (f : α → R β) : (r >>= f) = r.bind f := rfl
theorem R.pb {α β : Type} {Q : β → Prop} {f : α → R β} {r : R α} (P : α → Prop) (h : r.path P) (hf : ∀ a, P a → (f a).path Q) : (r.bind f).path Q :=
  R.path_bind (R.path_mono hf h)
theorem R.pbd {α β : Type} {Q : β → Prop} {f : α → R β} {r : R α} (P : α → Prop) (h : r.path P) (hf : ∀ a, P a → (f a).path Q) : (r >>= f).path Q :=
  R.path_bind (R.path_mono hf h)
theorem R.path_ofOpt {α : Type} (why : String) (o : Option α) : (R.ofOpt why o).path (fun a => o = some a) := by
  cases o <;> simp [R.ofOpt, R.path]
theorem R.path_guard (b : Bool) (why : String) : (guardB b why).path (fun _ => b = true) := by
  cases b <;> simp [guardB, R.path]

/-! what stands for what -/
structure Loc where
  blk : Nat
  dl : Nat
  cp : Nat
  /-- what an opaque value stands for -/
  v : Option Value

abbrev G := Nat → Option Loc

/-- the value of one cell -/
def oneV : Value → Bool
  | .agg _ => false
  | .tuple _ => false
  | _ => true
/-- an int -/
def isI64 : Value → Bool
  | .int .i64 _ => true
  | _ => false
/-- a string -/
def isStrV : Value → Bool
  | .string _ => true
  | _ => false
def neOne (v : Value) : KL → Prop
  | .int n => ∀ k, v ≠ .int k n
  | .str s => v ≠ .string ⟨⟨s⟩⟩
def lenIn (k : Know) (v : Value) : Prop := ∀ s, v = .string s → k.lo ≤ s.size ∧ ∀ h, k.hi = some h → s.size ≤ h
/-- is a value one of which that is known? -/
def Know.fits (k : Know) (v : Value) : Prop := oneV v = true ∧ (k.int = true → isI64 v = true) ∧ (k.str = true → isStrV v = true) ∧ lenIn k v ∧ ∀ x ∈ k.ne, neOne v x
open Classical in
/-- what is meant -/
noncomputable def Know.see (k : Know) (v : Value) : Option Value :=
  if k.fits v then (match k.len with
    | false => some v
    | true => match v with
      | .string s => some (.int .i64 s.size)
      | _ => none) else none
mutual
noncomputable def conc (γ : G) : AV → Option Value
  | .int k n => some (.int k n)
  | .bool b => some (.bool b)
  | .str s => some (.string ⟨⟨s⟩⟩)
  | .ptr b off => (γ b).map fun l => .pointer (some ⟨l.blk, l.dl + off, none⟩)
  | .nilp => some (.pointer none)
  | .sl b off len cap => (γ b).map fun l => .slice (some ⟨l.blk, l.dl + off, none⟩) len cap
  | .osl b pre e0 len sz => (γ b).map fun l => .slice (some ⟨l.blk, l.dl + (if e0 < l.cp then e0 else pre) * sz, none⟩) len (l.cp - e0)
  | .nilsl => some (.slice none 0 0)
  | .mapv r => (γ r).map fun l => .map (some l.blk)
  | .nilmap => some (.map none)
  | .fn f a b => match noYield f, concL γ a, concL γ b with
    | true, some a, some b => some (.func f ⟨a⟩ ⟨b⟩)
    | _, _, _ => none
  | .yield l => (γ l).map fun x => .func (.yield x.blk) ⟨[]⟩ ⟨[]⟩
  | .nilfn => some .nilFunc
  | .iface t v => (conc γ v).map fun v => .iface t v
  | .nili => some .nilIface
  | .agg cs => (concL γ cs).map fun l => .agg ⟨l⟩
  | .tup vs => (concL γ vs).map fun l => .tuple ⟨l⟩
  | .junk => none
  | .raw v => some v
  | .opq k i => (γ i).bind fun l => l.v.bind k.see
noncomputable def concL (γ : G) : List AV → Option (List Value)
  | [] => some []
  | v :: l => match conc γ v, concL γ l with
    | some a, some b => some (a :: b)
    | _, _ => none
end

theorem concL_cons {γ : G} {v : AV} {l : List AV} {r : List Value} : concL γ (v :: l) = some r ↔ ∃ a b, conc γ v = some a ∧ concL γ l = some b ∧ r = a :: b := by
  simp only [concL]
  cases conc γ v <;> cases concL γ l <;> simp [eq_comm]
theorem concL_len {γ : G} : ∀ {l : List AV} {r : List Value}, concL γ l = some r → r.length = l.length
  | [], _, h => by simp [concL] at h; subst h; rfl
  | v :: l, r, h => by
    obtain ⟨a, b, _, hb, rfl⟩ := concL_cons.1 h
    simp [concL_len hb]
theorem concL_get {γ : G} : ∀ {l : List AV} {r : List Value} (i : Nat) (v : AV), concL γ l = some r → l[i]? = some v → ∃ c, conc γ v = some c ∧ r[i]? = some c
  | [], _, i, v, _, hi => by simp at hi
  | x :: l, r, i, v, h, hi => by
    obtain ⟨a, b, ha, hb, rfl⟩ := concL_cons.1 h
    cases i with
    | zero => simp at hi; subst hi; exact ⟨a, ha, by simp⟩
    | succ i => simpa using concL_get i v hb (by simpa using hi)
theorem concL_append {γ : G} : ∀ {l m : List AV} {r s : List Value}, concL γ l = some r → concL γ m = some s → concL γ (l ++ m) = some (r ++ s)
  | [], m, r, s, h, hm => by simp [concL] at h; subst h; simpa using hm
  | x :: l, m, r, s, h, hm => by
    obtain ⟨a, b, ha, hb, rfl⟩ := concL_cons.1 h
    exact concL_cons.2 ⟨a, b ++ s, ha, concL_append hb hm, rfl⟩
theorem concL_take {γ : G} : ∀ {l : List AV} {r : List Value} (n : Nat), concL γ l = some r → concL γ (l.take n) = some (r.take n)
  | _, _, 0, _ => by simp [concL]
  | [], r, n + 1, h => by simp [concL] at h; subst h; simp [concL]
  | x :: l, r, n + 1, h => by
    obtain ⟨a, b, ha, hb, rfl⟩ := concL_cons.1 h
    exact concL_cons.2 ⟨a, _, ha, concL_take n hb, rfl⟩
theorem concL_drop {γ : G} : ∀ {l : List AV} {r : List Value} (n : Nat), concL γ l = some r → concL γ (l.drop n) = some (r.drop n)
  | _, _, 0, h => by simpa using h
  | [], r, n + 1, h => by simp [concL] at h; subst h; simp [concL]
  | x :: l, r, n + 1, h => by
    obtain ⟨a, b, ha, hb, rfl⟩ := concL_cons.1 h
    simpa using concL_drop n hb

/-- the same places -/
def Loc.same (l l' : Loc) : Prop := l'.blk = l.blk ∧ l'.dl = l.dl ∧ (l'.cp, l'.v) = (l.cp, l.v)
/-- a later ghost -/
def Grow (γ γ' : G) : Prop := ∀ id l, γ id = some l → ∃ l', γ' id = some l' ∧ l.same l'
theorem Grow.refl (γ : G) : Grow γ γ := fun _ l h => ⟨l, h, rfl, rfl, rfl⟩
theorem Grow.trans {a b c : G} (h : Grow a b) (h' : Grow b c) : Grow a c := fun id l hl => by
  obtain ⟨l1, e1, s1⟩ := h id l hl
  obtain ⟨l2, e2, s2⟩ := h' id l1 e1
  exact ⟨l2, e2, s2.1.trans s1.1, s2.2.1.trans s1.2.1, s2.2.2.trans s1.2.2⟩

theorem conc_see {γ : G} {k : Know} {i : Nat} {c : Value} (h : conc γ (.opq k i) = some c) : ∃ l v, γ i = some l ∧ l.v = some v ∧ k.fits v ∧ (k.len = false → c = v) ∧ (k.len = true → ∃ s, v = .string s ∧ c = .int .i64 s.size) := by
  simp only [conc, Option.bind_eq_some_iff] at h
  obtain ⟨l, hl, v, hv, h⟩ := h
  unfold Know.see at h
  split at h
  · next hf =>
    refine ⟨l, v, hl, hv, hf, ?_, ?_⟩
    · intro hk
      rw [hk] at h
      exact (Option.some.inj h).symm
    · intro hk
      rw [hk] at h
      cases v with
      | string s => exact ⟨s, rfl, (Option.some.inj h).symm⟩
      | _ => cases h
  · cases h
theorem conc_opq {γ : G} {k : Know} {i : Nat} {c : Value} (h : conc γ (.opq k i) = some c) : oneV c = true ∧ (k.int = true → k.len = false → isI64 c = true) := by
  obtain ⟨l, v, -, -, hf, h1, h2⟩ := conc_see h
  cases hk : k.len with
  | false =>
    obtain rfl := h1 hk
    exact ⟨hf.1, fun hi _ => hf.2.1 hi⟩
  | true =>
    obtain ⟨s, rfl, rfl⟩ := h2 hk
    exact ⟨rfl, fun _ h => by cases h⟩
theorem see_of {k : Know} {v : Value} (hf : k.fits v) (hl : k.len = false) : k.see v = some v := by
  unfold Know.see
  rw [if_pos hf, hl]
mutual
theorem conc_ext {γ γ' : G} (h : Grow γ γ') : ∀ (v : AV) (c : Value), conc γ v = some c → conc γ' v = some c
  | .int _ _, c, e | .bool _, c, e | .str _, c, e | .nilp, c, e | .nilsl, c, e | .nilmap, c, e | .nilfn, c, e | .nili, c, e | .raw _, c, e => by
    simpa [conc] using e
  | .junk, c, e => by simp [conc] at e
  | .opq _ i, c, e => by
    simp only [conc, Option.bind_eq_some_iff] at e ⊢
    obtain ⟨l, hl, v, hv, e⟩ := e
    obtain ⟨l', hl', s1, s2, s3⟩ := h i l hl
    exact ⟨l', hl', v, by rw [(Prod.mk.inj s3).2]; exact hv, e⟩
  | .ptr b off, c, e => by
    simp only [conc, Option.map_eq_some_iff] at e ⊢
    obtain ⟨l, hl, rfl⟩ := e
    obtain ⟨l', hl', s1, s2, s3⟩ := h b l hl
    exact ⟨l', hl', by rw [s1, s2]⟩
  | .sl b off len cap, c, e => by
    simp only [conc, Option.map_eq_some_iff] at e ⊢
    obtain ⟨l, hl, rfl⟩ := e
    obtain ⟨l', hl', s1, s2, s3⟩ := h b l hl
    exact ⟨l', hl', by rw [s1, s2]⟩
  | .osl b pre e0 len sz, c, e => by
    simp only [conc, Option.map_eq_some_iff] at e ⊢
    obtain ⟨l, hl, rfl⟩ := e
    obtain ⟨l', hl', s1, s2, s3⟩ := h b l hl
    exact ⟨l', hl', by rw [s1, s2, (Prod.mk.inj s3).1]⟩
  | .mapv b, c, e => by
    simp only [conc, Option.map_eq_some_iff] at e ⊢
    obtain ⟨l, hl, rfl⟩ := e
    obtain ⟨l', hl', s1, s2, s3⟩ := h b l hl
    exact ⟨l', hl', by rw [s1]⟩
  | .yield b, c, e => by
    simp only [conc, Option.map_eq_some_iff] at e ⊢
    obtain ⟨l, hl, rfl⟩ := e
    obtain ⟨l', hl', s1, s2, s3⟩ := h b l hl
    exact ⟨l', hl', by rw [s1]⟩
  | .fn f a b, c, e => by
    simp only [conc] at e ⊢
    cases hn : noYield f with
    | false => simp [hn] at e
    | true =>
      cases ha : concL γ a with
      | none => simp [hn, ha] at e
      | some x =>
        cases hb : concL γ b with
        | none => simp [hn, ha, hb] at e
        | some y =>
          simp only [hn, ha, hb, concL_ext h a x ha, concL_ext h b y hb] at e ⊢
          exact e
  | .iface t v, c, e => by
    simp only [conc, Option.map_eq_some_iff] at e ⊢
    obtain ⟨x, hx, rfl⟩ := e
    exact ⟨x, conc_ext h v x hx, rfl⟩
  | .agg cs, c, e => by
    simp only [conc, Option.map_eq_some_iff] at e ⊢
    obtain ⟨x, hx, rfl⟩ := e
    exact ⟨x, concL_ext h cs x hx, rfl⟩
  | .tup cs, c, e => by
    simp only [conc, Option.map_eq_some_iff] at e ⊢
    obtain ⟨x, hx, rfl⟩ := e
    exact ⟨x, concL_ext h cs x hx, rfl⟩
theorem concL_ext {γ γ' : G} (h : Grow γ γ') : ∀ (l : List AV) (r : List Value), concL γ l = some r → concL γ' l = some r
  | [], r, e => by simpa [concL] using e
  | v :: l, r, e => by
    obtain ⟨a, b, ha, hb, rfl⟩ := concL_cons.1 e
    exact concL_cons.2 ⟨a, b, conc_ext h v a ha, concL_ext h l b hb, rfl⟩
end

/-- a value, or one of which nothing is known -/
def VR (γ : G) (v : AV) (c : Value) : Prop := v = .junk ∨ conc γ v = some c
theorem VR.ext {γ γ' : G} (h : Grow γ γ') {v : AV} {c : Value} (hv : VR γ v c) : VR γ' v c := hv.imp id (conc_ext h v c)

/-- a deferred call -/
noncomputable def concD (γ : G) (d : AD) : Option Deferred :=
  match conc γ d.target, concL γ d.args with
  | some (.func f a b), some l => some { target := .fn f b, args := a ++ ⟨l⟩ }
  | _, _ => none
noncomputable def concDs (γ : G) : List AD → Option (List Deferred)
  | [] => some []
  | d :: l => match concD γ d, concDs γ l with
    | some a, some b => some (a :: b)
    | _, _ => none

def TmpsRel (γ : G) (nt : Nat) (t : Tr AV) (a : Array Value) : Prop :=
  a.size = nt ∧ (∀ d v, t.get d = some v → d < nt ∧ ∃ c, a[d]? = some c ∧ VR γ v c) ∧ (∀ d, t.get d = none → a.getD d undef = undef)

def isStale : Blk → Bool
  | .cells _ _ _ _ _ st _ => st
  | _ => false

def MapEntRel (γ : G) (e : ME) (m : MapEntry) : Prop :=
  conc γ e.k = some m.key ∧ conc γ e.v = some m.val ∧ m.born = e.born

def MapEnts (γ : G) : List ME → List MapEntry → Prop
  | [], [] => True
  | e :: es, m :: ms => MapEntRel γ e m ∧ MapEnts γ es ms
  | _, _ => False

def BlkRel (C : Ctx) (γ : G) (l : Loc) : Blk → Obj → Prop
  | .cells elem cs n fz _ st sg, o => ∃ (vs : Array Value) (lo hi : Nat), o = .cells vs elem (lo, hi) ∧ l.dl + n ≤ vs.size ∧
      (∀ i v, i < n → cs.get i = some v → ∃ c, vs[l.dl + i]? = some c ∧ VR γ v c) ∧
      (∃ i, C.T.get elem = some i ∧ n ≤ l.cp * i.size ∧ l.dl + l.cp * i.size ≤ vs.size ∧ ∃ q, l.dl = q * i.size) ∧
      (st = false → ∀ off, lo ≤ off → off < hi → off < l.dl + fz ∨ (sg = true ∧ vs.size ≤ off)) ∧ lo ≤ hi
  | .map es c, o => ∃ (ents : Array MapEntry), o = .map ents c ∧ MapEnts γ es ents.toList ∧ (∃ d, ∀ e ∈ es, keyOf d e.k = true)
  | .miter none _ _ _, o => l.dl = 0 ∧ o = .mapIter none 0 #[] 0
  | .miter (some m) since seen last, o => l.dl = 0 ∧ ∃ (lm : Loc), γ m = some lm ∧ o = .mapIter (some lm.blk) since ⟨seen.reverse⟩ last
  | .siter s pos, o => l.dl = 0 ∧ o = .stringIter ⟨⟨s⟩⟩ pos
  | .defd none, o => o = .deferred none
  | .defd (some ds), o => ∃ l, concDs γ ds = some l ∧ o = .deferred (some l)
  | .loop st pending fn nt tmps params assign body defers, o => ∃ (a : Array Value) (ld : Loc), TmpsRel γ nt tmps a ∧ γ defers = some ld ∧
      o = .loop { state := st, pending, fn, tmps := a, params := ⟨params⟩, assign, body, defers := ld.blk }

def AncOf (b : Blk) (id' : Nat) (b' : Blk) (l l' : Loc) : Prop :=
  match b, b' with
  | .cells _ _ n _ anc _ _, .cells _ _ n' _ _ st' _ => id' ∈ anc ∧ st' = true ∧ l'.dl + n' ≤ l.dl + n
  | _, _ => False

structure Rel (C : Ctx) (base : Nat) (γ : G) (s : S) (w : World) : Prop where
  blk : ∀ id b, s.h.get id = some b → ∃ l o, γ id = some l ∧ w.heap[l.blk]? = some o ∧ BlkRel C γ l b o
  sep : ∀ id id' b b' l l', s.h.get id = some b → s.h.get id' = some b' → γ id = some l → γ id' = some l' → id ≠ id' → l.blk = l'.blk →
    AncOf b id' b' l l' ∨ AncOf b' id b l' l
  new : ∀ id, s.next ≤ id → γ id = none
  glob : ∀ g, g < C.nG → ∃ l, γ g = some l ∧ l.blk = g ∧ l.dl = 0
  low : ∀ id b l, s.h.get id = some b → γ id = some l → l.blk < base → isStale b = true
  bs : base ≤ w.heap.size

/-- the concrete blocks that the abstract heap may write -/
def Live (γ : G) (s : S) (k : Nat) : Prop := ∃ id b l, s.h.get id = some b ∧ isStale b = false ∧ γ id = some l ∧ l.blk = k
/-- what was there and was not the abstract heap's to write stays -/
structure Keep (γ : G) (s : S) (w w' : World) : Prop where
  size : w.heap.size ≤ w'.heap.size
  tape : w'.tape = w.tape
  os : w'.os = w.os
  output : w'.output = w.output
  stays : ∀ (k : Nat) (o : Obj), w.heap[k]? = some o → ¬ Live γ s k → w'.heap[k]? = some o

structure Step (C : Ctx) (base : Nat) (γ : G) (s : S) (w : World) (γ' : G) (s' : S) (w' : World) : Prop where
  grow : Grow γ γ'
  rel : Rel C base γ' s' w'
  keep : Keep γ s w w'
  live : ∀ k, Live γ' s' k → k < w.heap.size → Live γ s k
  next : s.next ≤ s'.next
  /-- the ids in use -/
  dom : ∀ id l, γ id = some l → id < s.next
  /-- a new id lies in a new block, or in one that the abstract heap knows -/
  img : ∀ id l', γ' id = some l' → (∃ l, γ id = some l) ∨ (s.next ≤ id ∧ (w.heap.size ≤ l'.blk ∨ ∃ id0 b0 l0, s.h.get id0 = some b0 ∧ γ id0 = some l0 ∧ l0.blk = l'.blk))
  /-- no block appears at an old id -/
  old : ∀ id b', s'.h.get id = some b' → id < s.next → ∃ b, s.h.get id = some b

theorem Rel.lt {C : Ctx} {base : Nat} {γ : G} {s : S} {w : World} (hR : Rel C base γ s w) {id : Nat} {l : Loc} (h : γ id = some l) : id < s.next := by
  rcases Nat.lt_or_ge id s.next with h' | h'
  · exact h'
  · rw [hR.new id h'] at h; cases h
theorem Keep.refl (γ : G) (s : S) (w : World) : Keep γ s w w := ⟨Nat.le_refl _, rfl, rfl, rfl, fun _ _ h _ => h⟩
theorem Step.refl {C : Ctx} {base : Nat} {γ : G} {s : S} {w : World} (hR : Rel C base γ s w) : Step C base γ s w γ s w :=
  ⟨Grow.refl γ, hR, Keep.refl γ s w, fun _ h _ => h, Nat.le_refl _, fun _ _ h => hR.lt h, fun _ l h => .inl ⟨l, h⟩, fun _ b h _ => ⟨b, h⟩⟩
theorem Step.trans {C : Ctx} {base : Nat} {γ γ1 γ2 : G} {s s1 s2 : S} {w w1 w2 : World} (h : Step C base γ s w γ1 s1 w1) (h' : Step C base γ1 s1 w1 γ2 s2 w2) :
    Step C base γ s w γ2 s2 w2 := by
  refine ⟨h.grow.trans h'.grow, h'.rel, ⟨Nat.le_trans h.keep.size h'.keep.size, h'.keep.tape.trans h.keep.tape, h'.keep.os.trans h.keep.os, h'.keep.output.trans h.keep.output, ?_⟩, ?_, Nat.le_trans h.next h'.next, h.dom, ?_, ?_⟩
  · intro k o hk hn
    have hlt : k < w.heap.size := by
      rcases Nat.lt_or_ge k w.heap.size with h | h
      · exact h
      · rw [Array.getElem?_eq_none h] at hk; cases hk
    exact h'.keep.stays k o (h.keep.stays k o hk hn) (fun hl => hn (h.live k hl hlt))
  · intro k hl hk
    exact h.live k (h'.live k hl (Nat.lt_of_lt_of_le hk h.keep.size)) hk
  · intro id l2 h2
    have key : ∀ id l1, γ1 id = some l1 → (∃ l, γ id = some l) ∨ (s.next ≤ id ∧ (w.heap.size ≤ l1.blk ∨ ∃ id0 b0 l0, s.h.get id0 = some b0 ∧ γ id0 = some l0 ∧ l0.blk = l1.blk)) := h.img
    rcases h'.img id l2 h2 with ⟨l1, h1⟩ | ⟨hn, hi⟩
    · obtain ⟨l2', h3, e1, _⟩ := h'.grow id l1 h1
      rw [h2] at h3; obtain rfl := Option.some.inj h3
      rcases key id l1 h1 with hk | ⟨hk1, hk2⟩
      · exact .inl hk
      · exact .inr ⟨hk1, by rw [e1]; exact hk2⟩
    · refine .inr ⟨Nat.le_trans h.next hn, ?_⟩
      rcases hi with hi | ⟨id0, b0, l0, g1, g2, g3⟩
      · exact .inl (Nat.le_trans h.keep.size hi)
      · rw [← g3]
        rcases key id0 l0 g2 with ⟨l, hl⟩ | ⟨_, hk2⟩
        · obtain ⟨b, hb⟩ := h.old id0 b0 g1 (h.dom id0 l hl)
          obtain ⟨l0', h3, e1, _⟩ := h.grow id0 l hl
          rw [g2] at h3; obtain rfl := Option.some.inj h3
          exact .inr ⟨id0, b, l, hb, hl, e1.symm⟩
        · exact hk2
  · intro id b' hb hlt
    obtain ⟨b1, hb1⟩ := h'.old id b' hb (Nat.lt_of_lt_of_le hlt h.next)
    exact h.old id b1 hb1 hlt

end Go.Proofs.YtabknehmohoemaaGreatDoor.Abs

namespace Go.Proofs.YtabknehmohoemaaGreatDoor.Abs
open Go

theorem conc_same {γ : G} {v : AV} {c c' : Value} (h : conc γ v = some c) (h' : conc γ v = some c') : c = c' := by
  rw [h] at h'; exact Option.some.inj h'

/-! constants -/
mutual
theorem conc_ofConst (γ : G) : ∀ v : Value, conc γ (AV.ofConst v) = some v
  | .int _ _ | .bool _ | .nilFunc | .nilIface | .float _ _ | .complex _ _ _ | .chan _ | .pointer (some _) => by simp [AV.ofConst, conc]
  | .string s => by cases s with | mk d => cases d with | mk l => simp [AV.ofConst, conc]
  | .pointer none => by simp [AV.ofConst, conc]
  | .slice (some _) _ _ => by simp [AV.ofConst, conc]
  | .slice none 0 0 => by simp [AV.ofConst, conc]
  | .slice none 0 (n + 1) => by simp [AV.ofConst, conc]
  | .slice none (n + 1) m => by simp [AV.ofConst, conc]
  | .map none => by simp [AV.ofConst, conc]
  | .map (some _) => by simp [AV.ofConst, conc]
  | .func f ⟨[]⟩ ⟨[]⟩ => by
    simp only [AV.ofConst]
    cases h : noYield f
    · simp [conc]
    · simp [conc, concL, h]
  | .func f ⟨a :: l⟩ b => by simp [AV.ofConst, conc]
  | .func f ⟨[]⟩ ⟨a :: l⟩ => by simp [AV.ofConst, conc]
  | .iface t v => by simp [AV.ofConst, conc, conc_ofConst γ v]
  | .agg ⟨l⟩ => by simp [AV.ofConst, conc, concL_ofConsts γ l]
  | .tuple ⟨l⟩ => by simp [AV.ofConst, conc, concL_ofConsts γ l]
theorem concL_ofConsts (γ : G) : ∀ l : List Value, concL γ (AV.ofConsts l) = some l
  | [] => by simp [AV.ofConsts, concL]
  | v :: l => by simp [AV.ofConsts, concL, conc_ofConst γ v, concL_ofConsts γ l]
end

/-! operands -/
theorem path_noJunk (v : AV) : (noJunk v).path (fun x => x = v ∧ v ≠ .junk) := by
  cases v <;> simp [noJunk, R.path]

theorem path_evA {C : Ctx} {base : Nat} {γ : G} {s : S} {w : World} {nt : Nat} {t : Tr AV} {a : Act} (hR : Rel C base γ s w) (ht : TmpsRel γ nt t a.tmps) (x : Operand) :
    (evA C t x).path (fun v => conc γ v = some (a.eval x)) := by
  cases x with
  | tmp d =>
    show (@Option.rec AV (fun _ => R AV) (.ok (.tup [])) (fun v => noJunk v) (t.get d)).path _
    cases h : t.get d with
    | none =>
      have := ht.2.2 d h
      show conc γ (.tup []) = some (a.tmps.getD d undef)
      rw [this]; simp [conc, concL, undef]
    | some v =>
      obtain ⟨_, c, hc, hv⟩ := ht.2.1 d v h
      refine R.path_mono ?_ (path_noJunk v)
      rintro x ⟨rfl, hj⟩
      rcases hv with hv | hv
      · exact absurd hv hj
      · rw [hv]
        simp [Act.eval, Array.getD_eq_getD_getElem?, hc]
  | const v => exact conc_ofConst γ v
  | global g =>
    show (@Bool.rec (fun _ => R AV) (.bad "global") (.ok (.ptr g 0)) (Nat.blt g C.nG)).path _
    cases h : Nat.blt g C.nG with
    | false => trivial
    | true =>
      have hg : g < C.nG := by simpa [Nat.blt_eq] using h
      obtain ⟨l, hl, h1, h2⟩ := hR.glob g hg
      simp [R.path, conc, hl, h1, h2, Act.eval]
  | func f => simp [evA, R.path, conc, concL, noYield, Act.eval]

theorem path_evL {C : Ctx} {base : Nat} {γ : G} {s : S} {w : World} {nt : Nat} {t : Tr AV} {a : Act} (hR : Rel C base γ s w) (ht : TmpsRel γ nt t a.tmps) :
    ∀ l : List Operand, (evL C t l).path (fun vs => concL γ vs = some (l.map a.eval))
  | [] => by simp [evL, R.path, concL]
  | x :: l => by
    unfold evL
    refine R.pbd _ (path_evA hR ht x) fun v hv => ?_
    refine R.pbd _ (path_evL hR ht l) fun vs hvs => ?_
    exact concL_cons.2 ⟨_, _, hv, hvs, rfl⟩

/-! tables of types -/
noncomputable def validB (P : Program) : Bool := P.types.toList.all fun i => match (mkTI P.types i).desc with | .invalid => false | _ => true
/-- the model's own rows of the externs that are known -/
def extRow (fn : Func) : Ext → Array Value → Sem Value
  | .noEscape => Extern.AbiNoEscape.same
  | .indexByte => Extern.BytealgIndexByte.indexByte
  | .count => Extern.BytealgCount.count
  | .cmp => Extern.BytealgCompare.compare
  | .clone => Extern.MapsClone.clone
  | .noZero => Extern.BytealgMakeNoZero.makeNoZero fn.params fn.resultTypes
  | .index _ => fun _ => pure undef
  | .closed _ _ => fun _ => pure undef
  | .as _ => fun _ => pure undef
/-- what was there is as it was -/
structure Kept (w w' : World) : Prop where
  size : w.heap.size ≤ w'.heap.size
  tape : w'.tape = w.tape
  os : w'.os = w.os
  output : w'.output = w.output
  stays : ∀ (k : Nat) (o : Obj), w.heap[k]? = some o → w'.heap[k]? = some o
/-- what is asked of a function without arguments that returns true; 'g' is a variable that holds an int -/
def ClosedOk (P : Program) (f : FuncId) (g t : Nat) : Prop :=
  (∃ fn, P.funcs[f]? = some fn) ∧ ∀ (m : Int) (vs : Array Value) (lo hi : Nat) (w : World), lo ≤ hi → w.heap[g]? = some (.cells vs t (lo, hi)) → vs[0]? = some (.int .i64 m) →
    Calls P f #[] w fun e w' => e = .returned (.bool true) ∧ Kept w w'
/-- what is asked of a function that looks for one text in another; 'g' is the variable that holds the greatest length of the fast way -/
def IndexOk (P : Program) (f : FuncId) (g : Nat) : Prop :=
  (∃ fn, P.funcs[f]? = some fn) ∧ ∀ (s sub : ByteArray) (m : Int) (w : World), s.size < 4294967281 → w.cell? ⟨g, 0, none⟩ = some (.int .i64 m) →
    Calls P f #[.string s, .string sub] w fun e w' => e = .returned (.int .i64 (Lib.index s.data.toList sub.data.toList)) ∧ w' = w
/-- what is asked of errors.As at a struct whose type is the target's: the target is set -/
def AsOk (P : Program) (f : FuncId) (x : AsE) : Prop :=
  (∃ fn, P.funcs[f]? = some fn) ∧ ∀ (w w1 : World) (t : Addr) (cs : List Value) (arr : Array Value) (el : TypeId) (lo hi : Nat), w.cell? ⟨x.g, 0, none⟩ = some (.iface x.tR (.agg #[.pointer (some ⟨x.hb, x.he, none⟩)])) → cs.length = x.n → t.spot = none →
    w.heap[t.block]? = some (.cells arr el (lo, hi)) → t.off + cs.length ≤ arr.size → (∀ q, lo ≤ q → q < hi → q < t.off ∨ t.off + cs.length ≤ q) → (∀ v ∈ cs, v.oneCell' = true) →
    (storeCells t cs).run P w = .ok () w1 →
    Calls P f #[.iface x.tF (.agg ⟨cs⟩), .iface x.tP (.pointer (some t))] w fun e w' => e = .returned (.bool true) ∧ Kept w1 w'
/-- what a block holds is what is written down of it -/
def Holds (b : Blk) (m : MB) : Prop := (∀ (C : Ctx) (γ : G) (l : Loc) (o : Obj), BlkRel C γ l b o → BlkRel C γ l m.blk o) ∧ isStale b = isStale m.blk
/-- what is asked of a call of which it is known what it reads and what it leaves -/
def MemoOk (P : Program) (f : FuncId) (m : Memo) : Prop :=
  (∃ fn, P.funcs[f]? = some fn) ∧ ∀ (base : Nat) (γ : G) (w : World) (cargs : List Value), Rel (mkCtx P (fun _ => false) []) base γ m.S w → concL γ m.args = some cargs →
    Calls P f ⟨cargs⟩ w fun e w' => ∃ γ' s' c, Step (mkCtx P (fun _ => false) []) base γ m.S w γ' s' w' ∧ s'.next ≤ m.last ∧
      (∀ x ∈ m.post, ∃ b, s'.h.get x.1 = some b ∧ Holds b x.2 ∧ isStale b = false) ∧ conc γ' m.res = some c ∧ e = .returned c
structure Good (C : Ctx) : Prop where
  eq : C = mkCtx C.P C.eqT C.X C.M
  memo : ∀ x ∈ C.M, MemoOk C.P x.1 x.2
  valid : validB C.P = true
  noNum : ∀ (f : Nat) (fn : Func), C.P.funcs[f]? = some fn → fn.body.isSome = true → (fn.name == "runtime.NumGoroutine") = false
  closed : ∀ f g t, extOf f C.X = some (.closed g t) → ClosedOk C.P f g t
  idx : ∀ f g, extOf f C.X = some (.index g) → IndexOk C.P f g
  as' : ∀ f x, extOf f C.X = some (.as x) → AsOk C.P f x
  ext : ∀ f e, extOf f C.X = some e → (∀ g, e ≠ .index g) → (∀ g t, e ≠ .closed g t) → (∀ x, e ≠ .as x) → ∃ fn, C.P.funcs[f]? = some fn ∧ fn.body = none ∧ (fn.name == "runtime.NumGoroutine") = false ∧ Extern.findNext fn = none ∧ Extern.find fn = some (extRow fn e)

theorem tab_get {C : Ctx} (hC : Good C) {t : TypeId} {i : TI} (h : C.T.get t = some i) :
    ∃ ti, C.P.info? t = some ti ∧ C.P.types[t]? = some ti ∧ i = mkTI C.P.types ti ∧ i.desc ≠ .invalid := by
  have h' : (Tr.ofList (C.P.types.toList.map (mkTI C.P.types))).get t = some i := by
    have e := hC.eq
    rw [e] at h; exact h
  rw [Tr.get_ofList] at h'
  simp only [List.getElem?_map, Option.map_eq_some_iff, Array.getElem?_toList] at h'
  obtain ⟨ti, hti, rfl⟩ := h'
  refine ⟨ti, ?_, hti, rfl, ?_⟩
  · have hlt : t < C.P.types.size := by
      rcases Nat.lt_or_ge t C.P.types.size with h | h
      · exact h
      · rw [Array.getElem?_eq_none h] at hti; cases hti
    show Tables.info? _ t = _
    unfold Tables.info?
    rw [if_pos hlt]; exact hti
  · have hv := hC.valid
    unfold validB at hv
    have hmem : ti ∈ C.P.types.toList := by
      have := Array.mem_of_getElem? hti
      simpa using this
    have := List.all_eq_true.1 hv ti hmem
    intro hd
    rw [hd] at this; cases this
theorem fun_get {C : Ctx} (hC : Good C) {f : FuncId} {fn : Func} (h : C.F.get f = some fn) : C.P.funcs[f]? = some fn := by
  have h' : (Tr.ofList C.P.funcs.toList).get f = some fn := by
    have e := hC.eq
    rw [e] at h; exact h
  rw [Tr.get_ofList] at h'
  simpa using h'

/-- what a row of the types' table tells of the program -/
structure TIRel (P : Program) (t : TypeId) (i : TI) : Prop where
  und : P.underlying t = some i.desc
  size : ∀ w, (sizeOf t).run P w = .ok i.size w
  info : ∃ ti, P.info? t = some ti ∧ ti.bytes = i.bytes ∧ ti.size = i.size ∧ P.types[t]? = some ti
  zero : ∀ z, i.zero = some z → ∃ v, (∀ w, (zeroValue t).run P w = .ok v w) ∧ (∀ γ, concL γ z = some v.cells.toList)
  agg : ∀ w, (isAgg t).run P w = .ok i.agg w
  zv : ∀ z, i.zv = some z → ∃ v, (∀ w, (zeroValue t).run P w = .ok v w) ∧ (∀ γ, conc γ z = some v)

theorem tiRel {C : Ctx} (hC : Good C) {t : TypeId} {i : TI} (h : C.T.get t = some i) : TIRel C.P t i := by
  obtain ⟨ti, h1, h2, rfl, hne⟩ := tab_get hC h
  have hund : C.P.underlying t = some (mkTI C.P.types ti).desc := by
    revert hne
    unfold mkTI Program.underlying
    rw [h1]
    cases hd : ti.desc with
    | named n u =>
      cases hu : C.P.types[u]? with
      | none => simp [hu]
      | some tu =>
        intro _
        have hlt : u < C.P.types.size := by
          rcases Nat.lt_or_ge u C.P.types.size with h | h
          · exact h
          · rw [Array.getElem?_eq_none h] at hu; cases hu
        have : C.P.info? u = some tu := by
          show Tables.info? _ u = _
          unfold Tables.info?
          rw [if_pos hlt]; exact hu
        cases ti; simp at hd; subst hd
        simp [hu, this]
    | _ => intro _; cases ti; simp at hd; subst hd; simp
  refine ⟨hund, fun w => ?_, ⟨ti, h1, rfl, rfl, h2⟩, ?_, ?_, ?_⟩
  · simp [sizeOf, typeInfo, h1, mkTI]
  · intro z hz
    simp only [mkTI, Option.map_eq_some_iff] at hz
    obtain ⟨v, hv, rfl⟩ := hz
    exact ⟨v, fun w => by simp [zeroValue, typeInfo, h1, hv], fun γ => concL_ofConsts γ _⟩
  · intro w
    simp only [isAgg, underlying, Sem.run_bind, run_program, Result.andThen_ok, hund, Sem.run_pure]
    have : (mkTI C.P.types ti).agg = isAggD (mkTI C.P.types ti).desc := rfl
    rw [this]
    cases (mkTI C.P.types ti).desc <;> rfl
  · intro z hz
    simp only [mkTI, Option.map_eq_some_iff] at hz
    obtain ⟨v, hv, rfl⟩ := hz
    exact ⟨v, fun w => by simp [zeroValue, typeInfo, h1, hv], fun γ => conc_ofConst γ v⟩

theorem path_zeroVal {C : Ctx} (hC : Good C) (e : TypeId) : (zeroVal C e).path (fun v => ∃ c, (∀ w, (zeroValue e).run C.P w = .ok c w) ∧ ∀ γ, conc γ v = some c) := by
  unfold zeroVal
  refine R.pbd (fun i => TIRel C.P e i) (R.path_mono (fun _ h => tiRel hC h) (R.path_ofOpt _ _)) fun i hi => ?_
  exact R.path_mono (fun z hz => hi.zv z hz) (R.path_ofOpt _ _)

theorem path_ti {C : Ctx} (hC : Good C) (t : TypeId) : (ti C t).path (fun i => C.T.get t = some i ∧ TIRel C.P t i) :=
  R.path_mono (fun _ h => ⟨h, tiRel hC h⟩) (R.path_ofOpt _ _)
theorem path_under {C : Ctx} (hC : Good C) (t : TypeId) : (under C t).path (fun d => C.P.underlying t = some d) := by
  unfold under
  refine R.pbd _ (path_ti hC t) fun i hi => ?_
  exact hi.2.und
theorem path_zero {C : Ctx} (hC : Good C) (t : TypeId) : (zeroOf C t).path (fun z => ∃ i v, C.T.get t = some i ∧ i.zero = some z ∧ (∀ w, (zeroValue t).run C.P w = .ok v w) ∧ (∀ γ, concL γ z = some v.cells.toList)) := by
  unfold zeroOf
  refine R.pbd _ (path_ti hC t) fun i hi => ?_
  refine R.path_mono ?_ (R.path_ofOpt _ _)
  intro z hz
  obtain ⟨v, h1, h2⟩ := hi.2.zero z hz
  exact ⟨i, v, hi.1, hz, h1, h2⟩
theorem run_und {P : Program} {t : TypeId} {d : TypeDesc} (h : P.underlying t = some d) (w : World) : (underlying t).run P w = .ok d w := by
  simp [underlying, h]

/-! the heap's relation under change -/
theorem VR.grow {γ γ' : G} (h : Grow γ γ') {v : AV} {c : Value} (hv : VR γ v c) : VR γ' v c := hv.imp id (conc_ext h v c)
theorem concD_grow {γ γ' : G} (h : Grow γ γ') {d : AD} {x : Deferred} (hd : concD γ d = some x) : concD γ' d = some x := by
  unfold concD at hd ⊢
  cases h1 : conc γ d.target with
  | none => simp [h1] at hd
  | some v =>
    cases h2 : concL γ d.args with
    | none => cases v <;> simp [h1, h2] at hd
    | some l =>
      rw [conc_ext h _ _ h1, concL_ext h _ _ h2]
      rw [h1, h2] at hd
      exact hd
theorem concDs_grow {γ γ' : G} (h : Grow γ γ') : ∀ {l : List AD} {r : List Deferred}, concDs γ l = some r → concDs γ' l = some r
  | [], r, e => by simpa [concDs] using e
  | d :: l, r, e => by
    simp only [concDs] at e ⊢
    cases h1 : concD γ d with
    | none => simp [h1] at e
    | some x =>
      cases h2 : concDs γ l with
      | none => simp [h1, h2] at e
      | some y => simp only [h1, h2, concD_grow h h1, concDs_grow h h2] at e ⊢; exact e
theorem TmpsRel.grow {γ γ' : G} (h : Grow γ γ') {nt : Nat} {t : Tr AV} {a : Array Value} (ht : TmpsRel γ nt t a) : TmpsRel γ' nt t a :=
  ⟨ht.1, fun d v hd => let ⟨h1, c, hc, hv⟩ := ht.2.1 d v hd; ⟨h1, c, hc, hv.grow h⟩, ht.2.2⟩
theorem MapEnts.grow {γ γ' : G} (h : Grow γ γ') : ∀ {es : List ME} {L : List MapEntry}, MapEnts γ es L → MapEnts γ' es L
  | [], [], _ => trivial
  | _ :: _, _ :: _, ⟨⟨h1, h2, h3⟩, hr⟩ => ⟨⟨conc_ext h _ _ h1, conc_ext h _ _ h2, h3⟩, MapEnts.grow h hr⟩
  | [], _ :: _, hf => hf.elim
  | _ :: _, [], hf => hf.elim

theorem BlkRel.mono {C : Ctx} {γ γ' : G} (hg : Grow γ γ') {l l' : Loc} (hs : l.same l') {b : Blk} {o : Obj} (hb : BlkRel C γ l b o) : BlkRel C γ' l' b o := by
  obtain ⟨s1, s2, s3⟩ := hs
  cases b with
  | cells elem cs n fz anc st sg =>
    obtain ⟨vs, lo, hi, rfl, h1, h2, h3, h4⟩ := hb
    refine ⟨vs, lo, hi, rfl, by rw [s2]; exact h1, fun i v hi hv => ?_, ?_, ?_⟩
    · obtain ⟨c, hc, hr⟩ := h2 i v hi hv
      exact ⟨c, by rw [s2]; exact hc, hr.grow hg⟩
    · rw [s2, (Prod.mk.inj s3).1]; exact h3
    · rw [s2]; exact h4
  | map es c =>
    obtain ⟨ents, rfl, h1, h2⟩ := hb
    exact ⟨ents, rfl, h1.grow hg, h2⟩
  | miter m since seen last =>
    cases m with
    | none => exact ⟨s2.trans hb.1, hb.2⟩
    | some m =>
      obtain ⟨h0, lm, hlm, rfl⟩ := hb
      obtain ⟨lm', hlm', t1, t2, t3⟩ := hg m lm hlm
      exact ⟨s2.trans h0, lm', hlm', by rw [t1]⟩
  | siter s pos => exact ⟨s2.trans hb.1, hb.2⟩
  | defd ds =>
    cases ds with
    | none => exact hb
    | some ds => obtain ⟨r, h1, h2⟩ := hb; exact ⟨r, concDs_grow hg h1, h2⟩
  | loop st pending fn nt tmps params assign body defers =>
    obtain ⟨a, ld, h1, h2, rfl⟩ := hb
    obtain ⟨ld', hld', t1, _, _⟩ := hg defers ld h2
    exact ⟨a, ld', h1.grow hg, hld', by rw [t1]⟩

theorem Rel.alloc {C : Ctx} {base : Nat} {γ : G} {s : S} {w : World} (hR : Rel C base γ s w) (b : Blk) (o : Obj) (dl cp : Nat) {w' : World}
    (hw : w'.heap = w.heap.push o)
    (hb : ∀ γ', Grow γ γ' → BlkRel C γ' ⟨w.heap.size, dl, cp, none⟩ b o) :
    Rel C base (fun id => if id = s.next then some ⟨w.heap.size, dl, cp, none⟩ else γ id) (s.new b) w' := by
  have hgrow : Grow γ (fun id => if id = s.next then some ⟨w.heap.size, dl, cp, none⟩ else γ id) := by
    intro id l hl
    have : id ≠ s.next := Nat.ne_of_lt (hR.lt hl)
    exact ⟨l, by simp [this, hl], rfl, rfl, rfl⟩
  have hold : ∀ (k : Nat) (x : Obj), w.heap[k]? = some x → w'.heap[k]? = some x := by
    intro k x hk
    have hlt : k < w.heap.size := by
      rcases Nat.lt_or_ge k w.heap.size with h | h
      · exact h
      · rw [Array.getElem?_eq_none h] at hk; cases hk
    rw [hw, Array.getElem?_push, if_neg (Nat.ne_of_lt hlt)]; exact hk
  have hlt : ∀ {id b l}, s.h.get id = some b → γ id = some l → l.blk < w.heap.size := by
    intro id b l h1 h2
    obtain ⟨l', o', h3, h4, _⟩ := hR.blk id b h1
    rw [h2] at h3; obtain rfl := Option.some.inj h3
    rcases Nat.lt_or_ge l.blk w.heap.size with h | h
    · exact h
    · rw [Array.getElem?_eq_none h] at h4; cases h4
  refine ⟨?_, ?_, ?_, ?_, ?_, ?_⟩
  · intro id b' hid
    simp only [S.new] at hid
    rw [Tr.get_set] at hid
    split at hid
    · next he =>
      subst he
      obtain rfl := Option.some.inj hid
      exact ⟨_, o, by simp, by rw [hw]; simp, hb _ hgrow⟩
    · next he =>
      obtain ⟨l, o', h1, h2, h3⟩ := hR.blk id b' hid
      have hne : id ≠ s.next := fun h => he h.symm
      exact ⟨l, o', by simp [hne, h1], hold _ _ h2, h3.mono hgrow ⟨rfl, rfl, rfl⟩⟩
  · intro id id' b1 b2 l l' h1 h2 h3 h4 hne hbl
    simp only [S.new, Tr.get_set] at h1 h2
    by_cases e1 : s.next = id
    · subst e1
      have e2 : s.next ≠ id' := hne
      rw [if_neg e2] at h2
      have e2' : id' ≠ s.next := Ne.symm e2
      simp only [e2', if_false] at h4
      simp only [if_true] at h3
      obtain rfl := Option.some.inj h3
      have := hlt h2 h4
      simp at hbl; omega
    · rw [if_neg e1] at h1
      have e1' : id ≠ s.next := Ne.symm e1
      simp only [e1', if_false] at h3
      by_cases e2 : s.next = id'
      · subst e2
        simp only [if_true] at h4
        obtain rfl := Option.some.inj h4
        have := hlt h1 h3
        simp at hbl; omega
      · rw [if_neg e2] at h2
        have e2' : id' ≠ s.next := Ne.symm e2
        simp only [e2', if_false] at h4
        exact hR.sep id id' b1 b2 l l' h1 h2 h3 h4 hne hbl
  · intro id hid
    simp only [S.new] at hid
    have hid' : s.next + 1 ≤ id := hid
    have : id ≠ s.next := by omega
    simp only [this, if_false]
    exact hR.new id (by omega)
  · intro g hg
    obtain ⟨l, h1, h2, h3⟩ := hR.glob g hg
    have : g ≠ s.next := Nat.ne_of_lt (hR.lt h1)
    exact ⟨l, by simp [this, h1], h2, h3⟩
  · intro id b' l h1 h2 h3
    simp only [S.new, Tr.get_set] at h1
    by_cases e1 : s.next = id
    · subst e1
      simp only [if_true] at h2
      obtain rfl := Option.some.inj h2
      have := hR.bs
      simp at h3; omega
    · rw [if_neg e1] at h1
      have e1' : id ≠ s.next := Ne.symm e1
      simp only [e1', if_false] at h2
      exact hR.low id b' l h1 h2 h3
  · have := hR.bs
    rw [hw]; simp; omega

theorem Keep.alloc {γ : G} {s : S} {w w' : World} (o : Obj) (hw : w'.heap = w.heap.push o) (ht : w'.tape = w.tape) (ho : w'.os = w.os) (hp : w'.output = w.output) : Keep γ s w w' := by
  refine ⟨by rw [hw]; simp, ht, ho, hp, fun k x hk _ => ?_⟩
  have hlt : k < w.heap.size := by
    rcases Nat.lt_or_ge k w.heap.size with h | h
    · exact h
    · rw [Array.getElem?_eq_none h] at hk; cases hk
  rw [hw, Array.getElem?_push, if_neg (Nat.ne_of_lt hlt)]; exact hk

theorem Step.alloc {C : Ctx} {base : Nat} {γ : G} {s : S} {w : World} (hR : Rel C base γ s w) (b : Blk) (o : Obj) (dl cp : Nat) {w' : World}
    (hw : w'.heap = w.heap.push o) (ht : w'.tape = w.tape) (ho : w'.os = w.os) (hp : w'.output = w.output)
    (hb : ∀ γ', Grow γ γ' → BlkRel C γ' ⟨w.heap.size, dl, cp, none⟩ b o) :
    Step C base γ s w (fun id => if id = s.next then some ⟨w.heap.size, dl, cp, none⟩ else γ id) (s.new b) w' := by
  refine ⟨?_, hR.alloc b o dl cp hw hb, Keep.alloc o hw ht ho hp, ?_, Nat.le_succ _, fun _ _ h => hR.lt h, ?_, ?_⟩
  · intro id l hl
    have : id ≠ s.next := Nat.ne_of_lt (hR.lt hl)
    exact ⟨l, by simp [this, hl], rfl, rfl, rfl⟩
  · rintro k ⟨id, b', l, h1, h2, h3, h4⟩ hk
    simp only [S.new, Tr.get_set] at h1
    by_cases e : s.next = id
    · subst e
      simp only [if_true] at h3
      obtain rfl := Option.some.inj h3
      simp at h4; omega
    · rw [if_neg e] at h1
      have e' : id ≠ s.next := Ne.symm e
      simp only [e', if_false] at h3
      exact ⟨id, b', l, h1, h2, h3, h4⟩
  · intro id l' h
    by_cases e : id = s.next
    · simp only [e, if_true, Option.some.injEq] at h
      subst h
      exact .inr ⟨by omega, .inl (Nat.le_refl _)⟩
    · simp only [e, if_false] at h
      exact .inl ⟨l', h⟩
  · intro id b' h hlt
    simp only [S.new, Tr.get_set] at h
    rw [if_neg (by omega)] at h
    exact ⟨b', h⟩

/-- a block that is written -/
theorem Rel.setBlk {C : Ctx} {base : Nat} {γ γ' : G} {s : S} {w w' : World} (hR : Rel C base γ s w) {id : Nat} {b b' : Blk} {l l' : Loc} {o' : Obj} {h' : Tr Blk}
    (hid : s.h.get id = some b) (hl : γ id = some l) (hl' : γ' id = some l') (hs : l.same l') (hlive : isStale b = false)
    (hγ : ∀ i, i ≠ id → γ' i = γ i)
    (hh : ∀ i x, i ≠ id → h'.get i = some x → s.h.get i = some x) (hset : h'.get id = some b')
    (hw : ∀ k, k ≠ l.blk → w'.heap[k]? = w.heap[k]?) (hwb : w'.heap[l.blk]? = some o') (hsz : w'.heap.size = w.heap.size)
    (hb : BlkRel C γ' l' b' o')
    (hshare : ∀ i x li, i ≠ id → h'.get i = some x → γ i = some li → li.blk = l.blk → BlkRel C γ' li x o')
    (hlen : ∀ i x li, i ≠ id → h'.get i = some x → γ i = some li → li.blk = l.blk → AncOf b' i x l' li) :
    Rel C base γ' ⟨h', s.next⟩ w' := by
  have hgrow : Grow γ γ' := by
    intro i li hi
    by_cases e : i = id
    · subst e; rw [hl] at hi; obtain rfl := Option.some.inj hi; exact ⟨l', hl', hs⟩
    · exact ⟨li, by rw [hγ i e]; exact hi, rfl, rfl, rfl⟩
  refine ⟨?_, ?_, ?_, ?_, ?_, ?_⟩
  · intro i x hx
    by_cases e : i = id
    · subst e
      rw [hset] at hx; obtain rfl := Option.some.inj hx
      exact ⟨l', o', hl', by rw [hs.1]; exact hwb, hb⟩
    · obtain ⟨li, o, h1, h2, h3⟩ := hR.blk i x (hh i x e hx)
      refine ⟨li, ?_⟩
      by_cases e2 : li.blk = l.blk
      · exact ⟨o', by rw [hγ i e]; exact h1, by rw [e2]; exact hwb, hshare i x li e hx h1 e2⟩
      · exact ⟨o, by rw [hγ i e]; exact h1, by rw [hw _ e2]; exact h2, h3.mono hgrow ⟨rfl, rfl, rfl⟩⟩
  · intro i j x y li lj h1 h2 h3 h4 hne hbl
    by_cases e : i = id
    · subst e
      rw [hl'] at h3; obtain rfl := Option.some.inj h3
      have ej : j ≠ i := Ne.symm hne
      rw [hset] at h1; obtain rfl := Option.some.inj h1
      rw [hγ j ej] at h4
      left
      exact hlen j y lj ej h2 h4 (by rw [← hbl, hs.1])
    · by_cases e2 : j = id
      · subst e2
        rw [hl'] at h4; obtain rfl := Option.some.inj h4
        rw [hset] at h2; obtain rfl := Option.some.inj h2
        rw [hγ i e] at h3
        right
        exact hlen i x li e h1 h3 (by rw [hbl, hs.1])
      · rw [hγ i e] at h3; rw [hγ j e2] at h4
        exact hR.sep i j x y li lj (hh i x e h1) (hh j y e2 h2) h3 h4 hne hbl
  · intro i hi
    have hne : i ≠ id := fun h => by subst h; rw [hR.new i hi] at hl; cases hl
    rw [hγ i hne]; exact hR.new i hi
  · intro g hg
    obtain ⟨lg, h1, h2, h3⟩ := hR.glob g hg
    obtain ⟨lg', h4, t1, t2, _⟩ := hgrow g lg h1
    exact ⟨lg', h4, t1.trans h2, t2.trans h3⟩
  · intro i x li h1 h2 h3
    by_cases e : i = id
    · subst e
      rw [hl'] at h2; obtain rfl := Option.some.inj h2
      rw [hs.1] at h3
      have := hR.low i b l hid hl h3
      rw [hlive] at this; cases this
    · rw [hγ i e] at h2
      exact hR.low i x li (hh i x e h1) h2 h3
  · rw [hsz]; exact hR.bs

end Go.Proofs.YtabknehmohoemaaGreatDoor.Abs

namespace Go.Proofs.YtabknehmohoemaaGreatDoor.Abs
open Go

def NxOk (C : Ctx) (base : Nat) (γ : G) (s : S) (w : World) (r : Result Next) : Nx → Prop
  | .val v s' => ∃ γ' c w', r = .ok (.value c) w' ∧ conc γ' v = some c ∧ Step C base γ s w γ' s' w'
  | .skip s' => ∃ γ' w', r = .ok .skip w' ∧ Step C base γ s w γ' s' w' 
  | .enter f args s' => ∃ γ' l w', r = .ok (.enter f ⟨l⟩) w' ∧ concL γ' args = some l ∧ Step C base γ s w γ' s' w'
  | .round l args s' => s' = s ∧ ∃ lc cs, γ l = some lc ∧ concL γ args = some cs ∧ r = (Instr.yield lc.blk ⟨cs⟩).run C.P w
  | .defer d s' => ∃ γ' x w', r = .ok (.defer x) w' ∧ concD γ' d = some x ∧ Step C base γ s w γ' s' w'
  | .recover s' => s' = s ∧ r = .ok .recover w
  | .pan v s' => ∃ γ' c w', r = .halt (.panic c) w' ∧ conc γ' v = some c ∧ Step C base γ s w γ' s' w'

def VS (x : Sem Value) : Sem Next := do pure (.value (← x))
def US (x : Sem Unit) : Sem Next := do x; pure .skip

section
variable {C : Ctx} {base : Nat} {γ : G} {s : S} {w : World} {nt : Nat} {t : Tr AV} {a : Act}

theorem okVal (hR : Rel C base γ s w) {x : Sem Value} {v : AV} {c : Value} (hx : x.run C.P w = .ok c w) (hv : conc γ v = some c) :
    NxOk C base γ s w ((VS x).run C.P w) (.val v s) :=
  ⟨γ, c, w, by simp [VS, hx], hv, Step.refl hR⟩

theorem ok_move (hR : Rel C base γ s w) (ht : TmpsRel γ nt t a.tmps) (x : Operand) (ty : TypeId) :
    (opMove x ty C t s).path (NxOk C base γ s w ((pure (.value (a.eval x)) : Sem Next).run C.P w)) := by
  refine R.pbd _ (path_evA hR ht x) fun v hv => ?_
  exact ⟨γ, _, w, rfl, hv, Step.refl hR⟩

theorem ok_pick (hR : Rel C base γ s w) (ht : TmpsRel γ nt t a.tmps) (x y z : Operand) (ty : TypeId) :
    (opPick x y z ty C t s).path (NxOk C base γ s w ((do pure (.value (if ← asBool (a.eval x) then a.eval y else a.eval z)) : Sem Next).run C.P w)) := by
  refine R.pbd _ (path_evA hR ht x) fun v hv => ?_
  cases v with
  | bool b =>
    simp only [conc, Option.some.injEq] at hv
    cases b
    · refine R.pbd _ (path_evA hR ht z) fun v' hv' => ?_
      exact ⟨γ, _, w, by rw [← hv]; simp [asBool], hv', Step.refl hR⟩
    · refine R.pbd _ (path_evA hR ht y) fun v' hv' => ?_
      exact ⟨γ, _, w, by rw [← hv]; simp [asBool], hv', Step.refl hR⟩
  | _ => trivial

/-! reading cells -/
theorem cell_at {k : Nat} {vs : Array Value} {e : TypeId} {fr : Nat × Nat} {w : World} (h : w.heap[k]? = some (.cells vs e fr)) (i : Nat) :
    w.cell? ⟨k, i, none⟩ = vs[i]? := by
  simp [World.cell?, h]

theorem path_getCells {cs : Tr AV} {n dl : Nat} {vs : Array Value} (h : ∀ i v, i < n → cs.get i = some v → ∃ c, vs[dl + i]? = some c ∧ VR γ v c) :
    ∀ (k off : Nat), off + k ≤ n → (getCells cs k off).path (fun l => ∃ r, concL γ l = some r ∧ l.length = k ∧ ∀ j v, r[j]? = some v → vs[dl + off + j]? = some v)
  | 0, off, _ => ⟨[], by simp [concL], rfl, by simp⟩
  | k + 1, off, hk => by
    show (match cs.get off with | some v => (do let v ← noJunk v; let l ← getCells cs k (Nat.add off 1); R.ok (v :: l)) | none => R.bad _).path _
    cases hg : cs.get off with
    | none => trivial
    | some v =>
      obtain ⟨c, hc, hv⟩ := h off v (by omega) hg
      refine R.pbd _ (path_noJunk v) fun x hx => ?_
      obtain ⟨rfl, hj⟩ := hx
      refine R.pbd _ (path_getCells h k (off + 1) (by omega)) fun l hl => ?_
      obtain ⟨r, h1, h2, h3⟩ := hl
      refine ⟨c :: r, concL_cons.2 ⟨c, r, hv.resolve_left hj, h1, rfl⟩, by simp [h2], fun j v hjv => ?_⟩
      cases j with
      | zero => simp at hjv; subst hjv; simpa using hc
      | succ j =>
        have := h3 j v (by simpa using hjv)
        rw [show dl + off + (j + 1) = dl + (off + 1) + j by omega]; exact this

theorem path_rdCells (hR : Rel C base γ s w) (b off k : Nat) :
    (rdCells s b off k).path (fun l => ∃ lc r, γ b = some lc ∧ concL γ l = some r ∧ l.length = k ∧ ∀ j v, r[j]? = some v → w.cell? ⟨lc.blk, lc.dl + off + j, none⟩ = some v) := by
  unfold rdCells
  cases hb : s.h.get b with
  | none => trivial
  | some x =>
    cases x with
    | cells e cs n fz anc st sg =>
      obtain ⟨lc, o, hl, ho, vs, lo, hi, rfl, h1, h2, h3, h4⟩ := hR.blk b _ hb
      simp only
      cases hle : Nat.ble (Nat.add off k) n with
      | false => trivial
      | true =>
        have hle' : off + k ≤ n := by simpa using Nat.le_of_ble_eq_true hle
        refine R.path_mono ?_ (path_getCells h2 k off hle')
        rintro l ⟨r, g1, g2, g3⟩
        exact ⟨lc, r, hl, g1, g2, fun j v hjv => by rw [cell_at ho]; exact g3 j v hjv⟩
    | _ => trivial

theorem addr_add (b o n : Nat) : Addr.add ⟨b, o, none⟩ n = ⟨b, o + n, none⟩ := by
  unfold Addr.add; split
  · next h => subst h; rfl
  · rfl

theorem run_loadCells' {P : Program} {blk o : Nat} {r : List Value} {w : World} (h : ∀ j v, r[j]? = some v → w.cell? ⟨blk, o + j, none⟩ = some v) (k : Nat) (hk : r.length = k) :
    (loadCells ⟨blk, o, none⟩ k).run P w = .ok ⟨r⟩ w := by
  subst hk
  have := run_loadCells_list (P := P) w ⟨blk, o, none⟩ r (fun j v hj => by rw [addr_add]; exact h j v hj)
  simpa using this

theorem ofCells_path (b : Bool) (l : List AV) : (ofCells b l).path (fun v => (b = true ∧ v = .agg l) ∨ (b = false ∧ l = [v])) := by
  cases b
  · cases l with
    | nil => trivial
    | cons x l => cases l with
      | nil => exact .inr ⟨rfl, rfl⟩
      | cons y l => trivial
  · exact .inl ⟨rfl, rfl⟩

theorem path_loadAt (hC : Good C) (hR : Rel C base γ s w) (ty : TypeId) (p : AV) :
    (loadAt C s ty p).path (fun v => ∃ b off lc c, p = .ptr b off ∧ γ b = some lc ∧ conc γ v = some c ∧ (loadVar ty ⟨lc.blk, lc.dl + off, none⟩).run C.P w = .ok c w) := by
  cases p with
  | ptr b off =>
    unfold loadAt
    refine R.pbd _ (path_ti hC ty) fun i hi => ?_
    obtain ⟨hi, hT⟩ := hi
    refine R.pbd _ (path_rdCells hR b off _) fun l hl => ?_
    obtain ⟨lc, r, h1, h2, h3, h4⟩ := hl
    refine R.path_mono ?_ (ofCells_path i.agg l)
    intro v hv
    refine ⟨b, off, lc, ?_⟩
    rcases hv with ⟨ha, rfl⟩ | ⟨ha, rfl⟩
    · refine ⟨.agg ⟨r⟩, rfl, h1, by simp [conc, h2], ?_⟩
      simp only [loadVar, Sem.run_bind, hT.agg w, Result.andThen_ok, ha, if_true, hT.size w]
      rw [run_loadCells' h4 _ (by rw [concL_len h2, h3, ha])]
      rfl
    · obtain ⟨c, r', hc, hr', rfl⟩ := concL_cons.1 h2
      simp only [concL, Option.some.injEq] at hr'
      subst hr'
      refine ⟨c, rfl, h1, hc, ?_⟩
      have h0 := h4 0 c (by simp)
      simp only [Nat.add_zero] at h0
      simp only [loadVar, Sem.run_bind, hT.agg w, Result.andThen_ok, ha]
      simp [h0]
  | _ => trivial

end
end Go.Proofs.YtabknehmohoemaaGreatDoor.Abs

namespace Go.Proofs.YtabknehmohoemaaGreatDoor.Abs
open Go

section
variable {C : Ctx} {base : Nat} {γ : G} {s : S} {w : World} {nt : Nat} {t : Tr AV} {a : Act}

/-- what an integer operation gives -/
theorem intOp_run (op : BinOp) (hop : isShift op = false) (k : IntKind) (x y : Int) (ty : TypeId) (P : Program) (w : World) :
    (intOp op k x y).path (fun v => ∃ c, conc γ v = some c ∧ (binOp op ty (.int k x) (.int k y)).run P w = .ok c w) := by
  cases op <;> first | (cases hop; done) | skip
  case quo =>
    show (match decide (y = 0) with | true => R.bad _ | false => R.ok (AV.int k (k.wrap (x.tdiv y)))).path _
    cases h : decide (y = 0)
    · exact ⟨_, rfl, by simp [binOp, Op.intDiv, of_decide_eq_false h]⟩
    · trivial
  case rem =>
    show (match decide (y = 0) with | true => R.bad _ | false => R.ok (AV.int k (x.tmod y))).path _
    cases h : decide (y = 0)
    · exact ⟨_, rfl, by simp [binOp, Op.intDiv, of_decide_eq_false h]⟩
    · trivial
  all_goals first
    | (refine ⟨_, rfl, ?_⟩; simp [binOp, Op.intArith]; done)
    | (refine ⟨_, rfl, ?_⟩; simp only [binOp, ne_eq, not_true_eq_false, if_false]; rfl)
    | (refine ⟨_, rfl, ?_⟩; simp [binOp, Op.intCmp]; done)
    | trivial

theorem shiftOp_run (op : BinOp) (hop : isShift op = true) (k k' : IntKind) (x y : Int) (ty : TypeId) (P : Program) (w : World) :
    (shiftOp op k x y).path (fun v => ∃ c, conc γ v = some c ∧ (binOp op ty (.int k x) (.int k' y)).run P w = .ok c w) := by
  unfold shiftOp
  cases h : decide (y < 0)
  · have h' := of_decide_eq_false h
    cases op <;> simp only [isShift, Bool.false_eq_true] at hop
    · exact ⟨_, rfl, by simp [binOp, Op.shift, h']⟩
    · exact ⟨_, rfl, by simp [binOp, Op.shift, h']⟩
  · trivial

theorem bytesEq_iff : ∀ (x y : List UInt8), bytesEq x y = true ↔ x = y
  | [], [] => by simp [bytesEq]
  | [], _ :: _ => by simp [bytesEq]
  | _ :: _, [] => by simp [bytesEq]
  | a :: x, b :: y => by
    simp only [bytesEq]
    cases h : Nat.beq a.toNat b.toNat
    · simp only [Bool.false_eq_true, List.cons.injEq, false_iff]
      rintro ⟨rfl, _⟩
      simp at h
    · have : a.toNat = b.toNat := Nat.eq_of_beq_eq_true h
      have hab : a = b := UInt8.toNat_inj.1 this
      simp only [hab, List.cons.injEq, true_and]
      exact bytesEq_iff x y
theorem bytesEq_beq (x y : List UInt8) : bytesEq x y = (x == y) := by
  rw [Bool.eq_iff_iff, bytesEq_iff]; simp
theorem bytesLt_eq : ∀ (x y : List UInt8), bytesLt x y = Op.bytesLess x y
  | x, [] => by cases x <;> simp [bytesLt, Op.bytesLess]
  | [], _ :: _ => by simp [bytesLt, Op.bytesLess]
  | a :: x, b :: y => by
    simp only [bytesLt, Op.bytesLess]
    have e1 : Nat.blt a.toNat b.toNat = decide (a < b) := by
      rw [Bool.eq_iff_iff, Nat.blt_eq]; simp [UInt8.lt_iff_toNat_lt]
    have e2 : Nat.beq a.toNat b.toNat = (a == b) := by
      rw [Bool.eq_iff_iff]
      constructor
      · intro h; have := Nat.eq_of_beq_eq_true h; simpa using UInt8.toNat_inj.1 this
      · intro h; have : a = b := by simpa using h
        subst this; simp
    rw [e1, e2, bytesLt_eq x y]
    cases decide (a < b) <;> cases (a == b) <;> simp

theorem ba_toList (l : List UInt8) : (ByteArray.mk ⟨l⟩).toList = l := by
  rw [ByteArray.toList_eq]
theorem ba_append (x y : List UInt8) : (ByteArray.mk ⟨x⟩ ++ ByteArray.mk ⟨y⟩) = ByteArray.mk ⟨x ++ y⟩ := by
  apply ByteArray.ext
  simp

theorem strOp_run (op : BinOp) (x y : List UInt8) (ty : TypeId) (P : Program) (w : World) :
    (strOp op x y).path (fun v => ∃ c, conc γ v = some c ∧ (binOp op ty (.string ⟨⟨x⟩⟩) (.string ⟨⟨y⟩⟩)).run P w = .ok c w) := by
  cases op <;> simp only [strOp]
  case add =>
    cases h : Nat.ble (Nat.add x.length y.length) 1099511627776
    · trivial
    · have h' : x.length + y.length ≤ 1099511627776 := Nat.le_of_ble_eq_true h
      refine ⟨_, rfl, ?_⟩
      have hs : ¬ (((ByteArray.mk ⟨x⟩).size + (ByteArray.mk ⟨y⟩).size : Nat) : Int) > IntKind.i64.max := by
        have : IntKind.i64.max = 9223372036854775807 := by decide
        rw [this]
        have e1 : (ByteArray.mk ⟨x⟩).size = x.length := rfl
        have e2 : (ByteArray.mk ⟨y⟩).size = y.length := rfl
        rw [e1, e2]; omega
      simp only [binOp, Op.stringOp, if_neg hs, ba_append]; rfl
  all_goals first
    | (refine ⟨_, rfl, ?_⟩; simp [binOp, Op.stringOp, bytesEq_beq, bytesLt_eq]; done)
    | trivial

end
end Go.Proofs.YtabknehmohoemaaGreatDoor.Abs

namespace Go.Proofs.YtabknehmohoemaaGreatDoor.Abs
open Go

section
variable {C : Ctx} {base : Nat} {γ : G} {s : S} {w : World} {nt : Nat} {t : Tr AV} {a : Act}

theorem sameAddr_same (P : Program) (b i j : Nat) (w : World) : (sameAddr ⟨b, i, none⟩ ⟨b, j, none⟩).run P w = .ok (Nat.beq i j) w := by
  have h : (({ block := b, off := i, spot := none } : Addr) == ⟨b, j, none⟩) = Nat.beq i j := by
    rw [Bool.eq_iff_iff]
    constructor
    · intro h; have := of_decide_eq_true h; simp at this; subst this; simp
    · intro h; have := Nat.eq_of_beq_eq_true h; subst this; simp
  simp [sameAddr, h]

theorem path_partOf (hC : Good C) (ty : TypeId) (l : List AV) (off : Nat) (r : List Value) (hr : concL γ l = some r) :
    (partOf C ty l off).path (fun v => ∃ c, conc γ v = some c ∧ (part ty ⟨r⟩ off).run C.P w = .ok c w) := by
  unfold partOf
  refine R.pbd _ (path_ti hC ty) fun i hi => ?_
  obtain ⟨_, hT⟩ := hi
  show (match i.agg with | true => R.ok (AV.agg ((l.drop off).take i.size)) | false => R.ofOpt "part" (nth l off)).path _
  cases ha : i.agg
  · refine R.path_mono ?_ (R.path_ofOpt _ _)
    intro v hv
    rw [nth_eq] at hv
    obtain ⟨c, hc, hrc⟩ := concL_get off v hr hv
    refine ⟨c, hc, ?_⟩
    simp [part, hT.agg w, ha, hrc]
  · refine ⟨.agg ⟨(r.drop off).take i.size⟩, by simp [conc, concL_take _ (concL_drop _ hr)], ?_⟩
    simp only [part, Sem.run_bind, hT.agg w, ha, Result.andThen_ok, if_true, hT.size w, Sem.run_pure]
    congr 2
    apply Array.ext'
    simp [List.extract]

theorem eqFields_run (hC : Good C) {n : Nat} {eq : TypeId → AV → AV → R Bool} (heq : ∀ (ty : TypeId) (x y : AV) (cx cy : Value), conc γ x = some cx → conc γ y = some cy → (eq ty x y).path (fun b => (Op.equalIn n ty cx cy).run C.P w = .ok b w))
    {a b : List AV} {ca cb : List Value} (ha : concL γ a = some ca) (hb : concL γ b = some cb) : ∀ fs : List Field, (eqFields C eq a b fs).path (fun r => (Op.eqFields n ⟨ca⟩ ⟨cb⟩ fs).run C.P w = .ok r w)
  | [] => rfl
  | f :: fs => by
    have ih := eqFields_run hC heq ha hb fs
    show (match f.name == "_" with
      | true => eqFields C eq a b fs
      | false => (do
        let u ← partOf C f.type a f.offset
        let v ← partOf C f.type b f.offset
        let r ← eq f.type u v
        match r with
        | true => eqFields C eq a b fs
        | false => R.ok false)).path _
    cases hn : f.name == "_" with
    | true =>
      have hn' : ¬ (f.name ≠ "_") := by simpa using hn
      refine R.path_mono ?_ ih
      intro r hr
      simp only [Op.eqFields, if_neg hn', hr]
    | false =>
      have hn' : f.name ≠ "_" := by simpa using hn
      simp only
      refine R.pbd _ (path_partOf (w := w) hC f.type a f.offset ca ha) fun u hu => ?_
      obtain ⟨cu, hcu, hru⟩ := hu
      refine R.pbd _ (path_partOf (w := w) hC f.type b f.offset cb hb) fun v hv => ?_
      obtain ⟨cv, hcv, hrv⟩ := hv
      refine R.pbd _ (heq f.type u v cu cv hcu hcv) fun r hr => ?_
      cases r with
      | true =>
        refine R.path_mono ?_ ih
        intro r' hr'
        simp only [Op.eqFields, if_pos hn', Sem.run_bind, hru, hrv, hr, Result.andThen_ok, Bool.not_true, Bool.false_eq_true, if_false, hr']
      | false =>
        show (Op.eqFields n ⟨ca⟩ ⟨cb⟩ (f :: fs)).run C.P w = .ok false w
        simp only [Op.eqFields, if_pos hn', Sem.run_bind, hru, hrv, hr, Result.andThen_ok, Bool.not_false, if_true, Sem.run_pure]

/-- an address that is plain is not frozen -/
theorem plain_open {C : Ctx} {base : Nat} {γ : G} {s : S} {w : World} (hR : Rel C base γ s w) {b i : Nat} {l : Loc} (hl : γ b = some l) (hp : plainAt s b i = true) :
    ∃ (vs : Array Value) (t : TypeId) (fr : Nat × Nat), w.heap[l.blk]? = some (.cells vs t fr) ∧ w.frozen? ⟨l.blk, l.dl + i, none⟩ = false ∧ w.frozen? ⟨l.blk, vs.size, none⟩ = false ∧
      ∃ blk, s.h.get b = some blk ∧ isStale blk = false := by
  unfold plainAt at hp
  cases hb : s.h.get b with
  | none => rw [hb] at hp; cases hp
  | some blk =>
    rw [hb] at hp
    cases blk with
    | cells elem cs n fz anc st sg =>
      simp only [Bool.and_eq_true, Bool.not_eq_true', Nat.ble_eq] at hp
      obtain ⟨⟨⟨h1, h2⟩, h3⟩, h4⟩ := hp
      obtain ⟨l', o, hl', ho, hrel⟩ := hR.blk b _ hb
      rw [hl] at hl'; obtain rfl := Option.some.inj hl'
      obtain ⟨vs, lo, hi, rfl, hn, -, -, hf, -⟩ := hrel
      have hfz := hf h1
      refine ⟨vs, elem, (lo, hi), ho, ?_, ?_, _, rfl, h1⟩
      · simp only [World.frozen?, ho]
        rw [Bool.eq_false_iff]
        intro hc
        simp only [Bool.and_eq_true, decide_eq_true_eq] at hc
        rcases hfz _ hc.1 hc.2 with h | h
        · omega
        · rw [h4] at h; cases h.1
      · simp only [World.frozen?, ho]
        rw [Bool.eq_false_iff]
        intro hc
        simp only [Bool.and_eq_true, decide_eq_true_eq] at hc
        rcases hfz _ hc.1 hc.2 with h | h
        · omega
        · rw [h4] at h; cases h.1
    | _ => cases hp
/-- two plain addresses of two blocks are not one -/
theorem sameAddr_apart {C : Ctx} {base : Nat} {γ : G} {s : S} {w : World} (hR : Rel C base γ s w) {b b' i j : Nat} {l l' : Loc} (hne : b ≠ b') (hl : γ b = some l) (hl' : γ b' = some l')
    (hp : plainAt s b i = true) (hp' : plainAt s b' j = true) : (sameAddr ⟨l.blk, l.dl + i, none⟩ ⟨l'.blk, l'.dl + j, none⟩).run C.P w = .ok false w := by
  obtain ⟨vs, t, fr, h1, h2, h3, k, hk, hs⟩ := plain_open hR hl hp
  obtain ⟨vs', t', fr', h1', h2', h3', k', hk', hs'⟩ := plain_open hR hl' hp'
  have hbl : l.blk ≠ l'.blk := by
    intro he
    rcases hR.sep b b' k k' l l' hk hk' hl hl' hne he with h | h
    · revert h; cases k <;> cases k' <;> simp_all [AncOf, isStale]
    · revert h; cases k <;> cases k' <;> simp_all [AncOf, isStale]
  simp [sameAddr, hbl, h1, h1', h2, h2', h3, h3', noView, viewAt, World.shape?, mayBeOne, stringish]
theorem eqIn_run (hC : Good C) {base : Nat} {s : S} (hR : Rel C base γ s w) : ∀ (d n : Nat), d ≤ n → ∀ (ty : TypeId) (x y : AV) (cx cy : Value), conc γ x = some cx → conc γ y = some cy →
    (eqIn C s d ty x y).path (fun b => (Op.equalIn n ty cx cy).run C.P w = .ok b w)
  | 0, _, _, _, _, _, _, _, _, _ => trivial
  | d + 1, 0, h, _, _, _, _, _, _, _ => absurd h (by omega)
  | d + 1, n + 1, h, ty, x, y, cx, cy, hx, hy => by
    unfold eqIn
    refine R.pbd _ (path_under hC ty) fun dsc hd => ?_
    have hrun : ∀ (f : TypeDesc → Sem Bool), ((underlying ty) >>= f).run C.P w = (f dsc).run C.P w := by
      intro f; rw [Sem.run_bind, run_und hd]; rfl
    cases dsc with
    | bool =>
      cases x <;> cases y <;> first | trivial | skip
      simp only [conc, Option.some.injEq] at hx hy; subst hx; subst hy
      show Sem.run C.P _ w = _
      rw [Op.equalIn, hrun]; rfl
    | int k0 =>
      cases x <;> cases y <;> first | trivial | skip
      rename_i k m k' m'
      simp only [conc, Option.some.injEq] at hx hy; subst hx; subst hy
      show (match decide (k = k') with | true => R.ok (decide (m = m')) | false => R.bad _).path _
      cases hk : decide (k = k')
      · trivial
      · have hk' := of_decide_eq_true hk
        show Sem.run C.P _ w = _
        rw [Op.equalIn, hrun]; simp only [hk', if_true]; rfl
    | string =>
      cases x <;> cases y <;> first | trivial | skip
      simp only [conc, Option.some.injEq] at hx hy; subst hx; subst hy
      rename_i l l'
      show Sem.run C.P _ w = _
      rw [Op.equalIn, hrun, bytesEq_beq]
      have : ((ByteArray.mk ⟨l⟩) == (ByteArray.mk ⟨l'⟩)) = (l == l') := by
        rw [beq_toListBytes, ba_toList, ba_toList]
      simp [this]
    | pointer e =>
      cases x <;> cases y <;> first | trivial | skip
      · rename_i b i b' j
        refine R.pbd _ (path_ti hC e) fun i' hi => ?_
        refine R.pbd _ (R.path_guard _ _) fun _ hg => ?_
        simp only [Bool.not_eq_true'] at hg
        have hsz : i'.size ≠ 0 := by intro h; rw [h] at hg; exact absurd hg (by simp)
        simp only [conc, Option.map_eq_some_iff] at hx hy
        obtain ⟨l, hl, rfl⟩ := hx
        obtain ⟨l', hl', rfl⟩ := hy
        show (match Nat.beq b b' with | true => R.ok (Nat.beq i j) | false => R.bind (guardB (plainAt s b i && plainAt s b' j) _) _).path _
        cases hbb : Nat.beq b b'
        · refine R.pbd _ (R.path_guard _ _) fun _ hp => ?_
          simp only [Bool.and_eq_true] at hp
          have hne : b ≠ b' := by rintro rfl; simp at hbb
          show Sem.run C.P _ w = _
          rw [Op.equalIn, hrun]
          simp only [Sem.run_bind, hi.2.size w, Result.andThen_ok, ne_eq, hsz, not_false_eq_true, if_true]
          exact sameAddr_apart hR hne hl hl' hp.1 hp.2
        · have hb : b = b' := Nat.eq_of_beq_eq_true hbb
          subst hb
          rw [hl] at hl'; obtain rfl := Option.some.inj hl'
          show Sem.run C.P _ w = _
          rw [Op.equalIn, hrun]
          simp only [Sem.run_bind, hi.2.size w, Result.andThen_ok, ne_eq, hsz, not_false_eq_true, if_true]
          rw [sameAddr_same]
          have : Nat.beq (l.dl + i) (l.dl + j) = Nat.beq i j := by
            rw [Bool.eq_iff_iff]; simp
          rw [this]
      · simp only [conc, Option.map_eq_some_iff, Option.some.injEq] at hx hy
        obtain ⟨l, hl, rfl⟩ := hx; subst hy
        show Sem.run C.P _ w = _
        rw [Op.equalIn, hrun]; rfl
      · simp only [conc, Option.map_eq_some_iff, Option.some.injEq] at hx hy
        obtain ⟨l, hl, rfl⟩ := hy; subst hx
        show Sem.run C.P _ w = _
        rw [Op.equalIn, hrun]; rfl
      · simp only [conc, Option.some.injEq] at hx hy; subst hx; subst hy
        show Sem.run C.P _ w = _
        rw [Op.equalIn, hrun]; rfl
    | interface ms =>
      cases x <;> cases y <;> first | trivial | skip
      · rename_i tx vx tyy vy
        simp only [conc, Option.map_eq_some_iff] at hx hy
        obtain ⟨ux, hux, rfl⟩ := hx
        obtain ⟨uy, huy, rfl⟩ := hy
        show (match Nat.beq tx tyy with | false => R.ok false | true => _).path _
        cases hb : Nat.beq tx tyy
        · have hne : tx ≠ tyy := by rintro rfl; simp at hb
          show Sem.run C.P _ w = _
          rw [Op.equalIn, hrun]; simp [hne]
        · have he : tx = tyy := Nat.eq_of_beq_eq_true hb
          subst he
          show (match C.P.types[tx]? with | some i => (match i.comparable with | true => eqIn C s d tx vx vy | false => R.bad _) | none => R.bad _).path _
          cases ht : C.P.types[tx]? with
          | none => trivial
          | some i =>
            have hlt : tx < C.P.types.size := by
              rcases Nat.lt_or_ge tx C.P.types.size with h | h
              · exact h
              · rw [Array.getElem?_eq_none h] at ht; cases ht
            have hinfo : C.P.info? tx = some i := by
              show Tables.info? _ tx = _
              unfold Tables.info?
              rw [if_pos hlt]; exact ht
            show (match i.comparable with | true => eqIn C s d tx vx vy | false => R.bad _).path _
            cases hc : i.comparable
            · trivial
            · refine R.path_mono ?_ (eqIn_run hC hR d n (by omega) tx vx vy ux uy hux huy)
              intro b hb'
              rw [Op.equalIn, hrun]
              simp [typeInfo, hinfo, hc, hb']
      · simp only [conc, Option.map_eq_some_iff, Option.some.injEq] at hx hy
        obtain ⟨l, hl, rfl⟩ := hx; subst hy
        show Sem.run C.P _ w = _
        rw [Op.equalIn, hrun]; rfl
      · simp only [conc, Option.map_eq_some_iff, Option.some.injEq] at hx hy
        obtain ⟨l, hl, rfl⟩ := hy; subst hx
        show Sem.run C.P _ w = _
        rw [Op.equalIn, hrun]; rfl
      · simp only [conc, Option.some.injEq] at hx hy; subst hx; subst hy
        show Sem.run C.P _ w = _
        rw [Op.equalIn, hrun]; rfl
    | slice e =>
      cases x <;> cases y <;> first | trivial | skip
      all_goals (
        simp only [conc, Option.map_eq_some_iff, Option.some.injEq] at hx hy
        first
          | (obtain ⟨l, hl, rfl⟩ := hx; subst hy; show Sem.run C.P _ w = _; rw [Op.equalIn, hrun]; rfl)
          | (obtain ⟨l, hl, rfl⟩ := hy; subst hx; show Sem.run C.P _ w = _; rw [Op.equalIn, hrun]; rfl)
          | (subst hx; subst hy; show Sem.run C.P _ w = _; rw [Op.equalIn, hrun]; rfl))
    | map k e =>
      cases x <;> cases y <;> first | trivial | skip
      all_goals (
        simp only [conc, Option.map_eq_some_iff, Option.some.injEq] at hx hy
        first
          | (obtain ⟨l, hl, rfl⟩ := hx; subst hy; show Sem.run C.P _ w = _; rw [Op.equalIn, hrun]; rfl)
          | (obtain ⟨l, hl, rfl⟩ := hy; subst hx; show Sem.run C.P _ w = _; rw [Op.equalIn, hrun]; rfl)
          | (subst hx; subst hy; show Sem.run C.P _ w = _; rw [Op.equalIn, hrun]; rfl))
    | struct fs =>
      cases x <;> cases y <;> first | trivial | skip
      rename_i la lb
      simp only [conc, Option.map_eq_some_iff] at hx hy
      obtain ⟨ca, hca, rfl⟩ := hx
      obtain ⟨cb, hcb, rfl⟩ := hy
      refine R.pbd _ (R.path_guard _ _) fun _ hg => ?_
      have hst : C.P.stoodInHeld ty = false := by simpa using hg
      refine R.path_mono ?_ (eqFields_run (w := w) hC (fun ty x y cx cy h1 h2 => eqIn_run hC hR d n (by omega) ty x y cx cy h1 h2) hca hcb fs.toList)
      intro r hr
      have hf : C.P.fieldsOf ty = fs := by simp [Program.fieldsOf, hd]
      rw [run_equalIn_struct w n ty ⟨ca⟩ ⟨cb⟩ (by rw [hf]; exact hd) hst, hf]
      exact hr
    | func ps rs v =>
      cases x <;> cases y <;> first | trivial | skip
      · rename_i f l1 l2
        simp only [conc, Option.some.injEq] at hx hy
        subst hy
        cases hn : noYield f <;> cases h1 : concL γ l1 <;> cases h2 : concL γ l2 <;> simp only [hn, h1, h2, reduceCtorEq, Option.some.injEq] at hx
        subst hx
        show Sem.run C.P _ w = _
        rw [Op.equalIn, hrun]; rfl
      · rename_i f l1 l2
        simp only [conc, Option.some.injEq] at hx hy
        subst hx
        cases hn : noYield f <;> cases h1 : concL γ l1 <;> cases h2 : concL γ l2 <;> simp only [hn, h1, h2, reduceCtorEq, Option.some.injEq] at hy
        subst hy
        show Sem.run C.P _ w = _
        rw [Op.equalIn, hrun]; rfl
      · simp only [conc, Option.some.injEq] at hx hy; subst hx; subst hy
        show Sem.run C.P _ w = _
        rw [Op.equalIn, hrun]; rfl
    | _ => trivial

theorem conc_nilIface {γ : G} {x : AV} (h : conc γ x = some .nilIface) : x = .nili ∨ (∃ v, x = .raw v) ∨ ∃ k i, x = .opq k i := by
  cases x <;> simp only [conc, Option.map_eq_some_iff, Option.some.injEq, reduceCtorEq, and_false, exists_false] at h
  · rename_i f l1 l2
    cases hn : noYield f <;> cases h1 : concL γ l1 <;> cases h2 : concL γ l2 <;> simp [hn, h1, h2] at h
  · exact .inl rfl
  · exact .inr (.inl ⟨_, rfl⟩)
  · exact .inr (.inr ⟨_, _, rfl⟩)
theorem conc_agg {γ : G} {x : AV} {cs : Array Value} (h : conc γ x = some (.agg cs)) : (∃ l, x = .agg l ∧ concL γ l = some cs.toList) ∨ ∃ v, x = .raw v := by
  cases x <;> simp only [conc, Option.map_eq_some_iff, Option.some.injEq, reduceCtorEq, and_false, exists_false] at h
  · rename_i f l1 l2
    cases hn : noYield f <;> cases h1 : concL γ l1 <;> cases h2 : concL γ l2 <;> simp [hn, h1, h2] at h
  · obtain ⟨r, h1, h2⟩ := h
    cases h2
    exact .inl ⟨_, rfl, h1⟩
  · exact .inr ⟨_, rfl⟩
  · rename_i k i
    exact absurd (conc_opq (γ := γ) (k := k) (i := i) (by simpa [conc] using h)).1 (by simp [oneV])

/-- the guard lets it by -/
theorem eqGuard_run (op : BinOp) (ty : TypeId) (ox oy : Operand) (x y : AV) (cx cy : Value) (hx : conc γ x = some cx) (hy : conc γ y = some cy) :
    (eqGuardA C ty (isConstO ox || isConstO oy) x y).path (fun _ => (eqGuard op ty ox oy cx cy).run C.P w = .ok () w) := by
  have nn : ∀ {u v}, (∀ q, u ≠ .agg q) → (u = .nilIface → v ≠ .nilIface) → (eqGuard op ty ox oy u v).run C.P w = .ok () w := by
    intro u v h1 h2
    cases u <;> first | exact absurd rfl (h1 _) | skip
    case nilIface =>
      cases v <;> first | exact absurd rfl (h2 rfl) | skip
      all_goals (cases op <;> rfl)
    all_goals (cases op <;> rfl)
  have hgd : ∀ b why, b = true → (eqGuard op ty ox oy cx cy).run C.P w = .ok () w → (guardB b why).path (fun _ => (eqGuard op ty ox oy cx cy).run C.P w = .ok () w) := by
    intro b why hb h; subst hb; exact h
  have gen : (∀ v, x ≠ .raw v) → (∀ v, y ≠ .raw v) → (∀ k v, x ≠ .opq k v) → (∀ k v, y ≠ .opq k v) → (∀ l, x ≠ .agg l) → (x = .nili → y ≠ .nili) → (eqGuard op ty ox oy cx cy).run C.P w = .ok () w := by
    intro r1 r2 q1 q2 r3 r4
    refine nn (fun q hq => ?_) (fun h h' => ?_)
    · subst hq
      rcases conc_agg hx with ⟨l, h, _⟩ | ⟨v, h⟩
      · exact r3 l h
      · exact r1 v h
    · subst h; subst h'
      rcases conc_nilIface hx with h | ⟨v, h⟩ | ⟨k, v, h⟩
      · rcases conc_nilIface hy with h' | ⟨v, h'⟩ | ⟨k, v, h'⟩
        · exact r4 h h'
        · exact r2 v h'
        · exact q2 k v h'
      · exact r1 v h
      · exact q1 k v h
  cases x with
  | nili =>
    cases y with
    | nili =>
      show (guardB _ _).path _
      refine R.path_mono ?_ (R.path_guard _ _)
      intro _ hc
      simp only [conc, Option.some.injEq] at hx hy; subst hx; subst hy
      cases op <;> first | rfl | skip
      all_goals (cases ox <;> cases oy <;> first | rfl | (exfalso; simp [isConstO] at hc; done))
    | raw v =>
      exact R.path_bad _ _
    | opq k v => exact R.path_bad _ _
    | _ => exact gen (fun v => by intro h; cases h) (fun v => by intro h; cases h) (fun k v => by intro h; cases h) (fun k v => by intro h; cases h) (fun v => by intro h; cases h) (fun _ h => by cases h)
  | agg l =>
    show (guardB _ _).path _
    refine R.path_mono ?_ (R.path_guard _ _)
    intro _ hc
    simp only [conc, Option.map_eq_some_iff] at hx
    obtain ⟨r, hr, rfl⟩ := hx
    have hc' : C.P.eqGuardType C.P.depth ty = false := by simpa using hc
    cases op <;> first | rfl | skip
    all_goals (cases cy <;> first | rfl | (simp [eqGuard, hc']; done))
  | raw v => exact R.path_bad _ _
  | opq k v => exact R.path_bad _ _
  | _ =>
    cases y with
    | raw v => exact R.path_bad _ _
    | opq k v => exact R.path_bad _ _
    | _ => exact gen (fun v => by intro h; cases h) (fun v => by intro h; cases h) (fun k v => by intro h; cases h) (fun k v => by intro h; cases h) (fun v => by intro h; cases h) (fun h _ => by cases h)
end
end Go.Proofs.YtabknehmohoemaaGreatDoor.Abs

namespace Go.Proofs.YtabknehmohoemaaGreatDoor.Abs
open Go

section
variable {C : Ctx} {base : Nat} {γ : G} {s : S} {w : World} {nt : Nat} {t : Tr AV} {a : Act}

theorem binOp_eql_run {ty : TypeId} {x y : AV} {cx cy : Value} (hx : conc γ x = some cx) (hy : conc γ y = some cy) {b : Bool}
    (hi : ∀ k n k' m, x = .int k n → y = .int k' m → False) (hs : ∀ l l', x = .str l → y = .str l' → False) (hr : (∀ v, x ≠ .raw v) ∧ ∀ k i, x ≠ .opq k i) (hr' : (∀ v, y ≠ .raw v) ∧ ∀ k i, y ≠ .opq k i)
    (h : (Op.equal ty cx cy).run C.P w = .ok b w) :
    (binOp .eql ty cx cy).run C.P w = .ok (.bool b) w ∧ (binOp .neq ty cx cy).run C.P w = .ok (.bool (!b)) w := by
  have k1 : ∀ k n, cx = .int k n → ∃ k' n', x = .int k' n' := by
    intro k n e; subst e
    cases x <;> simp only [conc, Option.map_eq_some_iff, Option.some.injEq, reduceCtorEq, and_false, exists_false] at hx
    · exact ⟨_, _, rfl⟩
    · rename_i f l1 l2; cases hn : noYield f <;> cases h1 : concL γ l1 <;> cases h2 : concL γ l2 <;> simp [hn, h1, h2] at hx
    · exact absurd rfl (hr.1 _)
    · exact absurd rfl (hr.2 _ _)
  have k2 : ∀ k n, cy = .int k n → ∃ k' n', y = .int k' n' := by
    intro k n e; subst e
    cases y <;> simp only [conc, Option.map_eq_some_iff, Option.some.injEq, reduceCtorEq, and_false, exists_false] at hy
    · exact ⟨_, _, rfl⟩
    · rename_i f l1 l2; cases hn : noYield f <;> cases h1 : concL γ l1 <;> cases h2 : concL γ l2 <;> simp [hn, h1, h2] at hy
    · exact absurd rfl (hr'.1 _)
    · exact absurd rfl (hr'.2 _ _)
  have k3 : ∀ l, cx = .string l → ∃ l', x = .str l' := by
    intro l e; subst e
    cases x <;> simp only [conc, Option.map_eq_some_iff, Option.some.injEq, reduceCtorEq, and_false, exists_false] at hx
    · exact ⟨_, rfl⟩
    · rename_i f l1 l2; cases hn : noYield f <;> cases h1 : concL γ l1 <;> cases h2 : concL γ l2 <;> simp [hn, h1, h2] at hx
    · exact absurd rfl (hr.1 _)
    · exact absurd rfl (hr.2 _ _)
  have k4 : ∀ l, cy = .string l → ∃ l', y = .str l' := by
    intro l e; subst e
    cases y <;> simp only [conc, Option.map_eq_some_iff, Option.some.injEq, reduceCtorEq, and_false, exists_false] at hy
    · exact ⟨_, rfl⟩
    · rename_i f l1 l2; cases hn : noYield f <;> cases h1 : concL γ l1 <;> cases h2 : concL γ l2 <;> simp [hn, h1, h2] at hy
    · exact absurd rfl (hr'.1 _)
    · exact absurd rfl (hr'.2 _ _)
  have k5 : (∀ k p q, cx ≠ .float k p ∨ cy ≠ .float k q) := by
    intro k p q
    left; rintro rfl
    cases x <;> simp only [conc, Option.map_eq_some_iff, Option.some.injEq, reduceCtorEq, and_false, exists_false] at hx
    · rename_i f l1 l2; cases hn : noYield f <;> cases h1 : concL γ l1 <;> cases h2 : concL γ l2 <;> simp [hn, h1, h2] at hx
    · exact absurd rfl (hr.1 _)
    · exact absurd rfl (hr.2 _ _)
  have k6 : (∀ k p q, cx ≠ .complex k p q) := by
    intro k p q
    rintro rfl
    cases x <;> simp only [conc, Option.map_eq_some_iff, Option.some.injEq, reduceCtorEq, and_false, exists_false] at hx
    · rename_i f l1 l2; cases hn : noYield f <;> cases h1 : concL γ l1 <;> cases h2 : concL γ l2 <;> simp [hn, h1, h2] at hx
    · exact absurd rfl (hr.1 _)
    · exact absurd rfl (hr.2 _ _)
  have k7 : (∀ k p, cx ≠ .float k p) := by
    intro k p
    rintro rfl
    cases x <;> simp only [conc, Option.map_eq_some_iff, Option.some.injEq, reduceCtorEq, and_false, exists_false] at hx
    · rename_i f l1 l2; cases hn : noYield f <;> cases h1 : concL γ l1 <;> cases h2 : concL γ l2 <;> simp [hn, h1, h2] at hx
    · exact absurd rfl (hr.1 _)
    · exact absurd rfl (hr.2 _ _)
  have fall1 : binOp .eql ty cx cy = (do pure (.bool (← Op.equal ty cx cy))) := by
    cases cx <;> cases cy <;> first
        | rfl
        | (exfalso; obtain ⟨_, _, rfl⟩ := k1 _ _ rfl; obtain ⟨_, _, rfl⟩ := k2 _ _ rfl; exact hi _ _ _ _ rfl rfl)
        | (exfalso; obtain ⟨_, rfl⟩ := k3 _ rfl; obtain ⟨_, rfl⟩ := k4 _ rfl; exact hs _ _ rfl rfl)
        | exact absurd rfl (k7 _ _)
        | exact absurd rfl (k6 _ _ _)
  have fall2 : binOp .neq ty cx cy = (do pure (.bool (!(← Op.equal ty cx cy)))) := by
    cases cx <;> cases cy <;> first
        | rfl
        | (exfalso; obtain ⟨_, _, rfl⟩ := k1 _ _ rfl; obtain ⟨_, _, rfl⟩ := k2 _ _ rfl; exact hi _ _ _ _ rfl rfl)
        | (exfalso; obtain ⟨_, rfl⟩ := k3 _ rfl; obtain ⟨_, rfl⟩ := k4 _ rfl; exact hs _ _ rfl rfl)
        | exact absurd rfl (k7 _ _)
        | exact absurd rfl (k6 _ _ _)
  constructor
  · rw [fall1]; simp [h]
  · rw [fall2]; simp [h]

theorem path_evBin0 (hC : Good C) (hR : Rel C base γ s w) (op : BinOp) (ty : TypeId) (ox oy : Operand) (x y : AV) (cx cy : Value) (hx : conc γ x = some cx) (hy : conc γ y = some cy) :
    (evBin0 C s op ty (isConstO ox || isConstO oy) x y).path (fun v => ∃ c, conc γ v = some c ∧ (do eqGuard op ty ox oy cx cy; binOp op ty cx cy : Sem Value).run C.P w = .ok c w) := by
  have gen : (∀ k n k' m, x = .int k n → y = .int k' m → False) → (∀ l l', x = .str l → y = .str l' → False) → ((∀ v, x ≠ .raw v) ∧ ∀ k i, x ≠ .opq k i) → ((∀ v, y ≠ .raw v) ∧ ∀ k i, y ≠ .opq k i) →
      (evEq C s op ty (isConstO ox || isConstO oy) x y).path (fun v => ∃ c, conc γ v = some c ∧ (do eqGuard op ty ox oy cx cy; binOp op ty cx cy : Sem Value).run C.P w = .ok c w) := by
    intro hi hs
    intro hr1 hr2
    cases op <;> first | trivial | skip
    case eql =>
      refine R.pbd _ (eqGuard_run (w := w) .eql ty ox oy x y cx cy hx hy) fun _ hg => ?_
      refine R.pbd _ (eqIn_run (w := w) hC hR 100 Op.maxDepth (by decide) ty x y cx cy hx hy) fun b hb => ?_
      exact ⟨_, rfl, by simp only [Sem.run_bind, hg, Result.andThen_ok]; exact (binOp_eql_run (C := C) (w := w) hx hy hi hs hr1 hr2 hb).1⟩
    case neq =>
      refine R.pbd _ (eqGuard_run (w := w) .neq ty ox oy x y cx cy hx hy) fun _ hg => ?_
      refine R.pbd _ (eqIn_run (w := w) hC hR 100 Op.maxDepth (by decide) ty x y cx cy hx hy) fun b hb => ?_
      exact ⟨_, rfl, by simp only [Sem.run_bind, hg, Result.andThen_ok]; exact (binOp_eql_run (C := C) (w := w) hx hy hi hs hr1 hr2 hb).2⟩
  by_cases hi : ∃ k n k' m, x = .int k n ∧ y = .int k' m
  · obtain ⟨k, n, k', m, rfl, rfl⟩ := hi
    simp only [conc, Option.some.injEq] at hx hy; subst hx; subst hy
    have hg : ∀ X : Sem Value, (do eqGuard op ty ox oy (.int k n) (.int k' m); X : Sem Value).run C.P w = X.run C.P w := by
      intro X; cases op <;> rfl
    simp only [hg]
    show (match isShift op with | true => shiftOp op k n m | false => (match decide (k = k') with | true => intOp op k n m | false => R.bad _)).path _
    cases hop : isShift op
    · cases hk : decide (k = k')
      · trivial
      · have := of_decide_eq_true hk
        subst this
        exact intOp_run op hop k n m ty C.P w
    · exact shiftOp_run op hop k k' n m ty C.P w
  · by_cases hs : ∃ l l', x = .str l ∧ y = .str l'
    · obtain ⟨l, l', rfl, rfl⟩ := hs
      simp only [conc, Option.some.injEq] at hx hy; subst hx; subst hy
      have hg : ∀ X : Sem Value, (do eqGuard op ty ox oy (.string ⟨⟨l⟩⟩) (.string ⟨⟨l'⟩⟩); X : Sem Value).run C.P w = X.run C.P w := by
        intro X; cases op <;> rfl
      simp only [hg]
      exact strOp_run op l l' ty C.P w
    · by_cases r1 : ∃ v, x = .raw v
      · obtain ⟨v, rfl⟩ := r1
        cases y <;> exact R.path_bad _ _
      · by_cases r2 : ∃ v, y = .raw v
        · obtain ⟨v, rfl⟩ := r2
          cases x <;> exact R.path_bad _ _
        · by_cases r3 : ∃ k v, x = .opq k v
          · obtain ⟨k, v, rfl⟩ := r3
            cases y <;> exact R.path_bad _ _
          · by_cases r4 : ∃ k v, y = .opq k v
            · obtain ⟨k, v, rfl⟩ := r4
              cases x <;> exact R.path_bad _ _
            · have g := gen (fun k n k' m h h' => hi ⟨k, n, k', m, h, h'⟩) (fun l l' h h' => hs ⟨l, l', h, h'⟩) ⟨fun v h => r1 ⟨v, h⟩, fun k v h => r3 ⟨k, v, h⟩⟩ ⟨fun v h => r2 ⟨v, h⟩, fun k v h => r4 ⟨k, v, h⟩⟩
              have e : evBin0 C s op ty (isConstO ox || isConstO oy) x y = evEq C s op ty (isConstO ox || isConstO oy) x y := by
                cases x <;> cases y <;> first
                  | rfl
                  | (cases op <;> rfl)
                  | exact absurd ⟨_, _, _, _, rfl, rfl⟩ hi
                  | exact absurd ⟨_, _, rfl, rfl⟩ hs
                  | exact absurd ⟨_, rfl⟩ r1
                  | exact absurd ⟨_, rfl⟩ r2
                  | exact absurd ⟨_, _, rfl⟩ r3
                  | exact absurd ⟨_, _, rfl⟩ r4
              rw [e]; exact g

theorem klHasI_mem {n : Int} : ∀ {l : List KL}, klHasI n l = true → KL.int n ∈ l
  | [], h => by cases h
  | x :: l, h => by
    unfold klHasI at h
    cases x with
    | int m =>
      simp only at h
      cases hd : decide (n = m) with
      | true => rw [of_decide_eq_true hd]; exact List.mem_cons_self
      | false => rw [hd] at h; exact List.mem_cons_of_mem _ (klHasI_mem h)
    | str _ => exact List.mem_cons_of_mem _ (klHasI_mem h)
theorem klHasS_mem {s : List UInt8} : ∀ {l : List KL}, klHasS s l = true → KL.str s ∈ l
  | [], h => by cases h
  | x :: l, h => by
    unfold klHasS at h
    cases x with
    | int m => exact List.mem_cons_of_mem _ (klHasS_mem h)
    | str t =>
      simp only at h
      cases hd : bytesEq s t with
      | true => rw [(bytesEq_iff s t).1 hd]; exact List.mem_cons_self
      | false => rw [hd] at h; exact List.mem_cons_of_mem _ (klHasS_mem h)
theorem string_eta (s : ByteArray) : s = ⟨⟨s.data.toList⟩⟩ := by cases s with | mk d => cases d; rfl
/-- a value that is not known, and a constant that it is not -/
theorem sym_ne {k : Know} {i : Nat} {y : AV} {cx cy : Value} (hx : conc γ (.opq k i) = some cx) (hy : conc γ y = some cy) (h : symNe k y = true) :
    (∃ n m, cx = .int .i64 n ∧ y = .int .i64 m ∧ n ≠ m) ∨ (∃ a l, cx = .string ⟨⟨a⟩⟩ ∧ y = .str l ∧ a ≠ l) := by
  obtain ⟨l, v, -, -, hf, h1, -⟩ := conc_see hx
  cases y with
  | int q n =>
    cases q <;> simp only [symNe, Bool.and_eq_true, Bool.not_eq_true', reduceCtorEq] at h
    obtain ⟨⟨g1, g2⟩, g3⟩ := h
    obtain rfl := h1 g2
    have hi := hf.2.1 g1
    cases cx with
    | int k' n' =>
      cases k' <;> first | cases hi | skip
      exact .inl ⟨n', n, rfl, rfl, fun e => hf.2.2.2.2 _ (klHasI_mem g3) .i64 (by rw [e])⟩
    | _ => cases hi
  | str s =>
    simp only [symNe, Bool.and_eq_true, Bool.not_eq_true'] at h
    obtain ⟨⟨g1, g2⟩, g3⟩ := h
    obtain rfl := h1 g2
    have hi := hf.2.2.1 g1
    cases cx with
    | string t => exact .inr ⟨t.data.toList, s, by rw [← string_eta], rfl, fun e => hf.2.2.2.2 _ (klHasS_mem g3) (by rw [string_eta t, e])⟩
    | _ => cases hi
  | _ => cases h
theorem sym_gt (k : Know) (i : Nat) (y : AV) (cx : Value) (hx : conc γ (.opq k i) = some cx) :
    (symGt k y).path (fun v => ∃ n m, cx = .int .i64 n ∧ y = .int .i64 m ∧ v = .bool (decide (m < n))) := by
  unfold symGt
  cases y with
  | int q n =>
    cases q <;> first | trivial | skip
    cases n with
    | negSucc _ => trivial
    | ofNat m =>
      simp only
      cases hs : k.str && k.len with
      | false => trivial
      | true =>
        simp only [Bool.and_eq_true] at hs
        obtain ⟨l, v, -, -, hf, -, h2⟩ := conc_see hx
        obtain ⟨s, rfl, rfl⟩ := h2 hs.2
        obtain ⟨q1, q2⟩ := hf.2.2.2.1 s rfl
        simp only
        cases hb : Nat.blt m k.lo with
        | true =>
          have hb' : m < k.lo := by simpa [Nat.blt_eq] using hb
          exact ⟨_, _, rfl, rfl, by rw [decide_eq_true]; simp only [Int.ofNat_eq_natCast]; omega⟩
        | false =>
          simp only
          cases hh : k.hi with
          | none => trivial
          | some h =>
            simp only
            cases hc : Nat.ble h m with
            | false => trivial
            | true =>
              have hc' : h ≤ m := Nat.le_of_ble_eq_true hc
              have := q2 h hh
              exact ⟨_, _, rfl, rfl, by rw [decide_eq_false]; simp only [Int.ofNat_eq_natCast]; omega⟩
  | _ => trivial
theorem path_evBin (hC : Good C) (hR : Rel C base γ s w) (op : BinOp) (ty : TypeId) (ox oy : Operand) (x y : AV) (cx cy : Value) (hx : conc γ x = some cx) (hy : conc γ y = some cy) :
    (evBin C s op ty (isConstO ox || isConstO oy) x y).path (fun v => ∃ c, conc γ v = some c ∧ (do eqGuard op ty ox oy cx cy; binOp op ty cx cy : Sem Value).run C.P w = .ok c w) := by
  have ints : ∀ (op : BinOp) (n m : Int) (b : Bool), isShift op = false → intOp op .i64 n m = .ok (.bool b) → cx = .int .i64 n → cy = .int .i64 m →
      ∃ c, conc γ (.bool b) = some c ∧ (do eqGuard op ty ox oy cx cy; binOp op ty cx cy : Sem Value).run C.P w = .ok c w := by
    intro op n m b ho h e1 e2
    subst e1; subst e2
    have := path_evBin0 (w := w) hC hR op ty ox oy (.int .i64 n) (.int .i64 m) _ _ rfl rfl
    have e : evBin0 C s op ty (isConstO ox || isConstO oy) (.int .i64 n) (.int .i64 m) = .ok (.bool b) := by
      simp [evBin0, ho, h]
    rw [e] at this
    exact this
  have strs : ∀ (op : BinOp) (a l : List UInt8) (b : Bool), strOp op a l = .ok (.bool b) → cx = .string ⟨⟨a⟩⟩ → cy = .string ⟨⟨l⟩⟩ →
      ∃ c, conc γ (.bool b) = some c ∧ (do eqGuard op ty ox oy cx cy; binOp op ty cx cy : Sem Value).run C.P w = .ok c w := by
    intro op a l b h e1 e2
    subst e1; subst e2
    have := path_evBin0 (w := w) hC hR op ty ox oy (.str a) (.str l) _ _ rfl rfl
    have e : evBin0 C s op ty (isConstO ox || isConstO oy) (.str a) (.str l) = .ok (.bool b) := h
    rw [e] at this
    exact this
  have beq : ∀ {a l : List UInt8}, a ≠ l → bytesEq a l = false := fun {a l} h => by
    cases hb : bytesEq a l with
    | false => rfl
    | true => exact absurd ((bytesEq_iff a l).1 hb) h
  have left : ∀ (k : Know) (i : Nat), x = .opq k i → (evSym op k y).path (fun v => ∃ c, conc γ v = some c ∧ (do eqGuard op ty ox oy cx cy; binOp op ty cx cy : Sem Value).run C.P w = .ok c w) := by
    rintro k i rfl
    cases op <;> first | trivial | skip
    case eql =>
      show (match symNe k y with | true => R.ok (AV.bool false) | false => R.bad "bin: opaque").path _
      cases hs : symNe k y with
      | false => trivial
      | true =>
        rcases sym_ne hx hy hs with ⟨n, m, e1, e2, hne⟩ | ⟨a, l, e1, e2, hne⟩ <;> subst e2 <;> simp only [conc, Option.some.injEq] at hy
        · exact ints .eql n m false rfl (by simp [intOp, hne]) e1 hy.symm
        · exact strs .eql a l false (by simp [strOp, beq hne]) e1 hy.symm
    case neq =>
      show (match symNe k y with | true => R.ok (AV.bool true) | false => R.bad "bin: opaque").path _
      cases hs : symNe k y with
      | false => trivial
      | true =>
        rcases sym_ne hx hy hs with ⟨n, m, e1, e2, hne⟩ | ⟨a, l, e1, e2, hne⟩ <;> subst e2 <;> simp only [conc, Option.some.injEq] at hy
        · exact ints .neq n m true rfl (by simp [intOp, hne]) e1 hy.symm
        · exact strs .neq a l true (by simp [strOp, beq hne]) e1 hy.symm
    case gtr =>
      refine R.path_mono ?_ (sym_gt k i y cx hx)
      rintro v ⟨n, m, e1, e2, rfl⟩
      subst e2
      simp only [conc, Option.some.injEq] at hy
      exact ints .gtr n m _ rfl rfl e1 hy.symm
  have right : ∀ (k : Know) (i : Nat), y = .opq k i → (evSymR op k x).path (fun v => ∃ c, conc γ v = some c ∧ (do eqGuard op ty ox oy cx cy; binOp op ty cx cy : Sem Value).run C.P w = .ok c w) := by
    rintro k i rfl
    cases op <;> first | trivial | skip
    case eql =>
      show (match symNe k x with | true => R.ok (AV.bool false) | false => R.bad "bin: opaque").path _
      cases hs : symNe k x with
      | false => trivial
      | true =>
        rcases sym_ne hy hx hs with ⟨n, m, e1, e2, hne⟩ | ⟨a, l, e1, e2, hne⟩ <;> subst e2 <;> simp only [conc, Option.some.injEq] at hx
        · exact ints .eql m n false rfl (by simp [intOp, Ne.symm hne]) hx.symm e1
        · exact strs .eql l a false (by simp [strOp, beq (Ne.symm hne)]) hx.symm e1
    case neq =>
      show (match symNe k x with | true => R.ok (AV.bool true) | false => R.bad "bin: opaque").path _
      cases hs : symNe k x with
      | false => trivial
      | true =>
        rcases sym_ne hy hx hs with ⟨n, m, e1, e2, hne⟩ | ⟨a, l, e1, e2, hne⟩ <;> subst e2 <;> simp only [conc, Option.some.injEq] at hx
        · exact ints .neq m n true rfl (by simp [intOp, Ne.symm hne]) hx.symm e1
        · exact strs .neq l a true (by simp [strOp, beq (Ne.symm hne)]) hx.symm e1
  by_cases h1 : ∃ k i, x = .opq k i
  · obtain ⟨k, i, e⟩ := h1
    have := left k i e
    subst e
    exact this
  · by_cases h2 : ∃ k i, y = .opq k i
    · obtain ⟨k, i, e⟩ := h2
      have := right k i e
      subst e
      cases x <;> first | exact this | exact absurd ⟨_, _, rfl⟩ h1
    · have := path_evBin0 (w := w) hC hR op ty ox oy x y cx cy hx hy
      have e : evBin C s op ty (isConstO ox || isConstO oy) x y = evBin0 C s op ty (isConstO ox || isConstO oy) x y := by
        cases x <;> first | exact absurd ⟨_, _, rfl⟩ h1 | (cases y <;> first | rfl | exact absurd ⟨_, _, rfl⟩ h2)
      rw [e]; exact this

theorem ok_bin (hC : Good C) (hR : Rel C base γ s w) (ht : TmpsRel γ nt t a.tmps) (op : BinOp) (ty : TypeId) (x y : Operand) (rt : TypeId) :
    (opBin op ty x y rt C t s).path (NxOk C base γ s w ((VS (do eqGuard op ty x y (a.eval x) (a.eval y); binOp op ty (a.eval x) (a.eval y))).run C.P w)) := by
  refine R.pbd _ (path_evA hR ht x) fun v hv => ?_
  refine R.pbd _ (path_evA hR ht y) fun u hu => ?_
  refine R.pbd _ (path_evBin (w := w) hC hR op ty x y v u _ _ hv hu) fun r hr => ?_
  obtain ⟨c, h1, h2⟩ := hr
  exact okVal hR h2 h1

theorem ok_un (hR : Rel C base γ s w) (ht : TmpsRel γ nt t a.tmps) (op : UnOp) (x : Operand) (rt : TypeId) :
    (opUn op x rt C t s).path (NxOk C base γ s w ((VS (Op.unary op (a.eval x))).run C.P w)) := by
  refine R.pbd _ (path_evA hR ht x) fun v hv => ?_
  refine R.pbd (fun r => ∃ c, conc γ r = some c ∧ (Op.unary op (a.eval x)).run C.P w = .ok c w) ?_ fun r hr => ?_
  · cases op <;> cases v <;> first | trivial | skip
    all_goals (simp only [conc, Option.some.injEq] at hv; rw [← hv]; exact ⟨_, rfl, rfl⟩)
  · obtain ⟨c, h1, h2⟩ := hr
    exact okVal hR h2 h1

theorem run_und' {ty : TypeId} {d : TypeDesc} (h : C.P.underlying ty = some d) {β : Type} (f : TypeDesc → Sem β) : ((underlying ty) >>= f).run C.P w = (f d).run C.P w := by
  rw [Sem.run_bind, run_und h]; rfl

theorem ok_func (hR : Rel C base γ s w) (ht : TmpsRel γ nt t a.tmps) (f : Fn) (x y : Array Operand) (rt : TypeId) :
    (opFunc f x y rt C t s).path (NxOk C base γ s w ((VS (Instr.makeFunc f (x.map a.eval) (y.map a.eval))).run C.P w)) := by
  refine R.pbd _ (R.path_guard _ _) fun _ hn => ?_
  refine R.pbd _ (path_evL hR ht x.toList) fun v hv => ?_
  refine R.pbd _ (path_evL hR ht y.toList) fun u hu => ?_
  refine okVal hR (c := .func f (x.map a.eval) (y.map a.eval)) rfl ?_
  simp only [conc, hn, hv, hu]
  cases x; cases y; simp

theorem ok_extract (hR : Rel C base γ s w) (ht : TmpsRel γ nt t a.tmps) (x : Operand) (i : Nat) (rt : TypeId) :
    (opExtract x i rt C t s).path (NxOk C base γ s w ((VS (Instr.extract (a.eval x) i)).run C.P w)) := by
  refine R.pbd _ (path_evA hR ht x) fun v hv => ?_
  cases v with
  | tup l =>
    refine R.pbd _ (R.path_ofOpt _ _) fun r hr => ?_
    rw [nth_eq] at hr
    simp only [conc, Option.map_eq_some_iff] at hv
    obtain ⟨q, hq, he⟩ := hv
    obtain ⟨c, hc, hqc⟩ := concL_get i r hq hr
    refine okVal hR (c := c) ?_ hc
    rw [← he]
    simp [Instr.extract, hqc]
  | _ => trivial

theorem ok_nilCheck (hR : Rel C base γ s w) (ht : TmpsRel γ nt t a.tmps) (o : Oper) (x : Operand) (ho : o.op = .nilCheck x) (rt : TypeId) :
    (opNilCheck x rt C t s).path (NxOk C base γ s w ((execOp a.eval o).run C.P w)) := by
  refine R.pbd _ (path_evA hR ht x) fun v hv => ?_
  have key : (∀ c, conc γ v = some c → (execOp a.eval o).run C.P w = .ok (.value c) w) → NxOk C base γ s w ((execOp a.eval o).run C.P w) (.val v s) :=
    fun h => ⟨γ, _, w, h _ hv, hv, Step.refl hR⟩
  cases v with
  | fn g l1 l2 =>
    cases g with
    | func f =>
      refine key fun c hc => ?_
      simp only [conc] at hc
      cases hn : noYield (.func f) <;> cases h1 : concL γ l1 <;> cases h2 : concL γ l2 <;> simp only [hn, h1, h2, reduceCtorEq, Option.some.injEq] at hc
      rw [conc] at hv
      simp only [hn, h1, h2, Option.some.injEq] at hv
      unfold execOp; simp only [ho]; rw [← hv, ← hc]; rfl
    | _ => trivial
  | ptr _ _ | sl _ _ _ _ | osl _ _ _ _ _ | yield _ | iface _ _ =>
    refine key fun c hc => ?_
    rw [hv] at hc; cases hc
    simp only [conc, Option.map_eq_some_iff] at hv
    obtain ⟨_, _, hv⟩ := hv
    unfold execOp; simp only [ho]; rw [← hv]; rfl
  | _ => trivial

theorem ok_iface (hC : Good C) (hR : Rel C base γ s w) (ht : TmpsRel γ nt t a.tmps) (ty : TypeId) (x : Operand) (rt : TypeId) :
    (opIface ty x rt C t s).path (NxOk C base γ s w ((VS (Instr.makeInterface ty (a.eval x))).run C.P w)) := by
  refine R.pbd _ (path_under hC ty) fun d hd => ?_
  refine R.pbd (fun _ => ∀ ms, d ≠ .interface ms) ?_ fun _ hni => ?_
  · cases d <;> first | trivial | (intro ms h; cases h)
  refine R.pbd _ (path_evA hR ht x) fun v hv => ?_
  refine okVal hR (c := .iface ty (a.eval x)) ?_ (by simp [conc, hv])
  unfold Instr.makeInterface
  rw [run_und' hd]
  cases d <;> first | rfl | exact absurd rfl (hni _)

end
end Go.Proofs.YtabknehmohoemaaGreatDoor.Abs

namespace Go.Proofs.YtabknehmohoemaaGreatDoor.Abs
open Go

section
variable {C : Ctx} {base : Nat} {γ : G} {s : S} {w : World} {nt : Nat} {t : Tr AV} {a : Act}

theorem path_asIdx (v : AV) : (asIdx v).path (fun n => ∃ k, v = .int k (.ofNat n)) := by
  cases v with
  | int k n => cases n with
    | ofNat n => exact ⟨k, rfl⟩
    | negSucc n => trivial
  | _ => trivial

theorem ok_field (hC : Good C) (hR : Rel C base γ s w) (ht : TmpsRel γ nt t a.tmps) (ty : TypeId) (x : Operand) (f : Nat) (rt : TypeId) :
    (opField ty x f rt C t s).path (NxOk C base γ s w ((VS (Instr.field ty (a.eval x) f)).run C.P w)) := by
  refine R.pbd _ (path_under hC ty) fun d hd => ?_
  cases d with
  | struct fs =>
    refine R.pbd _ (R.path_ofOpt _ _) fun fd hfd => ?_
    rw [nth_eq] at hfd
    refine R.pbd _ (path_evA hR ht x) fun v hv => ?_
    cases v with
    | agg cs =>
      simp only [conc, Option.map_eq_some_iff] at hv
      obtain ⟨r, hr, he⟩ := hv
      refine R.pbd _ (path_partOf (w := w) hC fd.type cs fd.offset r hr) fun u hu => ?_
      obtain ⟨c, hc, hp⟩ := hu
      refine okVal hR (c := c) ?_ hc
      unfold Instr.field
      rw [run_und' hd]
      have : fs[f]? = some fd := by rw [← Array.getElem?_toList]; exact hfd
      simp only [this, ← he, asAgg, pure_bind]
      exact hp
    | _ => trivial
  | _ => trivial

theorem ok_index (hC : Good C) (hR : Rel C base γ s w) (ht : TmpsRel γ nt t a.tmps) (ty : TypeId) (x i : Operand) (rt : TypeId) :
    (opIndex ty x i rt C t s).path (NxOk C base γ s w ((VS (Instr.index ty (a.eval x) (a.eval i))).run C.P w)) := by
  refine R.pbd _ (path_evA hR ht i) fun vi hvi => ?_
  refine R.pbd _ (path_asIdx vi) fun n hn => ?_
  obtain ⟨k, rfl⟩ := hn
  simp only [conc, Option.some.injEq] at hvi
  refine R.pbd _ (path_evA hR ht x) fun v hv => ?_
  cases v with
  | str l =>
    refine R.pbd _ (path_under hC ty) fun d hd => ?_
    cases d with
    | string =>
      simp only [conc, Option.some.injEq] at hv
      show (match nth l n with | some b => R.ok (Nx.val (.int .u8 (.ofNat b.toNat)) s) | none => R.bad _).path _
      rw [nth_eq]
      cases hb : l[n]? with
      | none => trivial
      | some b =>
        refine okVal hR (c := .int .u8 (.ofNat b.toNat)) ?_ rfl
        unfold Instr.index
        rw [← hvi, ← hv]
        simp only [asIntOf, pure_bind]
        rw [run_und' hd]
        have hlt : n < l.length := by
          rcases Nat.lt_or_ge n l.length with h | h
          · exact h
          · rw [List.getElem?_eq_none h] at hb; cases hb
        have h2 : getElem? (ByteArray.mk ⟨l⟩) (Int.ofNat n).toNat = some b := by
          show getElem? (ByteArray.mk ⟨l⟩) n = some b
          have hsz : n < (ByteArray.mk ⟨l⟩).size := hlt
          rw [getElem?_pos (ByteArray.mk ⟨l⟩) n hsz]
          have : (ByteArray.mk ⟨l⟩)[n]'hsz = l[n]'hlt := rfl
          rw [this, ← hb, List.getElem?_eq_getElem hlt]
        have h0 : (0 : Int) ≤ Int.ofNat n := Int.natCast_nonneg n
        simp only [h0, if_true, h2]
        rfl
    | _ => trivial
  | agg cs =>
    refine R.pbd _ (path_under hC ty) fun d hd => ?_
    cases d with
    | array m e =>
      simp only [conc, Option.map_eq_some_iff] at hv
      obtain ⟨r, hr, he⟩ := hv
      show (match Nat.blt n m with | true => (do let j ← ti C e; let r ← partOf C e cs (Nat.mul n j.size); R.ok (Nx.val r s)) | false => R.bad _).path _
      cases hlt : Nat.blt n m
      · trivial
      · have hlt' : n < m := by simpa [Nat.blt_eq] using hlt
        refine R.pbd _ (path_ti hC e) fun j hj => ?_
        refine R.pbd _ (path_partOf (w := w) hC e cs _ r hr) fun u hu => ?_
        obtain ⟨c, hc, hp⟩ := hu
        refine okVal hR (c := c) ?_ hc
        unfold Instr.index
        rw [← hvi, ← he]
        simp only [asIntOf, pure_bind]
        rw [run_und' hd]
        have h0 : (0 : Int) ≤ Int.ofNat n ∧ Int.ofNat n < (m : Int) := ⟨Int.natCast_nonneg n, Int.ofNat_lt.2 hlt'⟩
        simp only [h0, and_self, if_true, Sem.run_bind, hj.2.size w, Result.andThen_ok]
        exact hp
    | _ => trivial
  | _ => trivial

theorem ok_fieldAddr (hC : Good C) (hR : Rel C base γ s w) (ht : TmpsRel γ nt t a.tmps) (ty : TypeId) (x : Operand) (f : Nat) (rt : TypeId) :
    (opFieldAddr ty x f rt C t s).path (NxOk C base γ s w ((VS (Instr.fieldAt ty (a.eval x) f)).run C.P w)) := by
  refine R.pbd _ (path_under hC ty) fun d hd => ?_
  cases d with
  | struct fs =>
    refine R.pbd _ (R.path_ofOpt _ _) fun fd hfd => ?_
    rw [nth_eq] at hfd
    refine R.pbd _ (path_ti hC fd.type) fun i hi => ?_
    refine R.pbd _ (R.path_guard _ _) fun _ hg => ?_
    have hsz : i.size ≠ 0 := by intro h; rw [h] at hg; exact absurd hg (by simp)
    refine R.pbd _ (path_evA hR ht x) fun v hv => ?_
    cases v with
    | ptr b off =>
      simp only [conc, Option.map_eq_some_iff] at hv
      obtain ⟨lc, hl, he⟩ := hv
      refine okVal hR (c := .pointer (some ⟨lc.blk, lc.dl + (off + fd.offset), none⟩)) ?_ (by simp [conc, hl])
      unfold Instr.fieldAt
      rw [run_und' hd]
      have : fs[f]? = some fd := by rw [← Array.getElem?_toList]; exact hfd
      simp only [this, ← he, Instr.sureAddr, pure_bind, fieldPlace, bind_assoc, Sem.run_bind, hi.2.size w, Result.andThen_ok, hsz, if_false, addr_add]
      simp [Nat.add_assoc]
    | _ => trivial
  | _ => trivial

theorem oOk_spec (hR : Rel C base γ s w) {b : Nat} {e : TypeId} {n sz : Nat} {j : TI} {lc : Loc} (hj : C.T.get e = some j) (hl : γ b = some lc)
    (hg : oOk s b e n j.size sz = true) : j.size = sz ∧ sz ≠ 0 ∧ n ≤ lc.cp := by
  simp only [oOk, Bool.and_eq_true] at hg
  have hsz : j.size = sz := Nat.eq_of_beq_eq_true hg.1.1
  have hz : sz ≠ 0 := by intro h; rw [hsz, h] at hg; exact absurd hg.1.2 (by simp)
  refine ⟨hsz, hz, ?_⟩
  have hle : n * j.size ≤ oCells s b e := Nat.le_of_ble_eq_true hg.2
  unfold oCells at hle
  have hz' : j.size ≠ 0 := by rw [hsz]; exact hz
  have zero : n * j.size ≤ 0 → n ≤ lc.cp := by
    intro h
    rcases Nat.eq_zero_or_pos n with h0 | h0
    · omega
    · have := Nat.mul_pos h0 (Nat.pos_of_ne_zero hz'); omega
  cases hb : s.h.get b with
  | none => rw [hb] at hle; exact zero hle
  | some q =>
    rw [hb] at hle
    cases q with
    | cells el cs kk fz anc st sg =>
      simp only at hle
      cases he : Nat.beq el e
      · rw [he] at hle; exact zero hle
      · rw [he] at hle
        have hel : el = e := Nat.eq_of_beq_eq_true he
        subst hel
        obtain ⟨l', o, h1, h2, vs, lo, hi, rfl, g1, g2, ⟨ii, g3, g4, g5⟩, g6⟩ := hR.blk b _ hb
        rw [hl] at h1; obtain rfl := Option.some.inj h1
        rw [hj] at g3; obtain rfl := Option.some.inj g3
        have : n * j.size ≤ lc.cp * j.size := Nat.le_trans hle g4
        exact Nat.le_of_mul_le_mul_right this (Nat.pos_of_ne_zero hz')
    | _ => exact zero hle

theorem ok_indexAddr (hC : Good C) (hR : Rel C base γ s w) (ht : TmpsRel γ nt t a.tmps) (ty : TypeId) (x i : Operand) (rt : TypeId) :
    (opIndexAddr ty x i rt C t s).path (NxOk C base γ s w ((VS (Instr.indexAt ty (a.eval x) (a.eval i))).run C.P w)) := by
  refine R.pbd _ (path_evA hR ht i) fun vi hvi => ?_
  refine R.pbd _ (path_asIdx vi) fun n hn => ?_
  obtain ⟨k, rfl⟩ := hn
  simp only [conc, Option.some.injEq] at hvi
  refine R.pbd _ (path_evA hR ht x) fun v hv => ?_
  refine R.pbd _ (path_under hC ty) fun d hd => ?_
  have hu : (underlying ty).run C.P w = .ok d w := run_und hd w
  cases v with
  | ptr b off =>
    cases d with
    | array m e =>
      simp only [conc, Option.map_eq_some_iff] at hv
      obtain ⟨lc, hl, he⟩ := hv
      show (match Nat.blt n m with | true => (do let j ← ti C e; R.ok (Nx.val (.ptr b (Nat.add off (Nat.mul n j.size))) s)) | false => R.bad _).path _
      cases hlt : Nat.blt n m
      · trivial
      · have hlt' : n < m := by simpa [Nat.blt_eq] using hlt
        refine R.pbd _ (path_ti hC e) fun j hj => ?_
        refine okVal hR (c := .pointer (some ⟨lc.blk, lc.dl + (off + n * j.size), none⟩)) ?_ (by simp [conc, hl])
        have h0 : (0 : Int) ≤ Int.ofNat n ∧ Int.ofNat n < (m : Int) := ⟨Int.natCast_nonneg n, Int.ofNat_lt.2 hlt'⟩
        unfold Instr.indexAt
        rw [← hvi, ← he]
        simp only [asIntOf, pure_bind, Sem.run_bind, hu, Result.andThen_ok, Instr.sureAddr, Sem.run_pure, h0, and_self, if_true, hj.2.size w, addr_add]
        simp [Nat.add_assoc]
    | _ => trivial
  | sl b off len cap =>
    cases d with
    | slice e =>
      simp only [conc, Option.map_eq_some_iff] at hv
      obtain ⟨lc, hl, he⟩ := hv
      show (match Nat.blt n len with | true => (do let j ← ti C e; R.ok (Nx.val (.ptr b (Nat.add off (Nat.mul n j.size))) s)) | false => R.bad _).path _
      cases hlt : Nat.blt n len
      · trivial
      · have hlt' : n < len := by simpa [Nat.blt_eq] using hlt
        refine R.pbd _ (path_ti hC e) fun j hj => ?_
        refine okVal hR (c := .pointer (some ⟨lc.blk, lc.dl + (off + n * j.size), none⟩)) ?_ (by simp [conc, hl])
        have h0 : (0 : Int) ≤ Int.ofNat n ∧ Int.ofNat n < (len : Int) := ⟨Int.natCast_nonneg n, Int.ofNat_lt.2 hlt'⟩
        unfold Instr.indexAt
        rw [← hvi, ← he]
        simp only [asIntOf, pure_bind, Sem.run_bind, hu, Result.andThen_ok, Sem.run_pure, h0, and_self, if_true, hj.2.size w, addr_add]
        simp [Nat.add_assoc]
    | _ => trivial
  | osl b pre e0 len sz =>
    cases d with
    | slice e =>
      simp only [conc, Option.map_eq_some_iff] at hv
      obtain ⟨lc, hl, he⟩ := hv
      show (match Nat.blt n len with | true => (do let j ← ti C e; guardB (oOk s b e (Nat.add e0 len) j.size sz) "index size"; R.ok (Nx.val (.ptr b (Nat.mul (Nat.add e0 n) sz)) s)) | false => R.bad _).path _
      cases hlt : Nat.blt n len
      · trivial
      · have hlt' : n < len := by simpa [Nat.blt_eq] using hlt
        refine R.pbd _ (path_ti hC e) fun j hj => ?_
        refine R.pbd _ (R.path_guard _ _) fun _ hg => ?_
        obtain ⟨hsz, hz, hle⟩ := oOk_spec hR hj.1 hl hg
        have hle' : e0 + len ≤ lc.cp := hle
        have hcp : e0 < lc.cp := by omega
        refine okVal hR (c := .pointer (some ⟨lc.blk, lc.dl + (e0 + n) * sz, none⟩)) ?_ (by simp [conc, hl])
        have h0 : (0 : Int) ≤ Int.ofNat n ∧ Int.ofNat n < (len : Int) := ⟨Int.natCast_nonneg n, Int.ofNat_lt.2 hlt'⟩
        unfold Instr.indexAt
        rw [← hvi, ← he]
        simp only [asIntOf, pure_bind, Sem.run_bind, hu, Result.andThen_ok, Sem.run_pure, h0, and_self, if_true, hj.2.size w, addr_add, hcp, hsz]
        simp [Nat.add_assoc, Nat.add_mul]
    | _ => trivial
  | _ => trivial

end
end Go.Proofs.YtabknehmohoemaaGreatDoor.Abs

namespace Go.Proofs.YtabknehmohoemaaGreatDoor.Abs
open Go

section
variable {C : Ctx} {base : Nat} {γ : G} {s : S} {w : World} {nt : Nat} {t : Tr AV} {a : Act}

theorem path_cells (v : AV) (c : Value) (hv : conc γ v = some c) : v.cells.path (fun l => concL γ l = some c.cells.toList) := by
  cases v with
  | agg cs =>
    simp only [conc, Option.map_eq_some_iff] at hv
    obtain ⟨r, hr, rfl⟩ := hv
    exact hr
  | junk => trivial
  | raw u =>
    simp only [conc, Option.some.injEq] at hv; subst hv
    cases u <;> first | trivial | (show concL γ _ = _; simp [concL, conc, Value.cells])
  | opq k i =>
    have h1 := (conc_opq hv).1
    cases c <;> first | (cases h1; done) | (show concL γ [_] = _; rw [concL_cons]; exact ⟨_, [], hv, rfl, rfl⟩)
  | fn f l1 l2 =>
    have hv' := hv
    simp only [conc] at hv
    cases hn : noYield f <;> cases h1 : concL γ l1 <;> cases h2 : concL γ l2 <;> simp only [hn, h1, h2, reduceCtorEq, Option.some.injEq] at hv
    subst hv
    show concL γ [_] = _
    rw [concL_cons]; exact ⟨_, [], hv', rfl, rfl⟩
  | _ =>
    have hv' := hv
    simp only [conc, Option.map_eq_some_iff, Option.some.injEq] at hv
    first
      | (subst hv; show concL γ [_] = _; rw [concL_cons]; exact ⟨_, [], hv', rfl, rfl⟩)
      | (obtain ⟨l, hl, rfl⟩ := hv; show concL γ [_] = _; rw [concL_cons]; exact ⟨_, [], hv', rfl, rfl⟩)

theorem ok_load (hC : Good C) (hR : Rel C base γ s w) (ht : TmpsRel γ nt t a.tmps) (ty : TypeId) (x : Operand) (rt : TypeId) :
    (opLoad ty x rt C t s).path (NxOk C base γ s w ((VS (Instr.loadAt ty (a.eval x))).run C.P w)) := by
  refine R.pbd _ (path_evA hR ht x) fun v hv => ?_
  refine R.pbd _ (path_loadAt hC hR ty v) fun u hu => ?_
  obtain ⟨b, off, lc, c, rfl, hl, hc, hrun⟩ := hu
  refine okVal hR (c := c) ?_ hc
  simp only [conc, hl, Option.map_some, Option.some.injEq] at hv
  rw [← hv]
  simp only [Instr.loadAt, Instr.sureAddr, pure_bind]
  exact hrun

/-! writing -/
theorem oneA_conc {v : AV} {c : Value} (h : oneA v = true) (hv : conc γ v = some c) : c.oneCell' = true := by
  cases v with
  | opq k i =>
    have h1 := (conc_opq hv).1
    cases c <;> first | (cases h1; done) | rfl
  | fn f l1 l2 =>
    simp only [conc] at hv
    cases hn : noYield f <;> cases h1 : concL γ l1 <;> cases h2 : concL γ l2 <;> simp only [hn, h1, h2, reduceCtorEq, Option.some.injEq] at hv
    subst hv; rfl
  | agg _ | tup _ | junk => cases h
  | raw u =>
    simp only [conc, Option.some.injEq] at hv; subst hv
    cases u <;> first | rfl | cases h
  | _ =>
    simp only [conc, Option.map_eq_some_iff, Option.some.injEq] at hv
    first
      | (subst hv; rfl)
      | (obtain ⟨l, hl, rfl⟩ := hv; rfl)
theorem allOne_conc : ∀ {l : List AV} {r : List Value}, allOne l = true → concL γ l = some r → ∀ c ∈ r, c.oneCell' = true
  | [], r, _, hr, c, hc => by simp [concL] at hr; subst hr; simp at hc
  | v :: l, r, h, hr, c, hc => by
    obtain ⟨x, y, hx, hy, rfl⟩ := concL_cons.1 hr
    unfold allOne at h
    cases ho : oneA v
    · rw [ho] at h; cases h
    · rw [ho] at h
      rcases List.mem_cons.1 hc with rfl | hc
      · exact oneA_conc ho hx
      · exact allOne_conc h hy c hc

theorem oneCell'_store {v : Value} (h : v.oneCell' = true) : (∀ q, v ≠ .agg q) ∧ (∀ q, v ≠ .tuple q) := by
  constructor
  · rintro q rfl; cases h
  · rintro q rfl; cases h

def arrSet : Array Value → Nat → List Value → Array Value
  | arr, _, [] => arr
  | arr, i, v :: l => arrSet (arr.setIfInBounds i v) (i + 1) l
theorem arrSet_size : ∀ (l : List Value) (arr : Array Value) (i : Nat), (arrSet arr i l).size = arr.size
  | [], _, _ => rfl
  | v :: l, arr, i => by rw [arrSet, arrSet_size l]; simp
theorem arrSet_get : ∀ (l : List Value) (arr : Array Value) (i j : Nat), i + l.length ≤ arr.size →
    (arrSet arr i l)[j]? = if i ≤ j ∧ j < i + l.length then l[j - i]? else arr[j]?
  | [], arr, i, j, _ => by rw [if_neg (by simp only [List.length_nil]; omega)]; rfl
  | v :: l, arr, i, j, h => by
    simp only [List.length_cons] at h
    rw [arrSet, arrSet_get l _ _ _ (by simp; omega)]
    by_cases h1 : i + 1 ≤ j ∧ j < i + 1 + l.length
    · rw [if_pos h1, if_pos (by simp only [List.length_cons]; omega)]
      rw [show j - i = (j - (i + 1)) + 1 by omega]; simp
    · rw [if_neg h1]
      by_cases h2 : i = j
      · subst h2
        rw [if_pos (by simp only [List.length_cons]; omega)]
        simp [Array.getElem?_setIfInBounds]; omega
      · rw [if_neg (by simp only [List.length_cons]; omega)]
        simp [h2]

theorem run_storeCells {P : Program} (blk : Nat) (elem : TypeId) (lo hi : Nat) : ∀ (vs : List Value) (o i : Nat) (arr : Array Value) (w : World),
    w.heap[blk]? = some (.cells arr elem (lo, hi)) → o + i + vs.length ≤ arr.size → (∀ v ∈ vs, v.oneCell' = true) → (∀ off, o + i ≤ off → off < o + i + vs.length → ¬ (lo ≤ off ∧ off < hi)) →
    (storeCells ⟨blk, o, none⟩ vs i).run P w = .ok () { w with heap := w.heap.setIfInBounds blk (.cells (arrSet arr (o + i) vs) elem (lo, hi)) }
  | [], o, i, arr, w, hw, _, _, _ => by
    have hlt : blk < w.heap.size := by
      rcases Nat.lt_or_ge blk w.heap.size with h | h
      · exact h
      · rw [Array.getElem?_eq_none h] at hw; cases hw
    have : w.heap.setIfInBounds blk (.cells (arrSet arr (o + i) []) elem (lo, hi)) = w.heap := by
      apply Array.ext_getElem?
      intro k
      rw [Array.getElem?_setIfInBounds]
      by_cases h : blk = k
      · subst h; simp only [hlt, if_true]; exact hw.symm
      · simp [h]
    rw [this]; rfl
  | v :: vs, o, i, arr, w, hw, hlen, hone, hfr => by
    simp only [List.length_cons] at hlen hfr
    have hcell : w.cell? ⟨blk, o + i, none⟩ = arr[o + i]? := by simp [World.cell?, hw]
    have hin : o + i < arr.size := by omega
    have hc : w.cell? ⟨blk, o + i, none⟩ = some arr[o + i] := by rw [hcell]; exact Array.getElem?_eq_getElem hin
    have hf : w.frozen? ⟨blk, o + i, none⟩ = false := by
      have := hfr (o + i) (by omega) (by omega)
      simp only [World.frozen?, hw]
      simpa using this
    have hlt : blk < w.heap.size := by
      rcases Nat.lt_or_ge blk w.heap.size with h | h
      · exact h
      · rw [Array.getElem?_eq_none h] at hw; cases hw
    have h1 := oneCell'_store (hone v (by simp))
    have hst : (store ⟨blk, o + i, none⟩ v).run P w = .ok () (w.setCell ⟨blk, o + i, none⟩ v) := by
      unfold store
      cases v <;> first | exact absurd rfl (h1.1 _) | exact absurd rfl (h1.2 _) | (simp only [Sem.run, hc, hf]; rfl)
    have hset : w.setCell ⟨blk, o + i, none⟩ v = { w with heap := w.heap.setIfInBounds blk (.cells (arr.setIfInBounds (o + i) v) elem (lo, hi)) } := by
      unfold World.setCell
      congr 1
      apply Array.ext_getElem?
      intro k
      rw [Array.getElem?_modify, Array.getElem?_setIfInBounds]
      by_cases h : blk = k
      · subst h
        have hw2 : w.heap[blk] = .cells arr elem (lo, hi) := by
          rw [Array.getElem?_eq_getElem hlt] at hw; exact Option.some.inj hw
        simp [hlt, hw2]
      · simp [h]
    unfold storeCells
    rw [Sem.run_bind, addr_add, hst, Result.andThen_ok, hset]
    have hw' : ({ w with heap := w.heap.setIfInBounds blk (.cells (arr.setIfInBounds (o + i) v) elem (lo, hi)) } : World).heap[blk]? = some (.cells (arr.setIfInBounds (o + i) v) elem (lo, hi)) := by
      simp [hlt]
    rw [run_storeCells blk elem lo hi vs o (i + 1) _ _ hw' (by simp; omega) (fun x hx => hone x (by simp [hx])) (fun off h1 h2 => hfr off (by omega) (by omega))]
    congr 2
    show (w.heap.setIfInBounds blk _).setIfInBounds blk _ = w.heap.setIfInBounds blk _
    apply Array.ext_getElem?
    intro k
    simp only [Array.getElem?_setIfInBounds, Array.size_setIfInBounds]
    by_cases h : blk = k
    · subst h; simp [hlt, arrSet]; rfl
    · simp [h]

theorem delAll_get : ∀ (l : List Nat) (h : Tr Blk) (i : Nat), (delAll l h).get i = if i ∈ l then none else h.get i
  | [], h, i => by simp [delAll]
  | a :: l, h, i => by
    show (delAll l (h.del a)).get i = _
    rw [delAll_get l]
    by_cases h1 : i ∈ l
    · simp [h1]
    · rw [if_neg h1, Tr.get_del]
      by_cases h2 : a = i
      · subst h2; simp
      · have : i ≠ a := Ne.symm h2
        simp [h1, h2, this]

theorem path_wrCells (hR : Rel C base γ s w) (b off : Nat) (vs : List AV) (cs : List Value) (hcs : concL γ vs = some cs) (lc : Loc) (hl : γ b = some lc) :
    (wrCells s b off vs).path (fun s' => ∃ w', (storeCells ⟨lc.blk, lc.dl + off, none⟩ cs).run C.P w = .ok () w' ∧ Step C base γ s w γ s' w') := by
  unfold wrCells
  cases vs with
  | nil =>
    simp only [concL, Option.some.injEq] at hcs; subst hcs
    exact ⟨w, rfl, Step.refl hR⟩
  | cons v vs' =>
    simp only
    cases hb : s.h.get b with
    | none => trivial
    | some x =>
      cases x with
      | cells elem cells n fz anc st sg =>
        simp only
        cases hg : (!st && Nat.ble (Nat.add off (v :: vs').length) n && Nat.ble fz off && allOne (v :: vs')) with
        | false => trivial
        | true =>
          simp only [Bool.and_eq_true, Bool.not_eq_true'] at hg
          obtain ⟨⟨⟨hst, hle⟩, hfz⟩, hone⟩ := hg
          have hle' : off + (v :: vs').length ≤ n := Nat.le_of_ble_eq_true hle
          have hfz' : fz ≤ off := Nat.le_of_ble_eq_true hfz
          subst hst
          obtain ⟨l', o, h1, h2, arr, lo, hi, rfl, g1, g2, g3, g4, glh⟩ := hR.blk b _ hb
          rw [hl] at h1; obtain rfl := Option.some.inj h1
          have hlen := concL_len hcs
          have hrun := run_storeCells (P := C.P) lc.blk elem lo hi cs (lc.dl + off) 0 arr w h2 (by omega) (allOne_conc hone hcs) (by
            intro q hq1 hq2 hq
            rcases g4 rfl q hq.1 hq.2 with h | ⟨_, h⟩ <;> omega)
          have hlt : lc.blk < w.heap.size := by
            rcases Nat.lt_or_ge lc.blk w.heap.size with h | h
            · exact h
            · rw [Array.getElem?_eq_none h] at h2; cases h2
          refine ⟨_, hrun, ?_⟩
          have hget : ∀ i x, i ≠ b → ((delAll anc s.h).set b (.cells elem (Tr.setList (v :: vs') off cells) n fz [] false sg)).get i = some x → s.h.get i = some x ∧ i ∉ anc := by
            intro i x hi hx
            rw [Tr.get_set_other _ _ (Ne.symm hi), delAll_get] at hx
            split at hx
            · cases hx
            · next h => exact ⟨hx, h⟩
          have hnoshare : ∀ i x li, i ≠ b → ((delAll anc s.h).set b (.cells elem (Tr.setList (v :: vs') off cells) n fz [] false sg)).get i = some x → γ i = some li → li.blk = lc.blk → False := by
            intro i x li hi hx hγi hbl
            obtain ⟨hx1, hx2⟩ := hget i x hi hx
            rcases hR.sep i b x _ li lc hx1 hb hγi hl hi hbl with h | h
            · cases x <;> simp [AncOf] at h
            · cases x <;> simp [AncOf] at h
              exact hx2 h.1
          have hrel : Rel C base γ ⟨(delAll anc s.h).set b (.cells elem (Tr.setList (v :: vs') off cells) n fz [] false sg), s.next⟩
              { w with heap := w.heap.setIfInBounds lc.blk (.cells (arrSet arr (lc.dl + off + 0) cs) elem (lo, hi)) } := by
            refine hR.setBlk hb hl hl ⟨rfl, rfl, rfl⟩ rfl (fun _ _ => rfl) (fun i x hi hx => (hget i x hi hx).1) (Tr.get_set_same _ _ _)
              (o' := .cells (arrSet arr (lc.dl + off + 0) cs) elem (lo, hi)) ?_ ?_ (by simp) ?_ (fun i x li hi hx h3 h4 => (hnoshare i x li hi hx h3 h4).elim) (fun i x li hi hx h3 h4 => (hnoshare i x li hi hx h3 h4).elim)
            · intro k hk
              simp [Ne.symm hk]
            · simp [hlt]
            · refine ⟨_, lo, hi, rfl, by rw [arrSet_size]; exact g1, ?_, ?_, ?_, glh⟩
              · intro i u hin hu
                rw [Tr.get_setList] at hu
                by_cases hr : off ≤ i ∧ i < off + (v :: vs').length
                · rw [if_pos hr] at hu
                  obtain ⟨c, hc, hcc⟩ := concL_get _ _ hcs hu
                  refine ⟨c, ?_, .inr hc⟩
                  rw [arrSet_get _ _ _ _ (by omega), if_pos (by omega)]
                  rw [show lc.dl + i - (lc.dl + off + 0) = i - off by omega]; exact hcc
                · rw [if_neg hr] at hu
                  obtain ⟨c, hc, hcc⟩ := g2 i u hin hu
                  refine ⟨c, ?_, hcc⟩
                  rw [arrSet_get _ _ _ _ (by omega), if_neg (by omega)]; exact hc
              · rw [arrSet_size]; exact g3
              · rw [arrSet_size]; exact g4
          refine ⟨Grow.refl γ, hrel, ⟨by simp, rfl, rfl, rfl, ?_⟩, ?_, Nat.le_refl _, fun _ _ h => hR.lt h, fun _ l h => .inl ⟨l, h⟩, ?_⟩
          · intro k ob hk hn
            have : k ≠ lc.blk := fun h => hn ⟨b, _, lc, hb, rfl, hl, h.symm⟩
            simp [Ne.symm this, hk]
          · rintro k ⟨i, x, li, h3, h4, h5, h6⟩ _
            by_cases hi : i = b
            · subst hi
              rw [hl] at h5; obtain rfl := Option.some.inj h5
              exact ⟨i, _, lc, hb, rfl, hl, h6⟩
            · exact ⟨i, x, li, (hget i x hi h3).1, h4, h5, h6⟩
          · intro i x h3 _
            by_cases hi : i = b
            · subst hi; exact ⟨_, hb⟩
            · exact ⟨x, (hget i x hi h3).1⟩
      | _ => trivial

theorem ok_store (hC : Good C) (hR : Rel C base γ s w) (ht : TmpsRel γ nt t a.tmps) (ty : TypeId) (x y : Operand) (rt : TypeId) :
    (opStore ty x y rt C t s).path (NxOk C base γ s w ((US (Instr.storeAt ty (a.eval x) (a.eval y))).run C.P w)) := by
  refine R.pbd _ (path_evA hR ht x) fun v hv => ?_
  refine R.pbd _ (path_evA hR ht y) fun u hu => ?_
  refine R.pbd (fun s' => ∃ w', (Instr.storeAt ty (a.eval x) (a.eval y)).run C.P w = .ok () w' ∧ Step C base γ s w γ s' w') ?_ fun s' hs' => ?_
  · cases v with
    | ptr b off =>
      refine R.pbd _ (path_ti hC ty) fun i hi => ?_
      refine R.pbd _ (path_cells u _ hu) fun c hc => ?_
      show (match Nat.beq c.length i.size with | true => wrCells s b off c | false => R.bad _).path _
      cases hlen : Nat.beq c.length i.size
      · trivial
      · have hlen' : c.length = i.size := Nat.eq_of_beq_eq_true hlen
        simp only [conc, Option.map_eq_some_iff] at hv
        obtain ⟨lc, hl, he⟩ := hv
        refine R.path_mono ?_ (path_wrCells hR b off c _ hc lc hl)
        rintro s' ⟨w', h1, h2⟩
        refine ⟨w', ?_, h2⟩
        have hsz : (a.eval y).cells.size = i.size := by
          have := concL_len hc
          simp at this; omega
        rw [← he]
        simp only [Instr.storeAt, Instr.sureAddr, pure_bind, storeVar, Sem.run_bind, hi.2.size w, Result.andThen_ok, hsz, ne_eq, not_true_eq_false, if_false]
        exact h1
    | _ => trivial
  · obtain ⟨w', h1, h2⟩ := hs'
    exact ⟨γ, w', by simp [US, h1], h2⟩

end
end Go.Proofs.YtabknehmohoemaaGreatDoor.Abs

namespace Go.Proofs.YtabknehmohoemaaGreatDoor.Abs
open Go

section
variable {C : Ctx} {base : Nat} {γ : G} {s : S} {w : World} {nt : Nat} {t : Tr AV} {a : Act}

theorem newCells_rel {elem : TypeId} {i : TI} (hi : C.T.get elem = some i) {vs : List AV} {cs : List Value} (hcs : concL γ vs = some cs) {arr : Array Value} {cp : Nat}
    (h1 : vs.length ≤ cp * i.size) (h2 : cp * i.size ≤ arr.size) (h3 : ∀ (j : Nat) c, cs[j]? = some c → arr[j]? = some c) (blk : Nat) (fz : Nat) (sg : Bool) (lo hi' : Nat)
    (hfr : ∀ off, lo ≤ off → off < hi' → off < fz ∨ (sg = true ∧ arr.size ≤ off)) (hlh : lo ≤ hi' := by omega) :
    ∀ γ', Grow γ γ' → BlkRel C γ' ⟨blk, 0, cp, none⟩ (.cells elem (Tr.ofList vs) vs.length fz [] false sg) (.cells arr elem (lo, hi')) := by
  intro γ' hg
  refine ⟨arr, lo, hi', rfl, by simp; omega, ?_, ⟨i, hi, h1, by simp only [Nat.zero_add]; omega, 0, by simp⟩, fun _ off a b => by simpa using hfr off a b, hlh⟩
  intro j v hj hv
  rw [Tr.get_ofList] at hv
  obtain ⟨c, hc, hcc⟩ := concL_get j v hcs hv
  exact ⟨c, by simpa using h3 j c hcc, .inr (conc_ext hg _ _ hc)⟩

theorem run_newRow (P : Program) (elem : TypeId) (arr : Array Value) (w : World) : (newRow elem arr).run P w = .ok ⟨w.heap.size, 0, none⟩ (w.alloc (.cells arr elem (0, 0))) := by
  simp [newRow]

theorem ok_alloc (hC : Good C) (hR : Rel C base γ s w) (e : TypeId) (rt : TypeId) :
    (opAlloc e rt C t s).path (NxOk C base γ s w ((VS (Instr.alloc e true (.tuple #[]))).run C.P w)) := by
  refine R.pbd _ (path_ti hC e) fun i hi => ?_
  refine R.pbd _ (R.path_ofOpt _ _) fun z hz => ?_
  refine R.pbd _ (R.path_guard _ _) fun _ hg => ?_
  obtain ⟨v, h1, h2⟩ := hi.2.zero z hz
  have hlen : z.length = i.size := Nat.eq_of_beq_eq_true hg
  have hcs := h2 γ
  have hstep := Step.alloc (base := base) hR (cellsBlk e z) (.cells v.cells e (0, 0)) 0 1 (w' := w.alloc (.cells v.cells e (0, 0))) rfl rfl rfl rfl
    (newCells_rel hi.1 hcs (by omega) (by have := concL_len hcs; simp at this; omega) (fun j c hj => by simpa using hj) _ 0 false 0 0 (by omega))
  refine ⟨_, .pointer (some ⟨w.heap.size, 0, none⟩), _, ?_, ?_, hstep⟩
  · simp [VS, Instr.alloc, h1, newVar, run_newRow]
  · simp [conc]

theorem ok_box (hC : Good C) (hR : Rel C base γ s w) (ht : TmpsRel γ nt t a.tmps) (e : TypeId) (x : Operand) (rt : TypeId) :
    (opBox e x rt C t s).path (NxOk C base γ s w ((VS (Instr.box e (a.eval x))).run C.P w)) := by
  refine R.pbd _ (path_evA hR ht x) fun v hv => ?_
  refine R.pbd _ (path_cells v _ hv) fun z hz => ?_
  refine R.pbd _ (path_ti hC e) fun i hi => ?_
  refine R.pbd _ (R.path_guard _ _) fun _ hg => ?_
  have hlen : z.length = i.size := Nat.eq_of_beq_eq_true hg
  have hstep := Step.alloc (base := base) hR (cellsBlk e z) (.cells (a.eval x).cells e (0, 0)) 0 1 (w' := w.alloc (.cells (a.eval x).cells e (0, 0))) rfl rfl rfl rfl
    (newCells_rel hi.1 hz (by omega) (by have := concL_len hz; simp at this; omega) (fun j c hj => by simpa using hj) _ 0 false 0 0 (by omega))
  refine ⟨_, .pointer (some ⟨w.heap.size, 0, none⟩), _, ?_, ?_, hstep⟩
  · simp [VS, Instr.box, newVar, run_newRow]
  · simp [conc]

/-! building -/
theorem concL_set {γ : G} : ∀ {l : List AV} {r : List Value} (i : Nat) (v : AV) (c : Value), concL γ l = some r → conc γ v = some c → concL γ (l.set i v) = some (r.set i c)
  | [], r, i, v, c, h, _ => by simp [concL] at h; subst h; simp [concL]
  | x :: l, r, 0, v, c, h, hv => by
    obtain ⟨a, b, ha, hb, rfl⟩ := concL_cons.1 h
    exact concL_cons.2 ⟨c, b, hv, hb, rfl⟩
  | x :: l, r, i + 1, v, c, h, hv => by
    obtain ⟨a, b, ha, hb, rfl⟩ := concL_cons.1 h
    exact concL_cons.2 ⟨a, _, ha, concL_set i v c hb hv, rfl⟩

theorem foldl_put (off : Nat) : ∀ (l : List Value) (k : Nat) (arr : Array Value), off + k + l.length ≤ arr.size →
    ((l.zipIdx k).foldl (fun cs (c, j) => cs.setIfInBounds (off + j) c) arr).toList = arr.toList.take (off + k) ++ l ++ arr.toList.drop (off + k + l.length)
  | [], k, arr, h => by simp
  | v :: l, k, arr, h => by
    simp only [List.length_cons] at h
    rw [List.zipIdx_cons, List.foldl_cons, foldl_put off l (k + 1) _ (by simp; omega)]
    simp only [Array.toList_setIfInBounds, List.length_cons]
    apply List.ext_getElem?
    intro j
    simp only [List.getElem?_append, List.length_append, List.length_take, List.length_set, Array.length_toList, List.getElem?_take, List.getElem?_set, List.getElem?_drop, List.length_cons]
    rw [Nat.min_eq_left (by omega), Nat.min_eq_left (by omega)]
    by_cases h1 : j < off + k
    · rw [if_pos (by omega), if_pos (by omega), if_pos (by omega), if_neg (by omega), if_pos (by omega), if_pos (by omega), if_pos (by omega)]
    · by_cases h2 : j = off + k
      · subst h2
        rw [if_pos (by omega), if_pos (by omega), if_pos (by omega), if_pos rfl, if_pos (by omega), if_pos (by omega), if_neg (by omega)]
        simp
      · by_cases h3 : j < off + k + 1 + l.length
        · rw [if_pos (by omega), if_neg (by omega), if_pos (by omega), if_neg (by omega)]
          rw [show j - (off + k) = (j - (off + (k + 1))) + 1 by omega]; simp
        · rw [if_neg (by omega), if_neg (by omega), if_neg (by omega)]
          congr 1; omega

def PlaceOk (pa pc : Nat → Option (Nat × Nat)) : Prop := ∀ i x, pa i = some x → pc i = some x

theorem path_fill {pa pc : Nat → Option (Nat × Nat)} (hp : PlaceOk pa pc) : ∀ (ps : List (Nat × AV)) (cps : List (Nat × Value)) (l : List AV) (r : List Value),
    (ps.map (·.1) = cps.map (·.1)) → (∀ (j : Nat) (p : Nat × AV) (q : Nat × Value), ps[j]? = some p → cps[j]? = some q → conc γ p.2 = some q.2) → concL γ l = some r →
    (fillParts pa ps l).path (fun l' => ∃ r', concL γ l' = some r' ∧ l'.length = l.length ∧ Instr.fill pc ⟨r⟩ cps = some ⟨r'⟩)
  | [], cps, l, r, hk, _, hr => by
    have : cps = [] := by cases cps with | nil => rfl | cons x y => simp at hk
    subst this
    exact ⟨r, hr, rfl, rfl⟩
  | (i, v) :: ps, [], l, r, hk, _, hr => by simp at hk
  | (i, v) :: ps, (i', c) :: cps, l, r, hk, hv, hr => by
    simp only [List.map_cons, List.cons.injEq] at hk
    obtain ⟨rfl, hk⟩ := hk
    have hvc : conc γ v = some c := hv 0 (i, v) (i, c) (by simp) (by simp)
    unfold fillParts
    cases hpi : pa i with
    | none => trivial
    | some x =>
      obtain ⟨off, size⟩ := x
      simp only
      refine R.pbd _ (path_cells v c hvc) fun z hz => ?_
      cases hg : (Nat.beq z.length size && Nat.ble (Nat.add off size) l.length) with
      | false => trivial
      | true =>
        simp only [Bool.and_eq_true] at hg
        have h1 : z.length = size := Nat.eq_of_beq_eq_true hg.1
        have h2 : off + size ≤ l.length := Nat.le_of_ble_eq_true hg.2
        have hzl := concL_len hz
        have hrl := concL_len hr
        simp at hzl
        have hr' := concL_append (concL_append (concL_take off hr) hz) (concL_drop (off + size) hr)
        refine R.path_mono ?_ (path_fill hp ps cps _ _ hk (fun j p q hp hq => hv (j + 1) p q (by simpa using hp) (by simpa using hq)) hr')
        rintro l' ⟨r', g1, g2, g3⟩
        refine ⟨r', g1, ?_, ?_⟩
        · rw [g2]; simp; omega
        · rw [Instr.fill, hp i _ hpi]
          simp only
          have : ¬ ((c.cells.size ≠ size || decide (off + c.cells.size > (Array.mk r).size)) = true) := by
            simp; omega
          rw [if_neg this]
          rw [← g3]
          congr 1
          apply Array.ext'
          have := foldl_put off c.cells.toList 0 ⟨r⟩ (by simp; omega)
          simp only [Nat.add_zero] at this
          rw [← Array.foldl_toList, Array.toList_zipIdx]
          rw [this]
          simp only [Array.length_toList]
          rw [show off + c.cells.size = off + size by omega]

theorem path_evPs (hR : Rel C base γ s w) (ht : TmpsRel γ nt t a.tmps) : ∀ l : List (Nat × Operand),
    (evPs C t l).path (fun ps => ps.map (·.1) = (l.map fun (i, x) => (i, a.eval x)).map (·.1) ∧ ∀ (j : Nat) (p : Nat × AV) (q : Nat × Value), ps[j]? = some p → (l.map fun (i, x) => (i, a.eval x))[j]? = some q → conc γ p.2 = some q.2)
  | [] => by refine ⟨rfl, ?_⟩; intro j p q h; simp at h
  | (i, x) :: l => by
    unfold evPs
    refine R.pbd _ (path_evA hR ht x) fun v hv => ?_
    refine R.pbd _ (path_evPs hR ht l) fun ps hps => ?_
    refine ⟨by simpa using hps.1, ?_⟩
    intro j p q hp hq
    cases j with
    | zero => simp at hp hq; subst hp; subst hq; exact hv
    | succ j => exact hps.2 j p q (by simpa using hp) (by simpa using hq)

theorem path_places (hC : Good C) : ∀ fs : List Field, (getPlaces C fs).path (fun pl => ∀ w, ((fs.mapM fun f => do pure (f.offset, ← sizeOf f.type) : Sem (List (Nat × Nat)))).run C.P w = .ok pl w)
  | [] => by intro w; simp
  | f :: fs => by
    unfold getPlaces
    refine R.pbd _ (path_ti hC f.type) fun i hi => ?_
    refine R.pbd _ (path_places hC fs) fun l hl => ?_
    intro w
    simp only [List.mapM_cons, Sem.run_bind, hi.2.size w, Result.andThen_ok, Sem.run_pure, hl w, bind_assoc, pure_bind]

theorem ok_build (hC : Good C) (hR : Rel C base γ s w) (ht : TmpsRel γ nt t a.tmps) (ty : TypeId) (parts : Array (Nat × Operand)) (rt : TypeId) :
    (opBuild ty parts rt C t s).path (NxOk C base γ s w ((VS (Instr.build ty (parts.map fun (i, x) => (i, a.eval x)))).run C.P w)) := by
  refine R.pbd _ (path_zero hC ty) fun z hz => ?_
  obtain ⟨_, v, _, _, hz1, hz2⟩ := hz
  refine R.pbd _ (path_evPs hR ht parts.toList) fun ps hps => ?_
  refine R.pbd _ (path_under hC ty) fun d hd => ?_
  have hzr : concL γ z = some v.cells.toList := hz2 γ
  have hlist : (parts.map fun (i, x) => (i, a.eval x)).toList = parts.toList.map fun (i, x) => (i, a.eval x) := by simp
  cases d with
  | struct fs =>
    refine R.pbd _ (path_places hC fs.toList) fun pl hpl => ?_
    refine R.pbd _ (path_fill (γ := γ) (pa := nth pl) (pc := fun i => pl[i]?) (fun i x h => by rw [nth_eq] at h; exact h) ps _ z _ hps.1 hps.2 hzr) fun cs hcs => ?_
    obtain ⟨r, h1, _, h3⟩ := hcs
    refine okVal hR (c := .agg ⟨r⟩) ?_ (by simp [conc, h1])
    unfold Instr.build
    simp only [Sem.run_bind, hz1 w, Result.andThen_ok, run_und hd w, Array.mapM_eq_mapM_toList, Sem.run_map, hpl w, hlist]
    have : Instr.fill (fun x => (List.toArray pl)[x]?) v.cells (parts.toList.map fun (i, x) => (i, a.eval x)) = some ⟨r⟩ := by
      rw [← h3]
      congr 1
      funext x; simp
    rw [this]; rfl
  | array n e =>
    refine R.pbd _ (path_ti hC e) fun i hi => ?_
    refine R.pbd _ (path_fill (γ := γ) (pa := fun k => some (Nat.mul k i.size, i.size)) (pc := fun k => some (k * i.size, i.size)) (fun _ x h => h) ps _ z _ hps.1 hps.2 hzr) fun cs hcs => ?_
    obtain ⟨r, h1, _, h3⟩ := hcs
    refine okVal hR (c := .agg ⟨r⟩) ?_ (by simp [conc, h1])
    unfold Instr.build
    simp only [Sem.run_bind, hz1 w, Result.andThen_ok, run_und hd w, hi.2.size w, hlist]
    have : Instr.fill (fun k => some (k * i.size, i.size)) v.cells (parts.toList.map fun (i, x) => (i, a.eval x)) = some ⟨r⟩ := by
      rw [← h3]
    rw [this]; rfl
  | _ => trivial

theorem concL_repl {γ : G} {z : List AV} {r : List Value} (h : concL γ z = some r) : ∀ n, ∃ q, concL γ (repl z n) = some q ∧ q.length = n * r.length ∧ ∀ j, j < n * r.length → q[j]? = r[j % r.length]?
  | 0 => ⟨[], by simp [repl, concL], by simp, by simp⟩
  | n + 1 => by
    obtain ⟨q, h1, h2, h3⟩ := concL_repl h n
    refine ⟨r ++ q, concL_append h h1, by simp [h2, Nat.succ_mul, Nat.add_comm], ?_⟩
    intro j hj
    rw [List.getElem?_append]
    split
    · next hlt => rw [Nat.mod_eq_of_lt hlt]
    · next hge =>
      have hge' : r.length ≤ j := by omega
      rw [h3 (j - r.length) (by rw [Nat.succ_mul] at hj; omega)]
      rw [Nat.mod_eq_sub_mod hge']

theorem ok_buildSlice (hC : Good C) (hR : Rel C base γ s w) (ht : TmpsRel γ nt t a.tmps) (ty : TypeId) (len : Nat) (parts : Array (Nat × Operand)) (rt : TypeId) :
    (opBuildSlice ty len parts rt C t s).path (NxOk C base γ s w ((VS (Instr.buildSlice ty len (parts.map fun (i, x) => (i, a.eval x)))).run C.P w)) := by
  refine R.pbd _ (path_under hC ty) fun d hd => ?_
  cases d with
  | slice e =>
    refine R.pbd _ (path_ti hC e) fun i hi => ?_
    refine R.pbd _ (R.path_guard _ _) fun _ hg => ?_
    have hle : len * i.size ≤ 16777216 := Nat.le_of_ble_eq_true hg
    refine R.pbd (fun z => ∃ r, concL γ z = some r ∧ (len * i.size ≠ 0 → r.length = i.size ∧ ∃ v : Value, (zeroValue e).run C.P w = .ok v w ∧ r = v.cells.toList) ∧ (len * i.size = 0 → z = [])) ?_ fun z hz => ?_
    · unfold zeroFor
      cases hb : Nat.beq (Nat.mul len i.size) 0
      · have hne : len * i.size ≠ 0 := fun h => by rw [show Nat.mul len i.size = 0 from h] at hb; cases hb
        refine R.pbd _ (path_zero hC e) fun z hz => ?_
        obtain ⟨_, v, _, _, h1, h2⟩ := hz
        refine R.pbd _ (R.path_guard _ _) fun _ hg2 => ?_
        refine ⟨_, h2 γ, fun _ => ⟨?_, v, h1 w, rfl⟩, fun h => absurd h hne⟩
        have := concL_len (h2 γ)
        rw [this]; exact Nat.eq_of_beq_eq_true hg2
      · have he : len * i.size = 0 := Nat.eq_of_beq_eq_true hb
        exact ⟨[], rfl, fun h => absurd he h, fun _ => rfl⟩
    · obtain ⟨r, hr, hz1, hz0⟩ := hz
      refine R.pbd _ (path_evPs hR ht parts.toList) fun ps hps => ?_
      obtain ⟨q, hq1, hq2, hq3⟩ := concL_repl hr len
      refine R.pbd _ (path_fill (γ := γ) (pa := fun k => some (Nat.mul k i.size, i.size)) (pc := fun k => some (k * i.size, i.size)) (fun _ x h => h) ps _ _ _ hps.1 hps.2 hq1) fun cs hcs => ?_
      obtain ⟨r', g1, g2, g3⟩ := hcs
      have hlist : (parts.map fun (i, x) => (i, a.eval x)).toList = parts.toList.map fun (i, x) => (i, a.eval x) := by simp
      have hql : q.length = len * i.size := by
        rw [hq2]
        by_cases h0 : len * i.size = 0
        · have hz := hz0 h0; subst hz
          simp only [concL, Option.some.injEq] at hr; subst hr; simp [h0]
        · rw [(hz1 h0).1]
      have hcl : cs.length = len * i.size := by rw [g2, ← concL_len hq1, hql]
      have hstep := Step.alloc (base := base) hR (cellsBlk e cs) (.cells ⟨r'⟩ e (0, 0)) 0 len (w' := w.alloc (.cells ⟨r'⟩ e (0, 0))) rfl rfl rfl rfl
        (newCells_rel hi.1 g1 (by omega) (by have := concL_len g1; simp; omega) (fun j c hj => by simpa using hj) _ 0 false 0 0 (by omega))
      refine ⟨_, .slice (some ⟨w.heap.size, 0, none⟩) len len, _, ?_, by simp [conc], hstep⟩
      have hbig : ¬ (len * i.size > 2 ^ 24) := by omega
      unfold VS Instr.buildSlice
      simp only [Sem.run_bind, run_und hd w, Result.andThen_ok, hi.2.size w, if_neg hbig, pure_bind, hlist, bind_assoc]
      have hfill : ∀ zv : Array Value, (len * i.size ≠ 0 → zv.toList = r) → Instr.fill (fun k => some (k * i.size, i.size)) (Array.map (fun x => zv[x % zv.size]!) (Array.range (len * i.size))) (parts.toList.map fun (i, x) => (i, a.eval x)) = some ⟨r'⟩ := by
        intro zv hzv
        rw [← g3]
        congr 1
        apply Array.ext'
        apply List.ext_getElem?
        intro j
        simp only [Array.toList_map, Array.toList_range, List.getElem?_map]
        by_cases hj : j < len * i.size
        · have hne : len * i.size ≠ 0 := by omega
          have hzs := hzv hne
          obtain ⟨hrl, v, _, _⟩ := hz1 hne
          have hsz : zv.size = i.size := by rw [← hrl, ← hzs]; simp
          have hpos : 0 < i.size := by
            rcases Nat.eq_zero_or_pos i.size with h | h
            · rw [h] at hne; simp at hne
            · exact h
          rw [hq3 j (by rw [hrl]; exact hj), List.getElem?_range hj]
          simp only [Option.map_some]
          have hm : j % zv.size < zv.size := Nat.mod_lt _ (by omega)
          rw [getElem!_pos zv _ hm, hrl, ← hsz, ← hzs]
          simp [hm]
        · rw [List.getElem?_eq_none (by simp; omega), List.getElem?_eq_none (by omega)]; rfl
      by_cases h0 : len * i.size = 0
      · simp only [h0, if_true, Sem.run_pure]
        have := hfill #[] (fun h => absurd h0 h)
        rw [h0] at this
        simp only [Sem.run_bind, Sem.run_pure, Result.andThen_ok, this, run_newRow]
      · obtain ⟨_, v, hv, hrv⟩ := hz1 h0
        have := hfill v.cells (fun _ => hrv.symm)
        simp only [if_neg h0, Sem.run_bind, hv, Result.andThen_ok, Sem.run_pure, this, run_newRow]
  | _ => trivial

end
end Go.Proofs.YtabknehmohoemaaGreatDoor.Abs

namespace Go.Proofs.YtabknehmohoemaaGreatDoor.Abs
open Go

section
variable {C : Ctx} {base : Nat} {γ : G} {s : S} {w : World} {nt : Nat} {t : Tr AV} {a : Act}

theorem wrap_small (n : Nat) (h : n ≤ 1099511627776) : IntKind.i64.wrap (n : Int) = (n : Int) := by
  have h1 : ((n : Int) % (2 ^ IntKind.i64.bits : Int)) = n := by
    show (n : Int) % (18446744073709551616 : Int) = n
    omega
  unfold IntKind.wrap
  simp only [h1]
  rw [if_neg]
  simp only [Bool.and_eq_true, decide_eq_true_eq, not_and]
  intro _
  show ¬ ((n : Int) ≥ (9223372036854775808 : Int))
  omega

theorem path_zeroFor (hC : Good C) (e : TypeId) {i : TI} (_hi : C.T.get e = some i) (n : Nat) :
    (zeroFor C e n i.size).path (fun z => ∃ r, concL γ z = some r ∧ (n ≠ 0 → r.length = i.size ∧ ∃ v : Value, (zeroValue e).run C.P w = .ok v w ∧ r = v.cells.toList) ∧ (n = 0 → z = [])) := by
  unfold zeroFor
  cases hb : Nat.beq n 0
  · have hne : n ≠ 0 := fun h => by rw [h] at hb; cases hb
    refine R.pbd _ (path_zero hC e) fun z hz => ?_
    obtain ⟨_, v, _, _, h1, h2⟩ := hz
    refine R.pbd _ (R.path_guard _ _) fun _ hg2 => ?_
    refine ⟨_, h2 γ, fun _ => ⟨?_, v, h1 w, rfl⟩, fun h => absurd h hne⟩
    have := concL_len (h2 γ)
    rw [this]; exact Nat.eq_of_beq_eq_true hg2
  · have he : n = 0 := Nat.eq_of_beq_eq_true hb
    exact ⟨[], rfl, fun h => absurd he h, fun _ => rfl⟩

/-- zero cells, as the model lays them -/
theorem zeros_eq {r : List Value} {n m : Nat} (hn : n = m * r.length) (zv : Array Value) (hz : n ≠ 0 → zv.toList = r) {q : List Value}
    (hq : q.length = n) (hq3 : ∀ j, j < n → q[j]? = r[j % r.length]?) : Array.map (fun x => zv[x % zv.size]!) (Array.range n) = ⟨q⟩ := by
  apply Array.ext'
  apply List.ext_getElem?
  intro j
  simp only [Array.toList_map, Array.toList_range, List.getElem?_map]
  by_cases hj : j < n
  · have hne : n ≠ 0 := by omega
    have hzs := hz hne
    have hsz : zv.size = r.length := by rw [← hzs]; simp
    have hpos : 0 < r.length := by
      rcases Nat.eq_zero_or_pos r.length with h | h
      · rw [h] at hn; simp at hn; omega
      · exact h
    rw [hq3 j hj, List.getElem?_range hj]
    simp only [Option.map_some]
    have hm : j % zv.size < zv.size := Nat.mod_lt _ (by omega)
    rw [getElem!_pos zv _ hm, ← hsz, ← hzs]
    simp [hm]
  · rw [List.getElem?_eq_none (by simp; omega), List.getElem?_eq_none (by omega)]; rfl

theorem ok_makeSlice (hC : Good C) (hR : Rel C base γ s w) (ht : TmpsRel γ nt t a.tmps) (ty : TypeId) (x y : Operand) (rt : TypeId) :
    (opMakeSlice ty x y rt C t s).path (NxOk C base γ s w ((VS (Instr.makeSlice ty (a.eval x) (a.eval y))).run C.P w)) := by
  refine R.pbd _ (path_under hC ty) fun d hd => ?_
  cases d with
  | slice e =>
    refine R.pbd _ (path_evA hR ht x) fun vx hvx => ?_
    refine R.pbd _ (path_asIdx vx) fun l hl => ?_
    obtain ⟨kl, rfl⟩ := hl
    refine R.pbd _ (path_evA hR ht y) fun vy hvy => ?_
    refine R.pbd _ (path_asIdx vy) fun c hc => ?_
    obtain ⟨kc, rfl⟩ := hc
    refine R.pbd _ (path_ti hC e) fun i hi => ?_
    refine R.pbd _ (R.path_guard _ _) fun _ hg => ?_
    simp only [Bool.and_eq_true] at hg
    have h1 : l ≤ c := Nat.le_of_ble_eq_true hg.1.1
    have h2 : c * i.bytes ≤ 1099511627776 := Nat.le_of_ble_eq_true hg.1.2
    have h3 : c ≤ 1099511627776 := Nat.le_of_ble_eq_true hg.2
    refine R.pbd _ (path_zeroFor (γ := γ) (w := w) hC e hi.1 _) fun z hz => ?_
    obtain ⟨r, hr, hz1, hz0⟩ := hz
    simp only [conc, Option.some.injEq] at hvx hvy
    obtain ⟨q, hq1, hq2, hq3⟩ := concL_repl hr c
    have hn : c * i.size = c * r.length := by
      by_cases h0 : c * i.size = 0
      · have := hz0 h0; subst this
        simp only [concL, Option.some.injEq] at hr; subst hr; simpa using h0
      · rw [(hz1 h0).1]
    have hql : q.length = c * i.size := by rw [hq2, hn]
    have hstep := Step.alloc (base := base) hR (cellsBlk e (repl z c)) (.cells ⟨q⟩ e (0, 0)) 0 c (w' := w.alloc (.cells ⟨q⟩ e (0, 0))) rfl rfl rfl rfl
      (newCells_rel hi.1 hq1 (by have := concL_len hq1; omega) (by simp; omega) (fun j c hj => by simpa using hj) _ 0 false 0 0 (by omega))
    refine ⟨_, .slice (some ⟨w.heap.size, 0, none⟩) l c, _, ?_, by simp [conc], hstep⟩
    obtain ⟨tinf, t1, t2, t3, _⟩ := hi.2.info
    have hw1 : IntKind.i64.wrap (Int.ofNat l) = (l : Int) := wrap_small l (by omega)
    have hw2 : IntKind.i64.wrap (Int.ofNat c) = (c : Int) := wrap_small c h3
    have hcond : ¬ ((decide ((c : Int) < 0) || decide ((tinf.bytes : Int) * (c : Int) > 2 ^ 48) || decide ((l : Int) < 0) || decide ((l : Int) > (c : Int))) = true) := by
      have : (tinf.bytes : Int) * (c : Int) = ((c * i.bytes : Nat) : Int) := by rw [t2]; push_cast; rw [Int.mul_comm]
      rw [this]
      simp only [Bool.or_eq_true, decide_eq_true_eq, not_or]
      refine ⟨⟨⟨?_, ?_⟩, ?_⟩, ?_⟩ <;> omega
    have ha : ∀ k n, (Go.asInt (.int k n)).run C.P w = .ok n w := fun _ _ => rfl
    unfold VS Instr.makeSlice
    rw [← hvx, ← hvy]
    simp only [Sem.run_bind, run_und hd w, Result.andThen_ok, ha, Sem.run_pure, typeInfo, run_program, t1, hw1, hw2]
    rw [if_neg hcond]
    simp only [Sem.run_bind, run_askRoom, Result.andThen_ok, hi.2.size w, Int.toNat_natCast]
    by_cases h0 : c * i.size = 0
    · have hze := zeros_eq (n := c * i.size) (m := c) hn #[] (fun h => absurd h0 h) hql (fun j hj => by rw [hn] at hj; exact hq3 j hj)
      rw [if_pos h0]
      simp only [Sem.run_bind, Sem.run_pure, Result.andThen_ok]
      rw [hze, run_newRow]
      rfl
    · obtain ⟨_, v, hv, hrv⟩ := hz1 h0
      have hze := zeros_eq (n := c * i.size) (m := c) hn v.cells (fun _ => hrv.symm) hql (fun j hj => by rw [hn] at hj; exact hq3 j hj)
      rw [if_neg h0]
      simp only [Sem.run_bind, hv, Result.andThen_ok, Sem.run_pure]
      rw [hze, run_newRow]
      rfl
  | _ => trivial

end
end Go.Proofs.YtabknehmohoemaaGreatDoor.Abs

namespace Go.Proofs.YtabknehmohoemaaGreatDoor.Abs
open Go

section
variable {C : Ctx} {base : Nat} {γ : G} {s : S} {w : World} {nt : Nat} {t : Tr AV} {a : Act}

/-- an index that may be left out -/
def IdxRel : Option Nat → Option Value → Prop
  | none, none => True
  | some n, some c => ∃ k, c = .int k (.ofNat n)
  | _, _ => False

theorem path_evO (hR : Rel C base γ s w) (ht : TmpsRel γ nt t a.tmps) (x : Option Operand) :
    (evO C t x).path (fun v => match v, x.map a.eval with | none, none => True | some v, some c => conc γ v = some c | _, _ => False) := by
  cases x with
  | none => trivial
  | some x =>
    refine R.pbd _ (path_evA hR ht x) fun v hv => ?_
    exact hv
theorem path_optIdx (v : Option AV) (c : Option Value) (h : match v, c with | none, none => True | some v, some c => conc γ v = some c | _, _ => False) :
    (optIdx v).path (fun n => IdxRel n c) := by
  cases v with
  | none => cases c with
    | none => trivial
    | some c => exact h.elim
  | some v => cases c with
    | none => exact h.elim
    | some c =>
      refine R.pbd _ (path_asIdx v) fun n hn => ?_
      obtain ⟨k, rfl⟩ := hn
      simp only [conc, Option.some.injEq] at h
      exact ⟨k, h.symm⟩

theorem run_sliceBound {P : Program} (k : IntKind) (n y : Nat) (code : BoundsCode) (h : n ≤ y) (w : World) : (Instr.sliceBound (.int k (n : Int)) y code).run P w = .ok n w := by
  have h0 : (0 : Int) ≤ (n : Int) ∧ (n : Int) ≤ (y : Int) := ⟨Int.natCast_nonneg n, Int.ofNat_le.2 h⟩
  simp only [Instr.sliceBound, asIntOf, pure_bind, h0, and_self, if_true]
  rfl

theorem run_sliceBounds {P : Program} (b : Bool) (len cap : Nat) {lo hi mx : Option Nat} {clo chi cmx : Option Value} (h1 : IdxRel lo clo) (h2 : IdxRel hi chi) (h3 : IdxRel mx cmx)
    (hg : inB (lo.getD 0) (hi.getD len) (mx.getD cap) cap hi mx = true) (w : World) :
    (Instr.sliceBounds b len cap clo chi cmx).run P w = .ok (lo.getD 0, hi.getD len, mx.getD cap) w := by
  simp only [inB, Bool.and_eq_true] at hg
  obtain ⟨⟨⟨g1, g2⟩, g3⟩, g4⟩ := hg
  have g1 := Nat.le_of_ble_eq_true g1
  have g2 := Nat.le_of_ble_eq_true g2
  have g3 := Nat.le_of_ble_eq_true g3
  unfold Instr.sliceBounds
  cases mx with
  | none =>
    cases cmx with
    | some c => exact h3.elim
    | none =>
      cases hi with
      | none => cases chi with
        | some c => exact h2.elim
        | none => cases lo with
          | none => cases clo with
            | some c => exact h1.elim
            | none => rfl
          | some l => cases clo with
            | none => exact h1.elim
            | some c =>
              obtain ⟨k, rfl⟩ := h1
              simp only [Option.getD] at g1 g2 g3 ⊢
              simp [run_sliceBound _ _ _ _ g3]
      | some h => cases chi with
        | none => exact h2.elim
        | some c =>
          obtain ⟨k, rfl⟩ := h2
          cases lo with
          | none => cases clo with
            | some c => exact h1.elim
            | none =>
              simp only [Option.getD] at g1 g2 g3 ⊢
              simp [run_sliceBound _ _ _ _ g2]
          | some l => cases clo with
            | none => exact h1.elim
            | some c =>
              obtain ⟨k', rfl⟩ := h1
              simp only [Option.getD] at g1 g2 g3 ⊢
              simp [run_sliceBound _ _ _ _ g2, run_sliceBound _ _ _ _ g3]
  | some m =>
    cases cmx with
    | none => exact h3.elim
    | some cm =>
      obtain ⟨km, rfl⟩ := h3
      cases hi with
      | none => simp at g4
      | some h => cases chi with
        | none => exact h2.elim
        | some c =>
          obtain ⟨k, rfl⟩ := h2
          cases lo with
          | none => cases clo with
            | some c => exact h1.elim
            | none =>
              simp only [Option.getD] at g1 g2 g3 ⊢
              simp [run_sliceBound _ _ _ _ g2, run_sliceBound _ _ _ _ g1]
          | some l => cases clo with
            | none => exact h1.elim
            | some c =>
              obtain ⟨k', rfl⟩ := h1
              simp only [Option.getD] at g1 g2 g3 ⊢
              simp [run_sliceBound _ _ _ _ g2, run_sliceBound _ _ _ _ g3, run_sliceBound _ _ _ _ g1]

theorem movedTo_eq (m a off sz blk dl : Nat) : (if m = a then (⟨blk, dl + off, none⟩ : Addr) else Addr.add ⟨blk, dl + off, none⟩ (a * sz)) = ⟨blk, dl + movedTo m a off sz, none⟩ := by
  unfold movedTo
  by_cases h : m = a
  · subst h; simp
  · have : Nat.beq m a = false := by
      cases hb : Nat.beq m a
      · rfl
      · exact absurd (Nat.eq_of_beq_eq_true hb) h
    rw [if_neg h, this, addr_add]
    simp only
    congr 1
    show dl + off + a * sz = dl + (off + a * sz)
    omega

theorem ba_extract (l : List UInt8) (a h : Nat) : (ByteArray.mk ⟨l⟩).extract a h = ⟨⟨(l.take h).drop a⟩⟩ := by
  apply ByteArray.ext
  simp only [ByteArray.data_extract]
  apply Array.ext'
  simp [List.extract, List.drop_take]

theorem ok_slice (hC : Good C) (hR : Rel C base γ s w) (ht : TmpsRel γ nt t a.tmps) (ty : TypeId) (x : Operand) (lo hi mx : Option Operand) (rt : TypeId) :
    (opSlice ty x lo hi mx rt C t s).path (NxOk C base γ s w ((VS (Instr.sliceAt ty (a.eval x) (lo.map a.eval) (hi.map a.eval) (mx.map a.eval))).run C.P w)) := by
  refine R.pbd _ (path_evA hR ht x) fun v hv => ?_
  refine R.pbd _ (path_evO hR ht lo) fun vlo hlo => ?_
  refine R.pbd _ (path_evO hR ht hi) fun vhi hhi => ?_
  refine R.pbd _ (path_evO hR ht mx) fun vmx hmx => ?_
  refine R.pbd (fun r => ∃ c, conc γ r = some c ∧ (Instr.sliceAt ty (a.eval x) (lo.map a.eval) (hi.map a.eval) (mx.map a.eval)).run C.P w = .ok c w) ?_ fun r hr => (let ⟨c, h1, h2⟩ := hr; okVal hR h2 h1)
  unfold sliceOp
  refine R.pbd _ (path_optIdx vlo _ hlo) fun l hl => ?_
  refine R.pbd _ (path_optIdx vhi _ hhi) fun h hh => ?_
  refine R.pbd _ (path_optIdx vmx _ hmx) fun m hm => ?_
  refine R.pbd _ (path_under hC ty) fun d hd => ?_
  cases v with
  | str q =>
    cases d with
    | string =>
      refine R.pbd _ (R.path_guard _ _) fun _ hg => ?_
      simp only [Bool.and_eq_true] at hg
      obtain ⟨hg, hn⟩ := hg
      have hmn : m = none := by cases m <;> simp_all
      subst hmn
      cases hcm : mx.map a.eval with
      | some _ => rw [hcm] at hm; exact hm.elim
      | none =>
        simp only [conc, Option.some.injEq] at hv
        refine ⟨_, rfl, ?_⟩
        unfold Instr.sliceAt
        rw [run_und' hd]
        simp only [Instr.slice]
        rw [run_und' hd]
        rw [← hv]
        have hsz : (ByteArray.mk ⟨q⟩).size = q.length := rfl
        have := run_sliceBounds (P := C.P) false q.length q.length hl hh (show IdxRel none none from trivial) (by simpa using hg) w
        simp only [Option.isSome_none, Bool.false_eq_true, if_false, hsz, Sem.run_bind, this, Result.andThen_ok, Sem.run_pure, ba_extract]
    | _ => trivial
  | nilsl =>
    cases d with
    | slice e =>
      refine R.pbd _ (path_ti hC e) fun i hi' => ?_
      refine R.pbd _ (R.path_guard _ _) fun _ hg => ?_
      simp only [conc, Option.some.injEq] at hv
      refine ⟨_, rfl, ?_⟩
      unfold Instr.sliceAt
      rw [run_und' hd]
      simp only [Instr.slice]
      rw [run_und' hd]
      rw [← hv]
      have := run_sliceBounds (P := C.P) true 0 0 hl hh hm hg w
      simp only [inB, Bool.and_eq_true] at hg
      have g1 := Nat.le_of_ble_eq_true hg.1.1.1
      have g2 := Nat.le_of_ble_eq_true hg.1.1.2
      have g3 := Nat.le_of_ble_eq_true hg.1.2
      have e1 : m.getD 0 = 0 := by omega
      have e2 : h.getD 0 = 0 := by omega
      have e3 : l.getD 0 = 0 := by omega
      simp only [Sem.run_bind, this, Result.andThen_ok, hi'.2.size w, Sem.run_pure, e1, e2, e3]
      rfl
    | _ => trivial
  | sl b off len cap =>
    cases d with
    | slice e =>
      refine R.pbd _ (path_ti hC e) fun i hi' => ?_
      refine R.pbd _ (R.path_guard _ _) fun _ hg => ?_
      simp only [conc, Option.map_eq_some_iff] at hv
      obtain ⟨lc, hlc, he⟩ := hv
      refine ⟨.slice (some ⟨lc.blk, lc.dl + movedTo (m.getD cap) (l.getD 0) off i.size, none⟩) (h.getD len - l.getD 0) (m.getD cap - l.getD 0), by simp [conc, hlc], ?_⟩
      unfold Instr.sliceAt
      rw [run_und' hd]
      simp only [Instr.slice]
      rw [run_und' hd]
      rw [← he]
      have := run_sliceBounds (P := C.P) true len cap hl hh hm hg w
      simp only [Sem.run_bind, this, Result.andThen_ok, hi'.2.size w, Sem.run_pure, Option.map_some]
      have h2 := movedTo_eq (m.getD cap) (l.getD 0) off i.size lc.blk lc.dl
      rw [← h2]
      split <;> rfl
    | _ => trivial
  | osl b pre e0 len sz =>
    cases d with
    | slice e =>
      refine R.pbd _ (path_ti hC e) fun i hi' => ?_
      cases m with
      | none =>
        refine R.pbd _ (R.path_guard _ _) fun _ hg => ?_
        simp only [Bool.and_eq_true] at hg
        obtain ⟨hg1, hg2⟩ := hg
        simp only [conc, Option.map_eq_some_iff] at hv
        obtain ⟨lc, hlc, he⟩ := hv
        obtain ⟨k1, k2, k3⟩ := oOk_spec hR hi'.1 hlc hg1
        have k3' : e0 + h.getD len ≤ lc.cp := k3
        have hg2' : l.getD 0 ≤ h.getD len := Nat.le_of_ble_eq_true hg2
        have hb : inB (l.getD 0) (h.getD len) ((none : Option Nat).getD (lc.cp - e0)) (lc.cp - e0) h none = true := by
          simp only [inB, Bool.and_eq_true, Option.getD_none]
          refine ⟨⟨⟨Nat.ble_eq_true_of_le (Nat.le_refl _), Nat.ble_eq_true_of_le (by omega)⟩, hg2⟩, by simp⟩
        have hrun := run_sliceBounds (P := C.P) true len (lc.cp - e0) hl hh hm hb w
        have hgoal : ∀ v, (∀ c, conc γ v = some c → c = .slice (if lc.cp - e0 = l.getD 0 then some ⟨lc.blk, lc.dl + (if e0 < lc.cp then e0 else pre) * sz, none⟩ else (some ⟨lc.blk, lc.dl + (if e0 < lc.cp then e0 else pre) * sz, none⟩ : Option Addr).map (·.add (l.getD 0 * i.size))) (h.getD len - l.getD 0) (lc.cp - e0 - l.getD 0)) →
            (∃ c, conc γ v = some c) → ∃ c, conc γ v = some c ∧ (Instr.sliceAt ty (a.eval x) (lo.map a.eval) (hi.map a.eval) (mx.map a.eval)).run C.P w = .ok c w := by
          rintro v hv ⟨c, hc⟩
          refine ⟨c, hc, ?_⟩
          rw [hv c hc]
          unfold Instr.sliceAt
          rw [run_und' hd]
          simp only [Instr.slice]
          rw [run_und' hd]
          rw [← he]
          simp only [Option.getD_none] at hrun
          simp only [Sem.run_bind, hrun, Result.andThen_ok, hi'.2.size w, Sem.run_pure]
        cases hl0 : l.getD 0 with
        | zero =>
          refine hgoal _ (fun c hc => ?_) ⟨_, by simp [conc, hlc]; rfl⟩
          simp only [conc, hlc, Option.map_some, Option.some.injEq] at hc
          rw [← hc, hl0]
          simp only [Nat.sub_zero, Nat.zero_mul, Option.map_some, Addr.add, if_true, ite_self]
        | succ n =>
          refine hgoal _ (fun c hc => ?_) ⟨_, by simp [conc, hlc]; rfl⟩
          simp only [conc, hlc, Option.map_some, Option.some.injEq] at hc
          rw [← hc, hl0]
          have hlt : e0 < lc.cp := by omega
          simp only [hlt, if_true, Option.map_some, addr_add, k1]
          have e1 : lc.cp - (e0.add (n + 1)) = lc.cp - e0 - (n + 1) := by show lc.cp - (e0 + (n + 1)) = _; omega
          by_cases hq : lc.cp - e0 = n + 1
          · have : ¬ (e0.add (n + 1) < lc.cp) := by show ¬ (e0 + (n + 1) < lc.cp); omega
            rw [if_pos hq, if_neg this, e1]; rfl
          · have : (e0.add (n + 1) < lc.cp) := by show (e0 + (n + 1) < lc.cp); omega
            rw [if_neg hq, if_pos this, e1]
            congr 3
            show lc.dl + (e0 + (n + 1)) * sz = lc.dl + e0 * sz + (n + 1) * sz
            rw [Nat.add_mul]; omega
      | some m =>
        refine R.pbd _ (R.path_guard _ _) fun _ hg => ?_
        simp only [Bool.and_eq_true, Bool.not_eq_true'] at hg
        obtain ⟨⟨⟨hg1, hg2⟩, hg3⟩, hg4⟩ := hg
        simp only [conc, Option.map_eq_some_iff] at hv
        obtain ⟨lc, hlc, he⟩ := hv
        obtain ⟨k1, k2, k3⟩ := oOk_spec hR hi'.1 hlc hg1
        have k3' : e0 + len ≤ lc.cp := k3
        have hm' : m ≤ len := Nat.le_of_ble_eq_true hg2
        have hlen : len ≠ 0 := by rintro rfl; exact absurd hg3 (by decide)
        have hlt : e0 < lc.cp := by omega
        rw [if_pos hlt] at he
        refine ⟨.slice (some ⟨lc.blk, lc.dl + movedTo m (l.getD 0) (e0 * sz) sz, none⟩) (h.getD len - l.getD 0) (m - l.getD 0), by simp [conc, hlc], ?_⟩
        have hb : inB (l.getD 0) (h.getD len) ((some m : Option Nat).getD (lc.cp - e0)) (lc.cp - e0) h (some m) = true := by
          simp only [inB, Bool.and_eq_true, Option.getD_some] at hg4 ⊢
          exact ⟨⟨⟨Nat.ble_eq_true_of_le (by omega), hg4.1.1.2⟩, hg4.1.2⟩, hg4.2⟩
        unfold Instr.sliceAt
        rw [run_und' hd]
        simp only [Instr.slice]
        rw [run_und' hd]
        rw [← he]
        have := run_sliceBounds (P := C.P) true len (lc.cp - e0) hl hh hm hb w
        simp only [Option.getD_some] at this
        simp only [Sem.run_bind, this, Result.andThen_ok, hi'.2.size w, Sem.run_pure, Option.map_some]
        have h2 := movedTo_eq m (l.getD 0) (e0 * i.size) i.size lc.blk lc.dl
        rw [← k1, ← h2]
        split <;> rfl
    | _ => trivial
  | ptr b off =>
    cases d with
    | array n e =>
      refine R.pbd _ (path_ti hC e) fun i hi' => ?_
      refine R.pbd _ (R.path_guard _ _) fun _ hg => ?_
      simp only [conc, Option.map_eq_some_iff] at hv
      obtain ⟨lc, hlc, he⟩ := hv
      refine ⟨.slice (some ⟨lc.blk, lc.dl + movedTo (m.getD n) (l.getD 0) off i.size, none⟩) (h.getD n - l.getD 0) (m.getD n - l.getD 0), by simp [conc, hlc], ?_⟩
      unfold Instr.sliceAt
      rw [run_und' hd]
      rw [← he]
      have := run_sliceBounds (P := C.P) false n n hl hh hm hg w
      simp only [Instr.sureAddr, pure_bind, Sem.run_bind, this, Result.andThen_ok, hi'.2.size w, Sem.run_pure]
      rw [← movedTo_eq (m.getD n) (l.getD 0) off i.size lc.blk lc.dl]
    | _ => trivial
  | _ => trivial

end
end Go.Proofs.YtabknehmohoemaaGreatDoor.Abs
