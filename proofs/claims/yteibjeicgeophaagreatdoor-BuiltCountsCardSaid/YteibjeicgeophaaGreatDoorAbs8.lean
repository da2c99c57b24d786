/- Closed facts over a table of what each function names: the rest of its laws. Conditions: those of each theorem. -/
import Derived.Test.YteibjeicgeophaaGreatDoorAbs7
import Derived.SevenTiedAt
namespace Go.Proofs.YteibjeicgeophaaGreatDoor.Abs
open Go
theorem TabOf.bind {P : Program} {L : List FS} (h : TabOf P L) {α : Type} (g : Nat) (p : Func → Option α) (q : FS → Option α) (hp : ∀ fn, p fn = q (fsOf P fn)) : (P.funcs[g]?).bind p = ((Tr.ofList L).get g).bind q := by
  rw [← h.get]; cases P.funcs[g]? with
  | none => rfl
  | some fn => exact hp fn
theorem TabOf.any {P : Program} {L : List FS} (h : TabOf P L) (g : Nat) (p : Func → Bool) (q : FS → Bool) (hp : ∀ fn, p fn = q (fsOf P fn)) : (P.funcs[g]?).any p = ((Tr.ofList L).get g).any q := by
  rw [← h.get]; cases P.funcs[g]? with
  | none => rfl
  | some fn => exact hp fn
theorem ClOf.bind {P : Program} {T : Tr FS} {N f : Nat} {K : List Nat} (h : ClOf P T N f K) {α : Type} (g : Nat) (p : Func → Option α) (q : FS → Option α) (hp : ∀ fn, p fn = q (fsOf P fn)) : (P.funcs[g]?).bind p = (T.get g).bind q := by
  rw [← h.h]; cases P.funcs[g]? with
  | none => rfl
  | some fn => exact hp fn
theorem ClOf.any {P : Program} {T : Tr FS} {N f : Nat} {K : List Nat} (h : ClOf P T N f K) (g : Nat) (p : Func → Bool) (q : FS → Bool) (hp : ∀ fn, p fn = q (fsOf P fn)) : (P.funcs[g]?).any p = (T.get g).any q := by
  rw [← h.h]; cases P.funcs[g]? with
  | none => rfl
  | some fn => exact hp fn
theorem ClOf.to {P : Program} {T : Tr FS} {N f : Nat} {K : List Nat} (h : ClOf P T N f K) (g : Nat) : (P.funcs[g]?).elim [] P.leadsTo = fsTo T g := by
  unfold fsTo; rw [← h.h]; cases P.funcs[g]? <;> rfl
theorem ClOf.inPlace {P : Program} {T : Tr FS} {N f : Nat} {K : List Nat} (h : ClOf P T N f K) {r : List String} (e : K.filterMap (fun g => (T.get g).bind (·.nm)) = r) : P.inPlace f = r := by
  unfold Program.inPlace
  rw [h.cl, ← e]
  congr 1; funext g
  exact h.bind g _ _ fun _ => rfl
theorem ClOf.unfollowed {P : Program} {T : Tr FS} {N f : Nat} {K : List Nat} (h : ClOf P T N f K) {r : Bool} (e : K.any (fun g => (T.get g).any (·.un)) = r) : P.unfollowed f = r := by
  unfold Program.unfollowed
  rw [h.cl, ← e]
  congr 1; funext g
  exact h.any g _ _ fun _ => rfl
theorem ClOf.recurses {P : Program} {T : Tr FS} {N f : Nat} {K : List Nat} (h : ClOf P T N f K) {r : Bool}
    (e : (K.any (fun g => (T.get g).any (·.un)) || K.any fun g => (fsTo T g).any fun x => (clT T N [x] [] 0).contains g) = r) : P.recurses f = r := by
  unfold Program.recurses
  rw [h.unfollowed rfl, h.cl, ← e]
  congr 2; funext g
  rw [h.to]
  congr 1; funext x
  rw [h.all]
theorem ClOf.varsNamed {P : Program} {T : Tr FS} {N f : Nat} {K : List Nat} (h : ClOf P T N f K) {gs : List Nat} {r : List String}
    (e1 : (K.flatMap fun g => (T.get g).elim [] (·.gs)).eraseDups = gs)
    (e : (gs.filterMap (fun g => (P.globals[g]?).map (·.name)) ++ K.filterMap fun g => (T.get g).bind (·.er)).eraseDups = r) : P.varsNamed f = r := by
  unfold Program.varsNamed
  have h1 : (P.closure f).flatMap (fun g => ((P.funcs[g]?).bind (·.body)).elim [] Code.globalsNamed) = K.flatMap fun g => (T.get g).elim [] (·.gs) := by
    rw [h.cl]; congr 1; funext g
    rw [← h.h]; cases P.funcs[g]? <;> rfl
  have h2 : (P.closure f).filterMap (fun g => (P.funcs[g]?).bind fun fn => if fn.body.isNone then entryReads.lookup fn.name else none) = K.filterMap fun g => (T.get g).bind (·.er) := by
    rw [h.cl]; congr 1; funext g
    exact h.bind g _ _ fun _ => rfl
  rw [h1, h2, e1, e]
theorem ClOf.goes {P : Program} {T : Tr FS} {N f : Nat} {K : List Nat} (h : ClOf P T N f K) (e1 : K.any (fun g => (T.get g).any (·.un)) = false) (e : K.any (fun g => (T.get g).any (·.go)) = false) : P.goes f = false := by
  unfold Program.goes
  rw [h.unfollowed e1, Bool.false_and, Bool.or_false, h.cl, ← e]
  congr 1; funext g
  exact h.any g _ _ fun _ => rfl
theorem ClOf.goesBy {P : Program} {T : Tr FS} {N f : Nat} {K : List Nat} (h : ClOf P T N f K) {c : OpenClaim} (hf : P.funcNamed c.func = some f) (hs : c.start = .entering)
    (e1 : K.any (fun g => (T.get g).any (·.un)) = false) (e : K.any (fun g => (T.get g).any (·.go)) = false) : false = c.goesBy P := by
  unfold OpenClaim.goesBy Program.goesAt Program.goesFrom
  rw [hf, hs]
  show false = (P.goes f || false)
  rw [h.goes e1 e]; rfl
theorem TabOf.noGoes {P : Program} {L : List FS} (h : TabOf P L) (e : L.any (·.go) = false) (f : Nat) : P.goes f = false := by
  have h1 : P.funcs.any Func.goes = false := by
    rw [← Array.any_toList, ← e, ← h.eq, List.any_map]; rfl
  have h2 : ∀ g : Nat, (P.funcs[g]?).any Func.goes = false := fun g => by
    cases hg : P.funcs[g]? with
    | none => rfl
    | some fn =>
      show Func.goes fn = false
      have h3 := h1
      rw [Array.any_eq_false] at h3
      obtain ⟨hi, he⟩ := Array.getElem?_eq_some_iff.1 hg
      have := h3 g hi
      rw [he] at this
      exact Bool.eq_false_iff.2 this
  unfold Program.goes
  rw [h1, Bool.and_false, Bool.or_false, List.any_eq_false]
  exact fun g _ => by rw [h2 g]; exact Bool.false_ne_true
theorem TabOf.goesBy {P : Program} {L : List FS} (h : TabOf P L) (e : L.any (·.go) = false) {c : OpenClaim} (hs : c.start = .entering) : false = c.goesBy P := by
  unfold OpenClaim.goesBy Program.goesAt Program.goesFrom
  rw [hs]
  cases P.funcNamed c.func with
  | none => rfl
  | some f => show false = (P.goes f || false); rw [h.noGoes e f]; rfl
end Go.Proofs.YteibjeicgeophaaGreatDoor.Abs
