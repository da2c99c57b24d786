/- The proofs of the abstract machine's operations on memory and maps. Conditions: those of each theorem. -/
import Derived.Test.YteibjeicgeophaaGreatDoorAbs2
namespace Go.Proofs.YteibjeicgeophaaGreatDoor.Abs
open Go
section
variable {C : Ctx} {base : Nat} {γ : G} {s : S} {w : World} {nt : Nat} {t : Tr AV} {a : Act}
theorem path_cells (v : AV) (c : Value) (hv : conc γ v = some c) : v.cells.path (fun l => concL γ l = some c.cells.toList) := by
  cases v with
  | agg cs =>
    simp only [conc, Option.map_eq_some_iff] at hv
    obtain ⟨r, hr, rfl⟩ := hv
    exact hr
  | junk => trivial
  | raw u =>
    simp only [conc, Option.some.injEq] at hv; subst hv
    cases u <;> first | trivial | (show concL γ _ = _; simp [concL, conc, Value.cells])
  | opq k i =>
    have h1 := conc_opq hv
    cases c <;> first | (cases h1; done) | (show concL γ [_] = _; rw [concL_cons]; exact ⟨_, [], hv, rfl, rfl⟩)
  | vsl b n c' =>
    have hv' := hv
    obtain ⟨_, _, _, _, _, _, _, _, rfl⟩ := conc_vsl hv
    show concL γ [_] = _
    rw [concL_cons]; exact ⟨_, [], hv', rfl, rfl⟩
  | vptr b i sz k =>
    have hv' := hv
    obtain ⟨_, _, _, _, _, _, rfl⟩ := conc_vptr hv
    show concL γ [_] = _
    rw [concL_cons]; exact ⟨_, [], hv', rfl, rfl⟩
  | fn f l1 l2 =>
    have hv' := hv
    simp only [conc] at hv
    cases hn : noYield f <;> cases h1 : concL γ l1 <;> cases h2 : concL γ l2 <;> simp only [hn, h1, h2, reduceCtorEq, Option.some.injEq] at hv
    subst hv
    show concL γ [_] = _
    rw [concL_cons]; exact ⟨_, [], hv', rfl, rfl⟩
  | _ =>
    have hv' := hv
    simp only [conc, Option.map_eq_some_iff, Option.some.injEq] at hv
    first
      | (subst hv; show concL γ [_] = _; rw [concL_cons]; exact ⟨_, [], hv', rfl, rfl⟩)
      | (obtain ⟨l, hl, rfl⟩ := hv; show concL γ [_] = _; rw [concL_cons]; exact ⟨_, [], hv', rfl, rfl⟩)
theorem ok_load (hC : Good C) (hR : Rel C base γ s w) (ht : TmpsRel γ nt t a.tmps) (ty : TypeId) (x : Operand) (rt : TypeId) :
    (opLoad ty x rt C t s).path (NxOk C base γ s w ((VS (Instr.loadAt ty (a.eval x))).run C.P w)) := by
  refine R.pbd _ (path_evA hR ht x) fun v hv => ?_
  refine R.pbd _ (path_loadAt hC hR ty v _ hv) fun u hu => ?_
  obtain ⟨ad, c, hl, -, hc, hrun⟩ := hu
  refine okVal hR (c := c) ?_ hc
  rw [hl]
  simp only [Instr.loadAt, Instr.sureAddr, pure_bind]
  exact hrun
theorem oneA_conc {v : AV} {c : Value} (h : oneA v = true) (hv : conc γ v = some c) : c.oneCell' = true := by
  cases v with
  | opq k i =>
    have h1 := conc_opq hv
    cases c <;> first | (cases h1; done) | rfl
  | fn f l1 l2 =>
    simp only [conc] at hv
    cases hn : noYield f <;> cases h1 : concL γ l1 <;> cases h2 : concL γ l2 <;> simp only [hn, h1, h2, reduceCtorEq, Option.some.injEq] at hv
    subst hv; rfl
  | agg _ | tup _ | junk => cases h
  | vsl b n c' => obtain ⟨_, _, _, _, _, _, _, _, rfl⟩ := conc_vsl hv; rfl
  | vptr b i sz k => obtain ⟨_, _, _, _, _, _, rfl⟩ := conc_vptr hv; rfl
  | raw u =>
    simp only [conc, Option.some.injEq] at hv; subst hv
    cases u <;> first | rfl | cases h
  | _ =>
    simp only [conc, Option.map_eq_some_iff, Option.some.injEq] at hv
    first
      | (subst hv; rfl)
      | (obtain ⟨l, hl, rfl⟩ := hv; rfl)
theorem allOne_conc : ∀ {l : List AV} {r : List Value}, allOne l = true → concL γ l = some r → ∀ c ∈ r, c.oneCell' = true
  | [], r, _, hr, c, hc => by simp [concL] at hr; subst hr; simp at hc
  | v :: l, r, h, hr, c, hc => by
    obtain ⟨x, y, hx, hy, rfl⟩ := concL_cons.1 hr
    unfold allOne at h
    cases ho : oneA v
    · rw [ho] at h; cases h
    · rw [ho] at h
      rcases List.mem_cons.1 hc with rfl | hc
      · exact oneA_conc ho hx
      · exact allOne_conc h hy c hc
theorem oneCell'_store {v : Value} (h : v.oneCell' = true) : (∀ q, v ≠ .agg q) ∧ (∀ q, v ≠ .tuple q) := by
  constructor
  · rintro q rfl; cases h
  · rintro q rfl; cases h
def arrSet : Array Value → Nat → List Value → Array Value
  | arr, _, [] => arr
  | arr, i, v :: l => arrSet (arr.setIfInBounds i v) (i + 1) l
theorem arrSet_size : ∀ (l : List Value) (arr : Array Value) (i : Nat), (arrSet arr i l).size = arr.size
  | [], _, _ => rfl
  | v :: l, arr, i => by rw [arrSet, arrSet_size l]; simp
theorem arrSet_get : ∀ (l : List Value) (arr : Array Value) (i j : Nat), i + l.length ≤ arr.size →
    (arrSet arr i l)[j]? = if i ≤ j ∧ j < i + l.length then l[j - i]? else arr[j]?
  | [], arr, i, j, _ => by rw [if_neg (by simp only [List.length_nil]; omega)]; rfl
  | v :: l, arr, i, j, h => by
    simp only [List.length_cons] at h
    rw [arrSet, arrSet_get l _ _ _ (by simp; omega)]
    by_cases h1 : i + 1 ≤ j ∧ j < i + 1 + l.length
    · rw [if_pos h1, if_pos (by simp only [List.length_cons]; omega)]
      rw [show j - i = (j - (i + 1)) + 1 by omega]; simp
    · rw [if_neg h1]
      by_cases h2 : i = j
      · subst h2
        rw [if_pos (by simp only [List.length_cons]; omega)]
        simp [Array.getElem?_setIfInBounds]; omega
      · rw [if_neg (by simp only [List.length_cons]; omega)]
        simp [h2]
theorem run_storeCells {P : Program} (blk : Nat) (elem : TypeId) (lo hi : Nat) : ∀ (vs : List Value) (o i : Nat) (arr : Array Value) (w : World),
    w.heap[blk]? = some (.cells arr elem (lo, hi)) → o + i + vs.length ≤ arr.size → (∀ v ∈ vs, v.oneCell' = true) → (∀ off, o + i ≤ off → off < o + i + vs.length → ¬ (lo ≤ off ∧ off < hi)) →
    (storeCells ⟨blk, o, none⟩ vs i).run P w = .ok () { w with heap := w.heap.setIfInBounds blk (.cells (arrSet arr (o + i) vs) elem (lo, hi)) }
  | [], o, i, arr, w, hw, _, _, _ => by
    have hlt : blk < w.heap.size := by
      rcases Nat.lt_or_ge blk w.heap.size with h | h
      · exact h
      · rw [Array.getElem?_eq_none h] at hw; cases hw
    have : w.heap.setIfInBounds blk (.cells (arrSet arr (o + i) []) elem (lo, hi)) = w.heap := by
      apply Array.ext_getElem?
      intro k
      rw [Array.getElem?_setIfInBounds]
      by_cases h : blk = k
      · subst h; simp only [hlt, if_true]; exact hw.symm
      · simp [h]
    rw [this]; rfl
  | v :: vs, o, i, arr, w, hw, hlen, hone, hfr => by
    simp only [List.length_cons] at hlen hfr
    have hcell : w.cell? ⟨blk, o + i, none⟩ = arr[o + i]? := by simp [World.cell?, hw]
    have hin : o + i < arr.size := by omega
    have hc : w.cell? ⟨blk, o + i, none⟩ = some arr[o + i] := by rw [hcell]; exact Array.getElem?_eq_getElem hin
    have hf : w.frozen? ⟨blk, o + i, none⟩ = false := by
      have := hfr (o + i) (by omega) (by omega)
      simp only [World.frozen?, hw]
      simpa using this
    have hlt : blk < w.heap.size := by
      rcases Nat.lt_or_ge blk w.heap.size with h | h
      · exact h
      · rw [Array.getElem?_eq_none h] at hw; cases hw
    have h1 := oneCell'_store (hone v (by simp))
    have hst : (store ⟨blk, o + i, none⟩ v).run P w = .ok () (w.setCell ⟨blk, o + i, none⟩ v) := by
      unfold store
      cases v <;> first | exact absurd rfl (h1.1 _) | exact absurd rfl (h1.2 _) | (simp only [Sem.run, hc, hf]; rfl)
    have hset : w.setCell ⟨blk, o + i, none⟩ v = { w with heap := w.heap.setIfInBounds blk (.cells (arr.setIfInBounds (o + i) v) elem (lo, hi)) } := by
      unfold World.setCell
      congr 1
      apply Array.ext_getElem?
      intro k
      rw [Array.getElem?_modify, Array.getElem?_setIfInBounds]
      by_cases h : blk = k
      · subst h
        have hw2 : w.heap[blk] = .cells arr elem (lo, hi) := by
          rw [Array.getElem?_eq_getElem hlt] at hw; exact Option.some.inj hw
        simp [hlt, hw2]
      · simp [h]
    unfold storeCells
    rw [Sem.run_bind, addr_add, hst, Result.andThen_ok, hset]
    have hw' : ({ w with heap := w.heap.setIfInBounds blk (.cells (arr.setIfInBounds (o + i) v) elem (lo, hi)) } : World).heap[blk]? = some (.cells (arr.setIfInBounds (o + i) v) elem (lo, hi)) := by
      simp [hlt]
    rw [run_storeCells blk elem lo hi vs o (i + 1) _ _ hw' (by simp; omega) (fun x hx => hone x (by simp [hx])) (fun off h1 h2 => hfr off (by omega) (by omega))]
    congr 2
    show (w.heap.setIfInBounds blk _).setIfInBounds blk _ = w.heap.setIfInBounds blk _
    apply Array.ext_getElem?
    intro k
    simp only [Array.getElem?_setIfInBounds, Array.size_setIfInBounds]
    by_cases h : blk = k
    · subst h; simp [hlt, arrSet]; rfl
    · simp [h]
theorem delAll_get : ∀ (l : List Nat) (h : Tr Blk) (i : Nat), (delAll l h).get i = if i ∈ l then none else h.get i
  | [], h, i => by simp [delAll]
  | a :: l, h, i => by
    show (delAll l (h.del a)).get i = _
    rw [delAll_get l]
    by_cases h1 : i ∈ l
    · simp [h1]
    · rw [if_neg h1, Tr.get_del]
      by_cases h2 : a = i
      · subst h2; simp
      · have : i ≠ a := Ne.symm h2
        simp [h1, h2, this]
theorem path_wrCells (hR : Rel C base γ s w) (b off : Nat) (vs : List AV) (cs : List Value) (hcs : concL γ vs = some cs) (lc : Loc) (hl : γ b = some lc) :
    (wrCells s b off vs).path (fun s' => ∃ w', (storeCells ⟨lc.blk, lc.dl + off, none⟩ cs).run C.P w = .ok () w' ∧ Step C base γ s w γ s' w') := by
  unfold wrCells
  cases vs with
  | nil =>
    simp only [concL, Option.some.injEq] at hcs; subst hcs
    exact ⟨w, rfl, Step.refl hR⟩
  | cons v vs' =>
    simp only
    cases hb : s.h.get b with
    | none => trivial
    | some x =>
      cases x with
      | cells elem cells n fz anc st sg =>
        simp only
        cases hg : (!st && Nat.ble (Nat.add off (v :: vs').length) n && Nat.ble fz off && allOne (v :: vs')) with
        | false => trivial
        | true =>
          simp only [Bool.and_eq_true, Bool.not_eq_true'] at hg
          obtain ⟨⟨⟨hst, hle⟩, hfz⟩, hone⟩ := hg
          have hle' : off + (v :: vs').length ≤ n := Nat.le_of_ble_eq_true hle
          have hfz' : fz ≤ off := Nat.le_of_ble_eq_true hfz
          subst hst
          obtain ⟨l', o, h1, h2, arr, lo, hi, rfl, g1, g2, g3, g4, glh⟩ := hR.blk b _ hb
          rw [hl] at h1; obtain rfl := Option.some.inj h1
          have hlen := concL_len hcs
          have hrun := run_storeCells (P := C.P) lc.blk elem lo hi cs (lc.dl + off) 0 arr w h2 (by omega) (allOne_conc hone hcs) (by
            intro q hq1 hq2 hq
            rcases g4 rfl q hq.1 hq.2 with h | ⟨_, h⟩ <;> omega)
          have hlt : lc.blk < w.heap.size := by
            rcases Nat.lt_or_ge lc.blk w.heap.size with h | h
            · exact h
            · rw [Array.getElem?_eq_none h] at h2; cases h2
          refine ⟨_, hrun, ?_⟩
          have hget : ∀ i x, i ≠ b → ((delAll anc s.h).set b (.cells elem (Tr.setList (v :: vs') off cells) n fz [] false sg)).get i = some x → s.h.get i = some x ∧ i ∉ anc := by
            intro i x hi hx
            rw [Tr.get_set_other _ _ (Ne.symm hi), delAll_get] at hx
            split at hx
            · cases hx
            · next h => exact ⟨hx, h⟩
          have hnoshare : ∀ i x li, i ≠ b → ((delAll anc s.h).set b (.cells elem (Tr.setList (v :: vs') off cells) n fz [] false sg)).get i = some x → γ i = some li → li.blk = lc.blk → False := by
            intro i x li hi hx hγi hbl
            obtain ⟨hx1, hx2⟩ := hget i x hi hx
            rcases hR.sep i b x _ li lc hx1 hb hγi hl hi hbl with h | h
            · cases x <;> simp [AncOf] at h
            · cases x <;> simp [AncOf] at h
              exact hx2 h.1
          have hrel : Rel C base γ ⟨(delAll anc s.h).set b (.cells elem (Tr.setList (v :: vs') off cells) n fz [] false sg), s.next, s.pc⟩
              { w with heap := w.heap.setIfInBounds lc.blk (.cells (arrSet arr (lc.dl + off + 0) cs) elem (lo, hi)) } := by
            refine hR.setBlk hb hl hl ⟨rfl, rfl, rfl⟩ rfl (fun _ _ => rfl) (fun i x hi hx => (hget i x hi hx).1) (Tr.get_set_same _ _ _)
              (o' := .cells (arrSet arr (lc.dl + off + 0) cs) elem (lo, hi)) ?_ ?_ (by simp) ?_ (fun i x li hi hx h3 h4 => (hnoshare i x li hi hx h3 h4).elim) (fun i x li hi hx h3 h4 => (hnoshare i x li hi hx h3 h4).elim)
            · intro k hk
              simp [Ne.symm hk]
            · simp [hlt]
            · refine ⟨_, lo, hi, rfl, by rw [arrSet_size]; exact g1, ?_, ?_, ?_, glh⟩
              · intro i u hin hu
                rw [Tr.get_setList] at hu
                by_cases hr : off ≤ i ∧ i < off + (v :: vs').length
                · rw [if_pos hr] at hu
                  obtain ⟨c, hc, hcc⟩ := concL_get _ _ hcs hu
                  refine ⟨c, ?_, .inr hc⟩
                  rw [arrSet_get _ _ _ _ (by omega), if_pos (by omega)]
                  rw [show lc.dl + i - (lc.dl + off + 0) = i - off by omega]; exact hcc
                · rw [if_neg hr] at hu
                  obtain ⟨c, hc, hcc⟩ := g2 i u hin hu
                  refine ⟨c, ?_, hcc⟩
                  rw [arrSet_get _ _ _ _ (by omega), if_neg (by omega)]; exact hc
              · rw [arrSet_size]; exact g3
              · rw [arrSet_size]; exact g4
          refine Step.of ⟨Grow.refl γ, hrel, ⟨by simp, rfl, rfl, rfl, ?_⟩, ?_, Nat.le_refl _, fun _ _ h => hR.lt h, fun _ l h => .inl ⟨l, h⟩, ?_⟩
          · intro k ob hk hn
            have : k ≠ lc.blk := fun h => hn ⟨b, _, lc, hb, rfl, hl, h.symm⟩
            simp [Ne.symm this, hk]
          · rintro k ⟨i, x, li, h3, h4, h5, h6⟩ _
            by_cases hi : i = b
            · subst hi
              rw [hl] at h5; obtain rfl := Option.some.inj h5
              exact ⟨i, _, lc, hb, rfl, hl, h6⟩
            · exact ⟨i, x, li, (hget i x hi h3).1, h4, h5, h6⟩
          · intro i x h3 _
            by_cases hi : i = b
            · subst hi; exact ⟨_, hb⟩
            · exact ⟨x, (hget i x hi h3).1⟩
      | _ => trivial
def cellsAre (γ : G) (ks : List Kd) : Nat → List SE → List Dt → Prop
  | _, [], [] => True
  | p, x :: xs, d :: ds => seG γ x = some d ∧ (∃ q, ks[p % ks.length]? = some q ∧ q.fits d) ∧ cellsAre γ ks (p + 1) xs ds
  | _, _, _ => False
theorem cellsAre_len {ks : List Kd} : ∀ {p : Nat} {xs : List SE} {ds : List Dt}, cellsAre γ ks p xs ds → xs.length = ds.length
  | _, [], [], _ => rfl
  | _, _ :: _, _ :: _, h => by simp [cellsAre_len h.2.2]
  | _, [], _ :: _, h => h.elim
  | _, _ :: _, [], h => h.elim
theorem cellsAre_snoc {ks : List Kd} {x : SE} {d : Dt} : ∀ {p : Nat} {xs : List SE} {ds : List Dt}, cellsAre γ ks p xs ds → seG γ x = some d → (∃ q, ks[(p + ds.length) % ks.length]? = some q ∧ q.fits d) → cellsAre γ ks p (xs ++ [x]) (ds ++ [d])
  | p, [], [], _, h1, h2 => ⟨h1, h2, trivial⟩
  | p, _ :: _, _ :: ds, h, h1, h2 => ⟨h.1, h.2.1, cellsAre_snoc h.2.2 h1 (by rw [show p + 1 + ds.length = p + (ds.length + 1) by omega]; exact h2)⟩
  | _, [], _ :: _, h, _, _ => h.elim
  | _, _ :: _, [], h, _, _ => h.elim
theorem unsn_spec {ks : List Kd} : ∀ (y : SE) (acc : List SE) (es : List Dt), seG γ y = some (.ls ks es) →
    ∃ (pre : List SE) (es0 ds : List Dt), (unsn y acc).2 = pre ++ acc ∧ seG γ (unsn y acc).1 = some (.ls ks es0) ∧ es = es0 ++ ds ∧ cellsAre γ ks es0.length pre ds
  | .var _, _, es, h | .int _ _, _, es, h | .bool _, _, es, h | .str _, _, es, h | .a1 _ _, _, es, h | .a3 _ _ _ _, _, es, h => ⟨[], es, [], rfl, h, by simp, trivial⟩
  | .a2 o x y, acc, es, h => by
    by_cases ho : o = .sn
    · subst ho
      simp only [seG, Option.bind_eq_some_iff] at h
      obtain ⟨u, hu, d, hd, h⟩ := h
      simp only [e2] at h
      cases u <;> first | (cases h; done) | skip
      rename_i ks' es1
      simp only at h
      split at h
      · next hk =>
        have h := Option.some.inj h
        injection h with h1 h2
        subst h1; subst h2
        obtain ⟨pre, es0, ds, g1, g2, g3, g4⟩ := unsn_spec x (y :: acc) es1 hu
        refine ⟨pre ++ [y], es0, ds ++ [d], ?_, g2, by rw [g3, List.append_assoc], cellsAre_snoc g4 hd ?_⟩
        · show (unsn x (y :: acc)).2 = _
          rw [g1]; simp
        · rw [g3, List.length_append] at hk
          exact hk
      · cases h
    · have e : unsn (.a2 o x y) acc = (.a2 o x y, acc) := by
        cases o <;> first | rfl | exact absurd rfl ho
      rw [e]
      exact ⟨[], es, [], rfl, h, by simp, trivial⟩
theorem old_spec {ks0 : List Kd} : ∀ (xs : List SE) (ks : List Kd) (p0 : Nat) (ds : List Dt), cellsAre γ ks0 p0 xs ds → (∃ p, ks = ks0.drop p ∧ p ≤ ks0.length ∧ p0 % ks0.length = p % ks0.length) →
    concL γ (oldAVs ks0 xs ks) = some (ds.map Dt.v)
  | [], _, _, [], _, _ => rfl
  | x :: xs, ks, p0, d :: ds, h, ⟨p, hp, hle, hmod⟩ => by
    obtain ⟨h1, ⟨q0, h2, h3⟩, h4⟩ := h
    have step : ∀ (q : Kd) (ks' : List Kd) (p' : Nat), ks0[p0 % ks0.length]? = some q → ks' = ks0.drop p' → p' ≤ ks0.length → (p0 + 1) % ks0.length = p' % ks0.length → concL γ (.opq q x :: oldAVs ks0 xs ks') = some ((d :: ds).map Dt.v) := by
      intro q ks' p' hq hk' hle' hm
      rw [hq] at h2
      obtain rfl := Option.some.inj h2
      exact concL_cons.2 ⟨d.v, ds.map Dt.v, conc_of h1 h3 rfl, old_spec xs ks' (p0 + 1) ds h4 ⟨p', hk', hle', hm⟩, rfl⟩
    cases ks with
    | nil =>
      have hpl : p = ks0.length := by
        have := congrArg List.length hp
        simp only [List.length_nil, List.length_drop] at this
        omega
      cases ks0 with
      | nil => simp at h2
      | cons q ks' =>
        have h0 : p0 % (q :: ks').length = 0 := by rw [hmod, hpl, Nat.mod_self]
        refine step q ks' 1 (by rw [h0]; rfl) rfl (by simp) ?_
        rw [Nat.add_mod, h0, Nat.zero_add, Nat.mod_mod]
    | cons q ks' =>
      have hlt : p < ks0.length := by
        rcases Nat.lt_or_ge p ks0.length with h' | h'
        · exact h'
        · rw [List.drop_eq_nil_of_le h'] at hp; cases hp
      have hd := List.drop_eq_getElem_cons hlt
      rw [← hp] at hd
      injection hd with hd1 hd2
      have hm0 : p0 % ks0.length = p := by rw [hmod, Nat.mod_eq_of_lt hlt]
      refine step q ks' (p + 1) (by rw [hm0, List.getElem?_eq_getElem hlt, hd1]) hd2 hlt ?_
      rw [Nat.add_mod, hm0, Nat.add_mod p 1, Nat.mod_eq_of_lt hlt]
  | [], _, _, _ :: _, h, _ => h.elim
  | _ :: _, _, _, [], h, _ => h.elim
theorem tkOf_spec {e : SE} {p : Nat × SE} (h : tkOf e = some p) : ∃ x, e = .a2 (.tk p.1) x p.2 := by
  unfold tkOf at h
  cases e <;> first | (cases h; done) | skip
  rename_i o x y
  cases o <;> first | (cases h; done) | skip
  obtain rfl := Option.some.inj h
  exact ⟨x, rfl⟩
theorem upCells_spec {ks : List Kd} {sz : Nat} {i : SE} {kd : IntKind} {q : Nat} (hsz : ks.length = sz) (hi : seG γ i = some (.val (.int kd (.ofNat q)))) : ∀ (l : List AV) (k : Nat) (e y' : SE) (es : List Dt) (cs : List Value),
    concL γ l = some cs → seG γ e = some (.ls ks es) → q * sz + sz ≤ es.length → k + l.length ≤ sz → upCells C ks sz i l k e = some y' →
    ∃ es', seG γ y' = some (.ls ks es') ∧ es'.length = es.length ∧ ∀ j, (es'[j]?).map Dt.v = if q * sz + k ≤ j ∧ j < q * sz + k + cs.length then cs[j - (q * sz + k)]? else (es[j]?).map Dt.v
  | [], k, e, y', es, cs, hcs, he, _, _, h => by
    simp only [concL, Option.some.injEq] at hcs
    subst hcs
    obtain rfl := Option.some.inj h
    exact ⟨es, he, rfl, fun j => by rw [if_neg (by simp only [List.length_nil]; omega)]⟩
  | v :: l, k, e, y', es, cs, hcs, he, h1, h2, h => by
    obtain ⟨cv, cl, g1, g2, rfl⟩ := concL_cons.1 hcs
    simp only [List.length_cons] at h2
    simp only [upCells] at h
    rw [nth_eq] at h
    cases hk : ks[k]? with
    | none => rw [hk] at h; cases h
    | some kq =>
      rw [hk] at h
      simp only at h
      cases hx : seK C kq v with
      | none => rw [hx] at h; cases h
      | some x =>
        rw [hx] at h
        simp only at h
        obtain ⟨d, d1, d2, d3⟩ := seK_spec hx g1
        have hmod : (q * sz + k) % ks.length = k := by rw [hsz, Nat.mul_comm, Nat.mul_add_mod, Nat.mod_eq_of_lt (by omega)]
        have hup : seG γ (.a3 (.up sz k) e i x) = some (.ls ks (es.set (q * sz + k) d)) := by
          simp only [seG, he, hi, d1, Option.bind_some, e3]
          rw [if_pos ⟨by omega, kq, by rw [hmod]; exact hk, d2⟩]
        obtain ⟨es', r1, r2, r3⟩ := upCells_spec hsz hi l (k + 1) _ y' (es.set (q * sz + k) d) cl g2 hup (by rw [List.length_set]; exact h1) (by omega) h
        refine ⟨es', r1, by rw [r2, List.length_set], fun j => ?_⟩
        rw [r3 j]
        simp only [List.length_cons]
        by_cases e1 : j = q * sz + k
        · subst e1
          rw [if_neg (by omega), if_pos (by omega), List.getElem?_set, if_pos rfl, if_pos (by omega), Nat.sub_self]
          simp [d3]
        · by_cases e2 : q * sz + (k + 1) ≤ j ∧ j < q * sz + (k + 1) + cl.length
          · rw [if_pos e2, if_pos (by omega), show j - (q * sz + k) = (j - (q * sz + (k + 1))) + 1 by omega]
            simp
          · rw [if_neg e2, if_neg (by omega), List.getElem?_set, if_neg (Ne.symm e1)]
theorem path_storeUp (hR : Rel C base γ s w) (b : Nat) (i : SE) (sz k : Nat) (c : List AV) (cs : List Value) (hcs : concL γ c = some cs) {lc : Loc} (hl : γ b = some lc) {kd : IntKind} {q : Nat} (hi : seG γ i = some (.val (.int kd (.ofNat q)))) :
    (storeUp C s b i sz k c).path (fun s' => ∃ w', (storeCells ⟨lc.blk, lc.dl + (q * sz + k), none⟩ cs).run C.P w = .ok () w' ∧ Step C base γ s w γ s' w') := by
  unfold storeUp
  cases hb : s.h.get b with
  | none => exact R.path_bad _ _
  | some x0 =>
    cases x0 with
    | vec el y =>
      simp only
      obtain ⟨l', o, h1, h2, vs, lo, hi', es, rfl, g1, g2, ⟨ii, g3, g4, g5, g6, g7⟩, g8, g9⟩ := hR.blk b _ hb
      rw [hl] at h1; obtain rfl := Option.some.inj h1
      cases hg : (Nat.beq sz (cellKds C el).length && (!Nat.beq sz 0 && (Nat.ble (Nat.add k c.length) sz && allOne c))) with
      | false => exact R.path_bad _ _
      | true =>
        simp only [Bool.and_eq_true, Bool.not_eq_true'] at hg
        obtain ⟨q3, q4, q5, q6⟩ := hg
        have q3 := Nat.eq_of_beq_eq_true q3
        have q5 : k + c.length ≤ sz := Nat.le_of_ble_eq_true q5
        simp only
        cases hy : upCells C (cellKds C el) sz i c k y with
        | none => exact R.path_bad _ _
        | some y' =>
          simp only
          refine R.path_must hR fun hn => ?_
          have hbd : q * sz + sz ≤ es.length := by
            rcases Classical.em (q * sz + sz ≤ es.length) with h | h
            · exact h
            · exact absurd ⟨_, _, _, _, rfl, fun hh => h hh.2⟩ (rel_not hn (seL2 g1 hi))
          obtain ⟨es', r1, r2, r3⟩ := upCells_spec (C := C) (γ := γ) q3.symm hi c k y y' es cs hcs g1 hbd q5 hy
          have hcl := concL_len hcs
          have hrun := run_storeCells (P := C.P) lc.blk el lo hi' cs (lc.dl + (q * sz + k)) 0 vs w h2 (by omega) (allOne_conc q6 hcs) (by
            intro z hz1 hz2 hz
            have := g8 z hz.1 hz.2
            omega)
          have hlt : lc.blk < w.heap.size := by
            rcases Nat.lt_or_ge lc.blk w.heap.size with h | h
            · exact h
            · rw [Array.getElem?_eq_none h] at h2; cases h2
          refine ⟨_, hrun, ?_⟩
          have hno : ∀ i' x' li, i' ≠ b → s.h.get i' = some x' → γ i' = some li → li.blk = lc.blk → False := by
            intro i' x' li hne hx' hli hbl
            rcases hR.sep i' b x' _ li lc hx' hb hli hl hne hbl with h' | h'
            · cases x' <;> simp [AncOf] at h'
            · simp [AncOf] at h'
          have hget : ∀ i' x', i' ≠ b → (s.h.set b (.vec el y')).get i' = some x' → s.h.get i' = some x' := by
            intro i' x' hne hx'
            rwa [Tr.get_set_other _ _ (Ne.symm hne)] at hx'
          have hrel : Rel C base γ ⟨s.h.set b (.vec el y'), s.next, s.pc⟩ { w with heap := w.heap.setIfInBounds lc.blk (.cells (arrSet vs (lc.dl + (q * sz + k) + 0) cs) el (lo, hi')) } := by
            refine hR.setBlk hb hl hl ⟨rfl, rfl, rfl⟩ rfl (fun _ _ => rfl) hget (Tr.get_set_same _ _ _) (o' := .cells (arrSet vs (lc.dl + (q * sz + k) + 0) cs) el (lo, hi')) (fun k' hk' => by simp [Ne.symm hk']) (by simp [hlt]) (by simp) ?_
              (fun i' x' li hne hx' h3 h4 => (hno i' x' li hne (hget i' x' hne hx') h3 h4).elim) (fun i' x' li hne hx' h3 h4 => (hno i' x' li hne (hget i' x' hne hx') h3 h4).elim)
            refine ⟨_, lo, hi', es', rfl, r1, fun j d hj => ?_, ⟨ii, g3, g4, by rw [r2]; exact g5, by rw [arrSet_size]; exact g6, g7⟩, (fun off a b => by rw [arrSet_size]; exact g8 off a b), g9⟩
            have hv := r3 j
            rw [hj] at hv
            rw [arrSet_get _ _ _ _ (by omega)]
            by_cases e : q * sz + k ≤ j ∧ j < q * sz + k + cs.length
            · rw [if_pos e] at hv
              rw [if_pos (by omega), show lc.dl + j - (lc.dl + (q * sz + k) + 0) = j - (q * sz + k) by omega, ← hv]; rfl
            · rw [if_neg e] at hv
              rw [if_neg (by omega)]
              cases hej : es[j]? with
              | none => rw [hej] at hv; cases hv
              | some d0 =>
                rw [hej] at hv
                rw [g2 j d0 hej]
                exact hv.symm
          refine Step.of ⟨Grow.refl γ, hrel, ⟨by simp, rfl, rfl, rfl, ?_⟩, ?_, Nat.le_refl _, fun _ _ h => hR.lt h, fun _ l h => .inl ⟨l, h⟩, ?_⟩
          · intro k' ob hk' hn
            have : k' ≠ lc.blk := fun h => hn ⟨b, _, lc, hb, rfl, hl, h.symm⟩
            simp [Ne.symm this, hk']
          · rintro k' ⟨i', x', li, h3, h4, h5, h6⟩ _
            by_cases e : i' = b
            · subst e
              exact ⟨i', _, li, hb, rfl, h5, h6⟩
            · exact ⟨i', x', li, hget i' x' e h3, h4, h5, h6⟩
          · intro i' x' h3 _
            by_cases e : i' = b
            · subst e; exact ⟨_, hb⟩
            · exact ⟨x', hget i' x' e h3⟩
    | _ => exact R.path_bad _ _
theorem path_storeVec (hR : Rel C base γ s w) (b : Nat) (i : SE) (sz k : Nat) (c : List AV) (cs : List Value) (hcs : concL γ c = some cs) {lc : Loc} (hl : γ b = some lc) {kd : IntKind} {q : Nat} (hi : seG γ i = some (.val (.int kd (.ofNat q)))) :
    (storeVec C s b i sz k c).path (fun s' => ∃ w', (storeCells ⟨lc.blk, lc.dl + (q * sz + k), none⟩ cs).run C.P w = .ok () w' ∧ Step C base γ s w γ s' w') := by
  unfold storeVec
  cases hb : s.h.get b with
  | none => exact R.path_bad _ _
  | some x0 =>
    cases x0 with
    | vec el y =>
      simp only
      obtain ⟨l', o, h1, h2, vs, lo, hi', es, rfl, g1, g2, ⟨ii, g3, g4, g5, g6, g7⟩, g8, g9⟩ := hR.blk b _ hb
      rw [hl] at h1; obtain rfl := Option.some.inj h1
      obtain ⟨pre, es0, ds, u1, u2, u3, u4⟩ := unsn_spec y [] es g1
      rw [List.append_nil] at u1
      cases ht : tkOf (unsn y []).1 with
      | none => exact path_storeUp hR b i sz k c cs hcs hl hi
      | some p =>
        simp only
        cases hg : ((Nat.beq p.1 sz && seEq p.2 i) && (Nat.beq sz (cellKds C el).length && (!Nat.beq sz 0 && (Nat.ble (Nat.add k c.length) (unsn y []).2.length && allOne c)))) with
        | false => exact path_storeUp hR b i sz k c cs hcs hl hi
        | true =>
          simp only [Bool.and_eq_true, Bool.not_eq_true'] at hg
          obtain ⟨⟨q1, q2⟩, q3, q4, q5, q6⟩ := hg
          have q1 := Nat.eq_of_beq_eq_true q1
          have q2 := seEq_spec q2
          have q3 := Nat.eq_of_beq_eq_true q3
          have q5 : k + c.length ≤ (unsn y []).2.length := Nat.le_of_ble_eq_true q5
          obtain ⟨x, hx⟩ := tkOf_spec ht
          rw [hx, q1, q2] at u2
          simp only [seG, hi, Option.bind_eq_some_iff] at u2
          obtain ⟨dx, hdx, d2, hd2, u2⟩ := u2
          obtain rfl := Option.some.inj hd2
          simp only [e2] at u2
          cases dx <;> first | (cases u2; done) | skip
          rename_i ksx esx
          simp only at u2
          have hlen0 : es0.length = q * sz ∧ seG γ (unsn y []).1 = some (.ls (cellKds C el) es0) := by
            split at u2
            · next hle =>
              have u2 := Option.some.inj u2
              injection u2 with u3' u4'
              refine ⟨by rw [← u4', List.length_take]; omega, ?_⟩
              rw [hx, q1, q2]
              simp only [seG, hi, hdx, Option.bind_some, e2]
              rw [if_pos hle, u3', u4']
            · cases u2
          obtain ⟨hlen0, hbase⟩ := hlen0
          have hpl := cellsAre_len u4
          have hold := old_spec pre (cellKds C el) es0.length ds u4 ⟨0, rfl, Nat.zero_le _, by rw [hlen0, ← q3, Nat.mul_mod_left]; simp⟩
          rw [← u1] at hold
          have hnew := concL_append (concL_append (concL_take k hold) hcs) (concL_drop (k + c.length) hold)
          cases hy : snAll C (cellKds C el) ((oldAVs (cellKds C el) (unsn y []).2 (cellKds C el)).take k ++ c ++ (oldAVs (cellKds C el) (unsn y []).2 (cellKds C el)).drop (Nat.add k c.length)) (cellKds C el) (unsn y []).1 with
          | none => exact R.path_bad _ _
          | some y' =>
            obtain ⟨ds', s1, s2⟩ := snAll_spec _ (cellKds C el) _ y' es0 _ hnew hbase ⟨0, rfl, Nat.zero_le _, by rw [hlen0, ← q3, Nat.mul_mod_left]; simp⟩ hy
            have hcl := concL_len hcs
            rw [u1] at q5
            have hdl : ds.length = pre.length := hpl.symm
            have hvl : (ds.map Dt.v).length = pre.length := by rw [List.length_map, hdl]
            have hesl : es.length = q * sz + pre.length := by rw [u3, List.length_append, hlen0, hdl]
            have hds' : ds'.length = pre.length := by
              have := congrArg List.length s2
              simp only [List.length_map, List.length_append, List.length_take, List.length_drop] at this
              omega
            have hrun := run_storeCells (P := C.P) lc.blk el lo hi' cs (lc.dl + (q * sz + k)) 0 vs w h2 (by omega) (allOne_conc q6 hcs) (by
              intro z hz1 hz2 hz
              have := g8 z hz.1 hz.2
              omega)
            have hlt : lc.blk < w.heap.size := by
              rcases Nat.lt_or_ge lc.blk w.heap.size with h | h
              · exact h
              · rw [Array.getElem?_eq_none h] at h2; cases h2
            refine ⟨_, hrun, ?_⟩
            have hno : ∀ i' x' li, i' ≠ b → s.h.get i' = some x' → γ i' = some li → li.blk = lc.blk → False := by
              intro i' x' li hne hx' hli hbl
              rcases hR.sep i' b x' _ li lc hx' hb hli hl hne hbl with h' | h'
              · cases x' <;> simp [AncOf] at h'
              · simp [AncOf] at h'
            have hget : ∀ i' x', i' ≠ b → (s.h.set b (.vec el y')).get i' = some x' → s.h.get i' = some x' := by
              intro i' x' hne hx'
              rwa [Tr.get_set_other _ _ (Ne.symm hne)] at hx'
            have hrel : Rel C base γ ⟨s.h.set b (.vec el y'), s.next, s.pc⟩ { w with heap := w.heap.setIfInBounds lc.blk (.cells (arrSet vs (lc.dl + (q * sz + k) + 0) cs) el (lo, hi')) } := by
              refine hR.setBlk hb hl hl ⟨rfl, rfl, rfl⟩ rfl (fun _ _ => rfl) hget (Tr.get_set_same _ _ _) (o' := .cells (arrSet vs (lc.dl + (q * sz + k) + 0) cs) el (lo, hi')) (fun k' hk' => by simp [Ne.symm hk']) (by simp [hlt]) (by simp) ?_
                (fun i' x' li hne hx' h3 h4 => (hno i' x' li hne (hget i' x' hne hx') h3 h4).elim) (fun i' x' li hne hx' h3 h4 => (hno i' x' li hne (hget i' x' hne hx') h3 h4).elim)
              refine ⟨_, lo, hi', es0 ++ ds', rfl, s1, fun j d hj => ?_, ⟨ii, g3, g4, by rw [List.length_append, hlen0, hds', ← hesl]; exact g5, by rw [arrSet_size]; exact g6, g7⟩, (fun off a b => by rw [arrSet_size]; exact g8 off a b), g9⟩
              have hcsl : cs.length = c.length := hcl
              rw [arrSet_get _ _ _ _ (by omega)]
              rw [List.getElem?_append] at hj
              split at hj
              · next hlt' =>
                rw [if_neg (by omega)]
                refine g2 j d ?_
                rw [u3, List.getElem?_append_left hlt']; exact hj
              · next hge =>
                have hv : (ds'.map Dt.v)[j - es0.length]? = some d.v := by rw [List.getElem?_map, hj]; rfl
                rw [s2] at hv
                have hjl : j - es0.length < ds'.length := (List.getElem?_eq_some_iff.1 hj).1
                have hold2 : ∀ m : Nat, m < ds.length → (ds.map Dt.v)[m]? = vs[lc.dl + (q * sz + m)]? := by
                  intro m hm
                  rw [List.getElem?_map, List.getElem?_eq_getElem hm]
                  have := g2 (q * sz + m) ds[m] (by rw [u3, List.getElem?_append_right (by omega), show q * sz + m - es0.length = m by omega, List.getElem?_eq_getElem hm])
                  rw [this]; rfl
                rw [List.append_assoc, List.getElem?_append] at hv
                split at hv
                · next h5 =>
                  rw [List.length_take] at h5
                  rw [List.getElem?_take, if_pos (by omega), hold2 _ (by omega)] at hv
                  rw [if_neg (by omega), ← hv]; congr 1; omega
                · next h5 =>
                  rw [List.length_take] at h5 hv
                  rw [List.getElem?_append] at hv
                  split at hv
                  · next h6 =>
                    rw [if_pos (by omega), ← hv]; congr 1; omega
                  · next h6 =>
                    rw [List.getElem?_drop, hold2 _ (by omega)] at hv
                    rw [if_neg (by omega), ← hv]; congr 1; omega
            refine Step.of ⟨Grow.refl γ, hrel, ⟨by simp, rfl, rfl, rfl, ?_⟩, ?_, Nat.le_refl _, fun _ _ h => hR.lt h, fun _ l h => .inl ⟨l, h⟩, ?_⟩
            · intro k' ob hk' hn
              have : k' ≠ lc.blk := fun h => hn ⟨b, _, lc, hb, rfl, hl, h.symm⟩
              simp [Ne.symm this, hk']
            · rintro k' ⟨i', x', li, h3, h4, h5, h6⟩ _
              by_cases e : i' = b
              · subst e
                exact ⟨i', _, li, hb, rfl, h5, h6⟩
              · exact ⟨i', x', li, hget i' x' e h3, h4, h5, h6⟩
            · intro i' x' h3 _
              by_cases e : i' = b
              · subst e; exact ⟨_, hb⟩
              · exact ⟨x', hget i' x' e h3⟩
    | _ => exact R.path_bad _ _
theorem ok_store (hC : Good C) (hR : Rel C base γ s w) (ht : TmpsRel γ nt t a.tmps) (ty : TypeId) (x y : Operand) (rt : TypeId) :
    (opStore ty x y rt C t s).path (NxOk C base γ s w ((US (Instr.storeAt ty (a.eval x) (a.eval y))).run C.P w)) := by
  refine R.pbd _ (path_evA hR ht x) fun v hv => ?_
  refine R.pbd _ (path_evA hR ht y) fun u hu => ?_
  refine R.pbd (fun s' => ∃ w', (Instr.storeAt ty (a.eval x) (a.eval y)).run C.P w = .ok () w' ∧ Step C base γ s w γ s' w') ?_ fun s' hs' => ?_
  · cases v with
    | ptr b off =>
      refine R.pbd _ (path_ti hC ty) fun i hi => ?_
      refine R.pbd _ (path_cells u _ hu) fun c hc => ?_
      show (match Nat.beq c.length i.size with | true => wrCells s b off c | false => R.bad _).path _
      cases hlen : Nat.beq c.length i.size
      · trivial
      · have hlen' : c.length = i.size := Nat.eq_of_beq_eq_true hlen
        simp only [conc, Option.map_eq_some_iff] at hv
        obtain ⟨lc, hl, he⟩ := hv
        refine R.path_mono ?_ (path_wrCells hR b off c _ hc lc hl)
        rintro s' ⟨w', h1, h2⟩
        refine ⟨w', ?_, h2⟩
        have hsz : (a.eval y).cells.size = i.size := by
          have := concL_len hc
          simp at this; omega
        rw [← he]
        simp only [Instr.storeAt, Instr.sureAddr, pure_bind, storeVar, Sem.run_bind, hi.2.size w, Result.andThen_ok, hsz, ne_eq, not_true_eq_false, if_false]
        exact h1
    | vptr b k sz q =>
      refine R.pbd _ (path_ti hC ty) fun i hi => ?_
      refine R.pbd _ (path_cells u _ hu) fun c hc => ?_
      show (match Nat.beq c.length i.size with | true => storeVec C s b k sz q c | false => R.bad _).path _
      cases hlen : Nat.beq c.length i.size
      · trivial
      · have hlen' : c.length = i.size := Nat.eq_of_beq_eq_true hlen
        obtain ⟨lc, p, kd, hl, h0, hq, he⟩ := conc_vptr hv
        refine R.path_mono ?_ (path_storeVec hR b k sz q c _ hc hl h0)
        rintro s' ⟨w', h1, h2⟩
        refine ⟨w', ?_, h2⟩
        have hsz : (a.eval y).cells.size = i.size := by
          have := concL_len hc
          simp at this; omega
        rw [he]
        simp only [Instr.storeAt, Instr.sureAddr, pure_bind, storeVar, Sem.run_bind, hi.2.size w, Result.andThen_ok, hsz, ne_eq, not_true_eq_false, if_false]
        exact h1
    | _ => trivial
  · obtain ⟨w', h1, h2⟩ := hs'
    exact ⟨γ, w', by simp [US, h1], h2⟩
end
end Go.Proofs.YteibjeicgeophaaGreatDoor.Abs

namespace Go.Proofs.YteibjeicgeophaaGreatDoor.Abs
open Go
section
variable {C : Ctx} {base : Nat} {γ : G} {s : S} {w : World} {nt : Nat} {t : Tr AV} {a : Act}
theorem newCells_rel {elem : TypeId} {i : TI} (hi : C.T.get elem = some i) {vs : List AV} {cs : List Value} (hcs : concL γ vs = some cs) {arr : Array Value} {cp : Nat}
    (h1 : vs.length ≤ cp * i.size) (h2 : cp * i.size ≤ arr.size) (h3 : ∀ (j : Nat) c, cs[j]? = some c → arr[j]? = some c) (blk : Nat) (fz : Nat) (sg : Bool) (lo hi' : Nat)
    (hfr : ∀ off, lo ≤ off → off < hi' → off < fz ∨ (sg = true ∧ arr.size ≤ off)) (hlh : lo ≤ hi' := by omega) :
    ∀ γ', Grow γ γ' → BlkRel C γ' ⟨blk, 0, cp, none⟩ (.cells elem (Tr.ofList vs) vs.length fz [] false sg) (.cells arr elem (lo, hi')) := by
  intro γ' hg
  refine ⟨arr, lo, hi', rfl, by simp; omega, ?_, ⟨i, hi, h1, by simp only [Nat.zero_add]; omega, 0, by simp⟩, fun _ off a b => by simpa using hfr off a b, hlh⟩
  intro j v hj hv
  rw [Tr.get_ofList] at hv
  obtain ⟨c, hc, hcc⟩ := concL_get j v hcs hv
  exact ⟨c, by simpa using h3 j c hcc, .inr (conc_ext hg _ _ hc)⟩
theorem run_newRow (P : Program) (elem : TypeId) (arr : Array Value) (w : World) : (newRow elem arr).run P w = .ok ⟨w.heap.size, 0, none⟩ (w.alloc (.cells arr elem (0, 0))) := by
  simp [newRow]
theorem ok_alloc (hC : Good C) (hR : Rel C base γ s w) (e : TypeId) (rt : TypeId) :
    (opAlloc e rt C t s).path (NxOk C base γ s w ((VS (Instr.alloc e true (.tuple #[]))).run C.P w)) := by
  refine R.pbd _ (path_ti hC e) fun i hi => ?_
  refine R.pbd _ (R.path_ofOpt _ _) fun z hz => ?_
  refine R.pbd _ (R.path_guard _ _) fun _ hg => ?_
  obtain ⟨v, h1, h2⟩ := hi.2.zero z hz
  have hlen : z.length = i.size := Nat.eq_of_beq_eq_true hg
  have hcs := h2 γ
  have hstep := Step.alloc (base := base) hR (cellsBlk e z) (.cells v.cells e (0, 0)) 0 1 (w' := w.alloc (.cells v.cells e (0, 0))) rfl rfl rfl rfl
    (newCells_rel hi.1 hcs (by omega) (by have := concL_len hcs; simp at this; omega) (fun j c hj => by simpa using hj) _ 0 false 0 0 (by omega))
  refine ⟨_, .pointer (some ⟨w.heap.size, 0, none⟩), _, ?_, ?_, hstep⟩
  · simp [VS, Instr.alloc, h1, newVar, run_newRow]
  · simp [conc]
theorem ok_box (hC : Good C) (hR : Rel C base γ s w) (ht : TmpsRel γ nt t a.tmps) (e : TypeId) (x : Operand) (rt : TypeId) :
    (opBox e x rt C t s).path (NxOk C base γ s w ((VS (Instr.box e (a.eval x))).run C.P w)) := by
  refine R.pbd _ (path_evA hR ht x) fun v hv => ?_
  refine R.pbd _ (path_cells v _ hv) fun z hz => ?_
  refine R.pbd _ (path_ti hC e) fun i hi => ?_
  refine R.pbd _ (R.path_guard _ _) fun _ hg => ?_
  have hlen : z.length = i.size := Nat.eq_of_beq_eq_true hg
  have hstep := Step.alloc (base := base) hR (cellsBlk e z) (.cells (a.eval x).cells e (0, 0)) 0 1 (w' := w.alloc (.cells (a.eval x).cells e (0, 0))) rfl rfl rfl rfl
    (newCells_rel hi.1 hz (by omega) (by have := concL_len hz; simp at this; omega) (fun j c hj => by simpa using hj) _ 0 false 0 0 (by omega))
  refine ⟨_, .pointer (some ⟨w.heap.size, 0, none⟩), _, ?_, ?_, hstep⟩
  · simp [VS, Instr.box, newVar, run_newRow]
  · simp [conc]
theorem foldl_put (off : Nat) : ∀ (l : List Value) (k : Nat) (arr : Array Value), off + k + l.length ≤ arr.size →
    ((l.zipIdx k).foldl (fun cs (c, j) => cs.setIfInBounds (off + j) c) arr).toList = arr.toList.take (off + k) ++ l ++ arr.toList.drop (off + k + l.length)
  | [], k, arr, h => by simp
  | v :: l, k, arr, h => by
    simp only [List.length_cons] at h
    rw [List.zipIdx_cons, List.foldl_cons, foldl_put off l (k + 1) _ (by simp; omega)]
    simp only [Array.toList_setIfInBounds, List.length_cons]
    apply List.ext_getElem?
    intro j
    simp only [List.getElem?_append, List.length_append, List.length_take, List.length_set, Array.length_toList, List.getElem?_take, List.getElem?_set, List.getElem?_drop, List.length_cons]
    rw [Nat.min_eq_left (by omega), Nat.min_eq_left (by omega)]
    by_cases h1 : j < off + k
    · rw [if_pos (by omega), if_pos (by omega), if_pos (by omega), if_neg (by omega), if_pos (by omega), if_pos (by omega), if_pos (by omega)]
    · by_cases h2 : j = off + k
      · subst h2
        rw [if_pos (by omega), if_pos (by omega), if_pos (by omega), if_pos rfl, if_pos (by omega), if_pos (by omega), if_neg (by omega)]
        simp
      · by_cases h3 : j < off + k + 1 + l.length
        · rw [if_pos (by omega), if_neg (by omega), if_pos (by omega), if_neg (by omega)]
          rw [show j - (off + k) = (j - (off + (k + 1))) + 1 by omega]; simp
        · rw [if_neg (by omega), if_neg (by omega), if_neg (by omega)]
          congr 1; omega
def PlaceOk (pa pc : Nat → Option (Nat × Nat)) : Prop := ∀ i x, pa i = some x → pc i = some x
theorem path_fill {pa pc : Nat → Option (Nat × Nat)} (hp : PlaceOk pa pc) : ∀ (ps : List (Nat × AV)) (cps : List (Nat × Value)) (l : List AV) (r : List Value),
    (ps.map (·.1) = cps.map (·.1)) → (∀ (j : Nat) (p : Nat × AV) (q : Nat × Value), ps[j]? = some p → cps[j]? = some q → conc γ p.2 = some q.2) → concL γ l = some r →
    (fillParts pa ps l).path (fun l' => ∃ r', concL γ l' = some r' ∧ l'.length = l.length ∧ Instr.fill pc ⟨r⟩ cps = some ⟨r'⟩)
  | [], cps, l, r, hk, _, hr => by
    have : cps = [] := by cases cps with | nil => rfl | cons x y => simp at hk
    subst this
    exact ⟨r, hr, rfl, rfl⟩
  | (i, v) :: ps, [], l, r, hk, _, hr => by simp at hk
  | (i, v) :: ps, (i', c) :: cps, l, r, hk, hv, hr => by
    simp only [List.map_cons, List.cons.injEq] at hk
    obtain ⟨rfl, hk⟩ := hk
    have hvc : conc γ v = some c := hv 0 (i, v) (i, c) (by simp) (by simp)
    unfold fillParts
    cases hpi : pa i with
    | none => trivial
    | some x =>
      obtain ⟨off, size⟩ := x
      simp only
      refine R.pbd _ (path_cells v c hvc) fun z hz => ?_
      cases hg : (Nat.beq z.length size && Nat.ble (Nat.add off size) l.length) with
      | false => trivial
      | true =>
        simp only [Bool.and_eq_true] at hg
        have h1 : z.length = size := Nat.eq_of_beq_eq_true hg.1
        have h2 : off + size ≤ l.length := Nat.le_of_ble_eq_true hg.2
        have hzl := concL_len hz
        have hrl := concL_len hr
        simp at hzl
        have hr' := concL_append (concL_append (concL_take off hr) hz) (concL_drop (off + size) hr)
        refine R.path_mono ?_ (path_fill hp ps cps _ _ hk (fun j p q hp hq => hv (j + 1) p q (by simpa using hp) (by simpa using hq)) hr')
        rintro l' ⟨r', g1, g2, g3⟩
        refine ⟨r', g1, ?_, ?_⟩
        · rw [g2]; simp; omega
        · rw [Instr.fill, hp i _ hpi]
          simp only
          have : ¬ ((c.cells.size ≠ size || decide (off + c.cells.size > (Array.mk r).size)) = true) := by
            simp; omega
          rw [if_neg this]
          rw [← g3]
          congr 1
          apply Array.ext'
          have := foldl_put off c.cells.toList 0 ⟨r⟩ (by simp; omega)
          simp only [Nat.add_zero] at this
          rw [← Array.foldl_toList, Array.toList_zipIdx]
          rw [this]
          simp only [Array.length_toList]
          rw [show off + c.cells.size = off + size by omega]
theorem path_evPs (hR : Rel C base γ s w) (ht : TmpsRel γ nt t a.tmps) : ∀ l : List (Nat × Operand),
    (evPs C t l).path (fun ps => ps.map (·.1) = (l.map fun (i, x) => (i, a.eval x)).map (·.1) ∧ ∀ (j : Nat) (p : Nat × AV) (q : Nat × Value), ps[j]? = some p → (l.map fun (i, x) => (i, a.eval x))[j]? = some q → conc γ p.2 = some q.2)
  | [] => by refine ⟨rfl, ?_⟩; intro j p q h; simp at h
  | (i, x) :: l => by
    unfold evPs
    refine R.pbd _ (path_evA hR ht x) fun v hv => ?_
    refine R.pbd _ (path_evPs hR ht l) fun ps hps => ?_
    refine ⟨by simpa using hps.1, ?_⟩
    intro j p q hp hq
    cases j with
    | zero => simp at hp hq; subst hp; subst hq; exact hv
    | succ j => exact hps.2 j p q (by simpa using hp) (by simpa using hq)
theorem path_places (hC : Good C) : ∀ fs : List Field, (getPlaces C fs).path (fun pl => ∀ w, ((fs.mapM fun f => do pure (f.offset, ← sizeOf f.type) : Sem (List (Nat × Nat)))).run C.P w = .ok pl w)
  | [] => by intro w; simp
  | f :: fs => by
    unfold getPlaces
    refine R.pbd _ (path_ti hC f.type) fun i hi => ?_
    refine R.pbd _ (path_places hC fs) fun l hl => ?_
    intro w
    simp only [List.mapM_cons, Sem.run_bind, hi.2.size w, Result.andThen_ok, Sem.run_pure, hl w, bind_assoc, pure_bind]
theorem ok_build (hC : Good C) (hR : Rel C base γ s w) (ht : TmpsRel γ nt t a.tmps) (ty : TypeId) (parts : Array (Nat × Operand)) (rt : TypeId) :
    (opBuild ty parts rt C t s).path (NxOk C base γ s w ((VS (Instr.build ty (parts.map fun (i, x) => (i, a.eval x)))).run C.P w)) := by
  refine R.pbd _ (path_zero hC ty) fun z hz => ?_
  obtain ⟨_, v, _, _, hz1, hz2⟩ := hz
  refine R.pbd _ (path_evPs hR ht parts.toList) fun ps hps => ?_
  refine R.pbd _ (path_under hC ty) fun d hd => ?_
  have hzr : concL γ z = some v.cells.toList := hz2 γ
  have hlist : (parts.map fun (i, x) => (i, a.eval x)).toList = parts.toList.map fun (i, x) => (i, a.eval x) := by simp
  cases d with
  | struct fs =>
    refine R.pbd _ (path_places hC fs.toList) fun pl hpl => ?_
    refine R.pbd _ (path_fill (γ := γ) (pa := nth pl) (pc := fun i => pl[i]?) (fun i x h => by rw [nth_eq] at h; exact h) ps _ z _ hps.1 hps.2 hzr) fun cs hcs => ?_
    obtain ⟨r, h1, _, h3⟩ := hcs
    refine okVal hR (c := .agg ⟨r⟩) ?_ (by simp [conc, h1])
    unfold Instr.build
    simp only [Sem.run_bind, hz1 w, Result.andThen_ok, run_und hd w, Array.mapM_eq_mapM_toList, Sem.run_map, hpl w, hlist]
    have : Instr.fill (fun x => (List.toArray pl)[x]?) v.cells (parts.toList.map fun (i, x) => (i, a.eval x)) = some ⟨r⟩ := by
      rw [← h3]
      congr 1
      funext x; simp
    rw [this]; rfl
  | array n e =>
    refine R.pbd _ (path_ti hC e) fun i hi => ?_
    refine R.pbd _ (path_fill (γ := γ) (pa := fun k => some (Nat.mul k i.size, i.size)) (pc := fun k => some (k * i.size, i.size)) (fun _ x h => h) ps _ z _ hps.1 hps.2 hzr) fun cs hcs => ?_
    obtain ⟨r, h1, _, h3⟩ := hcs
    refine okVal hR (c := .agg ⟨r⟩) ?_ (by simp [conc, h1])
    unfold Instr.build
    simp only [Sem.run_bind, hz1 w, Result.andThen_ok, run_und hd w, hi.2.size w, hlist]
    have : Instr.fill (fun k => some (k * i.size, i.size)) v.cells (parts.toList.map fun (i, x) => (i, a.eval x)) = some ⟨r⟩ := by
      rw [← h3]
    rw [this]; rfl
  | _ => trivial
theorem concL_repl {γ : G} {z : List AV} {r : List Value} (h : concL γ z = some r) : ∀ n, ∃ q, concL γ (repl z n) = some q ∧ q.length = n * r.length ∧ ∀ j, j < n * r.length → q[j]? = r[j % r.length]?
  | 0 => ⟨[], by simp [repl, concL], by simp, by simp⟩
  | n + 1 => by
    obtain ⟨q, h1, h2, h3⟩ := concL_repl h n
    refine ⟨r ++ q, concL_append h h1, by simp [h2, Nat.succ_mul, Nat.add_comm], ?_⟩
    intro j hj
    rw [List.getElem?_append]
    split
    · next hlt => rw [Nat.mod_eq_of_lt hlt]
    · next hge =>
      have hge' : r.length ≤ j := by omega
      rw [h3 (j - r.length) (by rw [Nat.succ_mul] at hj; omega)]
      rw [Nat.mod_eq_sub_mod hge']
theorem ok_buildSlice (hC : Good C) (hR : Rel C base γ s w) (ht : TmpsRel γ nt t a.tmps) (ty : TypeId) (len : Nat) (parts : Array (Nat × Operand)) (rt : TypeId) :
    (opBuildSlice ty len parts rt C t s).path (NxOk C base γ s w ((VS (Instr.buildSlice ty len (parts.map fun (i, x) => (i, a.eval x)))).run C.P w)) := by
  refine R.pbd _ (path_under hC ty) fun d hd => ?_
  cases d with
  | slice e =>
    refine R.pbd _ (path_ti hC e) fun i hi => ?_
    refine R.pbd _ (R.path_guard _ _) fun _ hg => ?_
    have hle : len * i.size ≤ 16777216 := Nat.le_of_ble_eq_true hg
    refine R.pbd (fun z => ∃ r, concL γ z = some r ∧ (len * i.size ≠ 0 → r.length = i.size ∧ ∃ v : Value, (zeroValue e).run C.P w = .ok v w ∧ r = v.cells.toList) ∧ (len * i.size = 0 → z = [])) ?_ fun z hz => ?_
    · unfold zeroFor
      cases hb : Nat.beq (Nat.mul len i.size) 0
      · have hne : len * i.size ≠ 0 := fun h => by rw [show Nat.mul len i.size = 0 from h] at hb; cases hb
        refine R.pbd _ (path_zero hC e) fun z hz => ?_
        obtain ⟨_, v, _, _, h1, h2⟩ := hz
        refine R.pbd _ (R.path_guard _ _) fun _ hg2 => ?_
        refine ⟨_, h2 γ, fun _ => ⟨?_, v, h1 w, rfl⟩, fun h => absurd h hne⟩
        have := concL_len (h2 γ)
        rw [this]; exact Nat.eq_of_beq_eq_true hg2
      · have he : len * i.size = 0 := Nat.eq_of_beq_eq_true hb
        exact ⟨[], rfl, fun h => absurd he h, fun _ => rfl⟩
    · obtain ⟨r, hr, hz1, hz0⟩ := hz
      refine R.pbd _ (path_evPs hR ht parts.toList) fun ps hps => ?_
      obtain ⟨q, hq1, hq2, hq3⟩ := concL_repl hr len
      refine R.pbd _ (path_fill (γ := γ) (pa := fun k => some (Nat.mul k i.size, i.size)) (pc := fun k => some (k * i.size, i.size)) (fun _ x h => h) ps _ _ _ hps.1 hps.2 hq1) fun cs hcs => ?_
      obtain ⟨r', g1, g2, g3⟩ := hcs
      have hlist : (parts.map fun (i, x) => (i, a.eval x)).toList = parts.toList.map fun (i, x) => (i, a.eval x) := by simp
      have hql : q.length = len * i.size := by
        rw [hq2]
        by_cases h0 : len * i.size = 0
        · have hz := hz0 h0; subst hz
          simp only [concL, Option.some.injEq] at hr; subst hr; simp [h0]
        · rw [(hz1 h0).1]
      have hcl : cs.length = len * i.size := by rw [g2, ← concL_len hq1, hql]
      have hstep := Step.alloc (base := base) hR (cellsBlk e cs) (.cells ⟨r'⟩ e (0, 0)) 0 len (w' := w.alloc (.cells ⟨r'⟩ e (0, 0))) rfl rfl rfl rfl
        (newCells_rel hi.1 g1 (by omega) (by have := concL_len g1; simp; omega) (fun j c hj => by simpa using hj) _ 0 false 0 0 (by omega))
      refine ⟨_, .slice (some ⟨w.heap.size, 0, none⟩) len len, _, ?_, by simp [conc], hstep⟩
      have hbig : ¬ (len * i.size > 2 ^ 24) := by omega
      unfold VS Instr.buildSlice
      simp only [Sem.run_bind, run_und hd w, Result.andThen_ok, hi.2.size w, if_neg hbig, pure_bind, hlist, bind_assoc]
      have hfill : ∀ zv : Array Value, (len * i.size ≠ 0 → zv.toList = r) → Instr.fill (fun k => some (k * i.size, i.size)) (Array.map (fun x => zv[x % zv.size]!) (Array.range (len * i.size))) (parts.toList.map fun (i, x) => (i, a.eval x)) = some ⟨r'⟩ := by
        intro zv hzv
        rw [← g3]
        congr 1
        apply Array.ext'
        apply List.ext_getElem?
        intro j
        simp only [Array.toList_map, Array.toList_range, List.getElem?_map]
        by_cases hj : j < len * i.size
        · have hne : len * i.size ≠ 0 := by omega
          have hzs := hzv hne
          obtain ⟨hrl, v, _, _⟩ := hz1 hne
          have hsz : zv.size = i.size := by rw [← hrl, ← hzs]; simp
          have hpos : 0 < i.size := by
            rcases Nat.eq_zero_or_pos i.size with h | h
            · rw [h] at hne; simp at hne
            · exact h
          rw [hq3 j (by rw [hrl]; exact hj), List.getElem?_range hj]
          simp only [Option.map_some]
          have hm : j % zv.size < zv.size := Nat.mod_lt _ (by omega)
          rw [getElem!_pos zv _ hm, hrl, ← hsz, ← hzs]
          simp [hm]
        · rw [List.getElem?_eq_none (by simp; omega), List.getElem?_eq_none (by omega)]; rfl
      by_cases h0 : len * i.size = 0
      · simp only [h0, if_true, Sem.run_pure]
        have := hfill #[] (fun h => absurd h0 h)
        rw [h0] at this
        simp only [Sem.run_bind, Sem.run_pure, Result.andThen_ok, this, run_newRow]
      · obtain ⟨_, v, hv, hrv⟩ := hz1 h0
        have := hfill v.cells (fun _ => hrv.symm)
        simp only [if_neg h0, Sem.run_bind, hv, Result.andThen_ok, Sem.run_pure, this, run_newRow]
  | _ => trivial
end
end Go.Proofs.YteibjeicgeophaaGreatDoor.Abs

namespace Go.Proofs.YteibjeicgeophaaGreatDoor.Abs
open Go
section
variable {C : Ctx} {base : Nat} {γ : G} {s : S} {w : World} {nt : Nat} {t : Tr AV} {a : Act}
theorem wrap_small (n : Nat) (h : n ≤ 1099511627776) : IntKind.i64.wrap (n : Int) = (n : Int) := by
  have h1 : ((n : Int) % (2 ^ IntKind.i64.bits : Int)) = n := by
    show (n : Int) % (18446744073709551616 : Int) = n
    omega
  unfold IntKind.wrap
  simp only [h1]
  rw [if_neg]
  simp only [Bool.and_eq_true, decide_eq_true_eq, not_and]
  intro _
  show ¬ ((n : Int) ≥ (9223372036854775808 : Int))
  omega
theorem path_zeroFor (hC : Good C) (e : TypeId) {i : TI} (_hi : C.T.get e = some i) (n : Nat) :
    (zeroFor C e n i.size).path (fun z => ∃ r, concL γ z = some r ∧ (n ≠ 0 → r.length = i.size ∧ ∃ v : Value, (zeroValue e).run C.P w = .ok v w ∧ r = v.cells.toList) ∧ (n = 0 → z = [])) := by
  unfold zeroFor
  cases hb : Nat.beq n 0
  · have hne : n ≠ 0 := fun h => by rw [h] at hb; cases hb
    refine R.pbd _ (path_zero hC e) fun z hz => ?_
    obtain ⟨_, v, _, _, h1, h2⟩ := hz
    refine R.pbd _ (R.path_guard _ _) fun _ hg2 => ?_
    refine ⟨_, h2 γ, fun _ => ⟨?_, v, h1 w, rfl⟩, fun h => absurd h hne⟩
    have := concL_len (h2 γ)
    rw [this]; exact Nat.eq_of_beq_eq_true hg2
  · have he : n = 0 := Nat.eq_of_beq_eq_true hb
    exact ⟨[], rfl, fun h => absurd he h, fun _ => rfl⟩
theorem zeros_eq {r : List Value} {n m : Nat} (hn : n = m * r.length) (zv : Array Value) (hz : n ≠ 0 → zv.toList = r) {q : List Value}
    (hq : q.length = n) (hq3 : ∀ j, j < n → q[j]? = r[j % r.length]?) : Array.map (fun x => zv[x % zv.size]!) (Array.range n) = ⟨q⟩ := by
  apply Array.ext'
  apply List.ext_getElem?
  intro j
  simp only [Array.toList_map, Array.toList_range, List.getElem?_map]
  by_cases hj : j < n
  · have hne : n ≠ 0 := by omega
    have hzs := hz hne
    have hsz : zv.size = r.length := by rw [← hzs]; simp
    have hpos : 0 < r.length := by
      rcases Nat.eq_zero_or_pos r.length with h | h
      · rw [h] at hn; simp at hn; omega
      · exact h
    rw [hq3 j hj, List.getElem?_range hj]
    simp only [Option.map_some]
    have hm : j % zv.size < zv.size := Nat.mod_lt _ (by omega)
    rw [getElem!_pos zv _ hm, ← hsz, ← hzs]
    simp [hm]
  · rw [List.getElem?_eq_none (by simp; omega), List.getElem?_eq_none (by omega)]; rfl
theorem zFit_spec {v : AV} {k : Kd} (h : zFit v k = true) : zeroKd k = true ∧ ∀ (γ : G) n, conc γ v = some (zeroDt k n).v := by
  cases k <;> first | (cases h; done) | skip
  · cases v <;> first | (cases h; done) | skip
    simp only [zFit, Bool.and_eq_true] at h
    obtain rfl := ikEq_spec h.1
    obtain rfl := of_decide_eq_true h.2
    exact ⟨rfl, fun _ _ => rfl⟩
  · cases v <;> first | (cases h; done) | skip
    rename_i b
    cases b
    · exact ⟨rfl, fun _ _ => rfl⟩
    · cases h
  · cases v <;> first | (cases h; done) | skip
    rename_i l
    cases l
    · exact ⟨rfl, fun _ _ => rfl⟩
    · cases h
  · cases v <;> first | (cases h; done) | skip
    exact ⟨rfl, fun _ _ => rfl⟩
theorem zFits_spec : ∀ {l : List AV} {ks : List Kd}, zFits l ks = true → ks.all zeroKd = true ∧ l.length = ks.length ∧ ∀ (γ : G) szs, concL γ l = some ((zeroDs ks szs).map Dt.v)
  | [], [], _ => ⟨rfl, rfl, fun _ _ => rfl⟩
  | [], _ :: _, h => by cases h
  | _ :: _, [], h => by cases h
  | v :: l, k :: ks, h => by
    simp only [zFits, Bool.and_eq_true] at h
    obtain ⟨h1, h2⟩ := zFit_spec h.1
    obtain ⟨g1, g2, g3⟩ := zFits_spec h.2
    refine ⟨by simp [h1, g1], by simp [g2], fun γ szs => ?_⟩
    cases szs with
    | nil => exact concL_cons.2 ⟨_, _, h2 γ 0, g3 γ [], rfl⟩
    | cons n m => exact concL_cons.2 ⟨_, _, h2 γ n, g3 γ m, rfl⟩
theorem ok_makeVec (hC : Good C) (hR : Rel C base γ s w) {ty e : TypeId} (hd : C.P.underlying ty = some (.slice e)) {vx vy : AV} {cx cy : Value} (hvx : conc γ vx = some cx) (hvy : conc γ vy = some cy) :
    (makeVec C s e vx vy).path (NxOk C base γ s w ((VS (Instr.makeSlice ty cx cy)).run C.P w)) := by
  refine R.pbd _ (path_ti hC e) fun i hi => ?_
  refine R.pbd _ (path_zero hC e) fun z hz => ?_
  obtain ⟨_, v, _, _, hz1, hz2⟩ := hz
  refine R.pbd _ (R.path_guard _ _) fun _ hg => ?_
  simp only [Bool.and_eq_true, Bool.not_eq_true'] at hg
  obtain ⟨q1, q2, q3, q4, q5, q6⟩ := hg
  have q1 := kdEq_spec q1
  have q2 := kdEq_spec q2
  have q3 := seEq_spec q3
  have q4 : i.size = z.length := Nat.eq_of_beq_eq_true q4
  obtain ⟨n0, hn0, rfl⟩ := sk_int hvx q1
  obtain ⟨n1, hn1, rfl⟩ := sk_int hvy q2
  rw [← q3, hn0] at hn1
  have hn1 := Option.some.inj hn1
  injection hn1 with hn1; injection hn1 with _ hn1
  subst hn1
  obtain ⟨zf1, zf2, zf3⟩ := zFits_spec q6
  refine R.path_must hR fun hn => ?_
  have hbd : 0 ≤ n0 ∧ n0.toNat * i.bytes ≤ 1099511627776 ∧ n0 ≤ 1099511627776 := by
    rcases Classical.em (0 ≤ n0 ∧ n0.toNat * i.bytes ≤ 1099511627776 ∧ n0 ≤ 1099511627776) with h | h
    · exact h
    · exact absurd ⟨_, _, rfl, h⟩ (rel_not hn (seL1 hn0))
  obtain ⟨c, rfl⟩ := Int.eq_ofNat_of_zero_le hbd.1
  have h2 : c * i.bytes ≤ 1099511627776 := hbd.2.1
  have h3 : c ≤ 1099511627776 := by omega
  have hr : concL γ z = some ((zeroDs (cellKds C e) (szsOf C (cellKds C e))).map Dt.v) := zf3 γ _
  obtain ⟨q, hq1, hq2, hq3⟩ := concL_repl hr c
  have hzl : (zeroDs (cellKds C e) (szsOf C (cellKds C e))).length = i.size := by rw [zeroDs_len, ← zf2, q4]
  have hrl : ((zeroDs (cellKds C e) (szsOf C (cellKds C e))).map Dt.v).length = i.size := by rw [List.length_map, hzl]
  have hn : c * i.size = c * ((zeroDs (cellKds C e) (szsOf C (cellKds C e))).map Dt.v).length := by rw [hrl]
  have hql : q.length = c * i.size := by rw [hq2, hn]
  have hvec : seG γ (.a1 (.zs (cellKds C e) (szsOf C (cellKds C e))) (seOf vx)) = some (.ls (cellKds C e) (repD (zeroDs (cellKds C e) (szsOf C (cellKds C e))) c)) := by
    simp only [seG, hn0, Option.bind_some, e1]
    show (if _ then _ else _) = _
    rw [if_pos zf1]
  have hstep := Step.alloc (base := base) hR (.vec e (.a1 (.zs (cellKds C e) (szsOf C (cellKds C e))) (seOf vx))) (.cells ⟨q⟩ e (0, 0)) 0 c (w' := w.alloc (.cells ⟨q⟩ e (0, 0))) rfl rfl rfl rfl
    (fun γ' hg => ⟨_, 0, 0, _, rfl, seG_ext hg _ _ hvec, fun j d hj => by
        have hlt : j < c * i.size := by rw [← hzl, ← repD_len]; exact (List.getElem?_eq_some_iff.1 hj).1
        rw [repD_get _ _ _ (by rw [hzl]; exact hlt)] at hj
        have := hq3 j (by rw [← hn]; exact hlt)
        rw [hrl, List.getElem?_map, ← hzl, hj] at this
        simpa using this,
      ⟨i, hi.1, by rw [q4, zf2]; rfl, by rw [repD_len, hzl]; exact Nat.le_refl _, by simp [hql], 0, by simp⟩, fun off _ h => absurd h (Nat.not_lt_zero _), Nat.le_refl _⟩)
  refine ⟨_, .slice (some ⟨w.heap.size, 0, none⟩) c c, _, ?_, ?_, hstep⟩
  · obtain ⟨tinf, t1, t2, t3, _⟩ := hi.2.info
    have hw2 : IntKind.i64.wrap (c : Int) = (c : Int) := wrap_small c h3
    have hcond : ¬ ((decide ((c : Int) < 0) || decide ((tinf.bytes : Int) * (c : Int) > 2 ^ 48) || decide ((c : Int) < 0) || decide ((c : Int) > (c : Int))) = true) := by
      have : (tinf.bytes : Int) * (c : Int) = ((c * i.bytes : Nat) : Int) := by rw [t2]; push_cast; rw [Int.mul_comm]
      rw [this]
      simp only [Bool.or_eq_true, decide_eq_true_eq, not_or]
      refine ⟨⟨⟨?_, ?_⟩, ?_⟩, ?_⟩ <;> omega
    have ha : ∀ k n, (Go.asInt (.int k n)).run C.P w = .ok n w := fun _ _ => rfl
    unfold VS Instr.makeSlice
    simp only [Sem.run_bind, run_und hd w, Result.andThen_ok, ha, Sem.run_pure, typeInfo, run_program, t1, hw2]
    rw [if_neg hcond]
    simp only [Sem.run_bind, run_askRoom, Result.andThen_ok, hi.2.size w, Int.toNat_natCast]
    have hzr : v.cells.toList = (zeroDs (cellKds C e) (szsOf C (cellKds C e))).map Dt.v := Option.some.inj ((hz2 γ).symm.trans hr)
    by_cases h0 : c * i.size = 0
    · have hze := zeros_eq (n := c * i.size) (m := c) hn #[] (fun h => absurd h0 h) hql (fun j hj => by rw [hn] at hj; exact hq3 j hj)
      rw [if_pos h0]
      simp only [Sem.run_bind, Sem.run_pure, Result.andThen_ok]
      rw [hze, run_newRow]
      rfl
    · have hze := zeros_eq (n := c * i.size) (m := c) hn v.cells (fun _ => hzr) hql (fun j hj => by rw [hn] at hj; exact hq3 j hj)
      rw [if_neg h0]
      simp only [Sem.run_bind, hz1 w, Result.andThen_ok, Sem.run_pure]
      rw [hze, run_newRow]
      rfl
  · have a1 := seG_ext hstep.grow _ _ hn0
    simp only [conc, Option.bind_eq_some_iff]
    exact ⟨⟨w.heap.size, 0, c, none⟩, if_pos trivial, _, a1, _, a1, by unfold vslV; exact if_pos ⟨Nat.le_refl _, Nat.le_refl _⟩⟩
theorem ok_makeSlice (hC : Good C) (hR : Rel C base γ s w) (ht : TmpsRel γ nt t a.tmps) (ty : TypeId) (x y : Operand) (rt : TypeId) :
    (opMakeSlice ty x y rt C t s).path (NxOk C base γ s w ((VS (Instr.makeSlice ty (a.eval x) (a.eval y))).run C.P w)) := by
  refine R.pbd _ (path_under hC ty) fun d hd => ?_
  cases d with
  | slice e =>
    refine R.pbd _ (path_evA hR ht x) fun vx hvx => ?_
    refine R.pbd _ (path_evA hR ht y) fun vy hvy => ?_
    cases hopq : isOpq vx with
    | true => exact ok_makeVec hC hR hd hvx hvy
    | false =>
    simp only
    refine R.pbd _ (path_asIdx vx) fun l hl => ?_
    obtain ⟨kl, rfl⟩ := hl
    refine R.pbd _ (path_asIdx vy) fun c hc => ?_
    obtain ⟨kc, rfl⟩ := hc
    refine R.pbd _ (path_ti hC e) fun i hi => ?_
    refine R.pbd _ (R.path_guard _ _) fun _ hg => ?_
    simp only [Bool.and_eq_true] at hg
    have h1 : l ≤ c := Nat.le_of_ble_eq_true hg.1.1
    have h2 : c * i.bytes ≤ 1099511627776 := Nat.le_of_ble_eq_true hg.1.2
    have h3 : c ≤ 1099511627776 := Nat.le_of_ble_eq_true hg.2
    refine R.pbd _ (path_zeroFor (γ := γ) (w := w) hC e hi.1 _) fun z hz => ?_
    obtain ⟨r, hr, hz1, hz0⟩ := hz
    simp only [conc, Option.some.injEq] at hvx hvy
    obtain ⟨q, hq1, hq2, hq3⟩ := concL_repl hr c
    have hn : c * i.size = c * r.length := by
      by_cases h0 : c * i.size = 0
      · have := hz0 h0; subst this
        simp only [concL, Option.some.injEq] at hr; subst hr; simpa using h0
      · rw [(hz1 h0).1]
    have hql : q.length = c * i.size := by rw [hq2, hn]
    have hstep := Step.alloc (base := base) hR (cellsBlk e (repl z c)) (.cells ⟨q⟩ e (0, 0)) 0 c (w' := w.alloc (.cells ⟨q⟩ e (0, 0))) rfl rfl rfl rfl
      (newCells_rel hi.1 hq1 (by have := concL_len hq1; omega) (by simp; omega) (fun j c hj => by simpa using hj) _ 0 false 0 0 (by omega))
    refine ⟨_, .slice (some ⟨w.heap.size, 0, none⟩) l c, _, ?_, by simp [conc], hstep⟩
    obtain ⟨tinf, t1, t2, t3, _⟩ := hi.2.info
    have hw1 : IntKind.i64.wrap (Int.ofNat l) = (l : Int) := wrap_small l (by omega)
    have hw2 : IntKind.i64.wrap (Int.ofNat c) = (c : Int) := wrap_small c h3
    have hcond : ¬ ((decide ((c : Int) < 0) || decide ((tinf.bytes : Int) * (c : Int) > 2 ^ 48) || decide ((l : Int) < 0) || decide ((l : Int) > (c : Int))) = true) := by
      have : (tinf.bytes : Int) * (c : Int) = ((c * i.bytes : Nat) : Int) := by rw [t2]; push_cast; rw [Int.mul_comm]
      rw [this]
      simp only [Bool.or_eq_true, decide_eq_true_eq, not_or]
      refine ⟨⟨⟨?_, ?_⟩, ?_⟩, ?_⟩ <;> omega
    have ha : ∀ k n, (Go.asInt (.int k n)).run C.P w = .ok n w := fun _ _ => rfl
    unfold VS Instr.makeSlice
    rw [← hvx, ← hvy]
    simp only [Sem.run_bind, run_und hd w, Result.andThen_ok, ha, Sem.run_pure, typeInfo, run_program, t1, hw1, hw2]
    rw [if_neg hcond]
    simp only [Sem.run_bind, run_askRoom, Result.andThen_ok, hi.2.size w, Int.toNat_natCast]
    by_cases h0 : c * i.size = 0
    · have hze := zeros_eq (n := c * i.size) (m := c) hn #[] (fun h => absurd h0 h) hql (fun j hj => by rw [hn] at hj; exact hq3 j hj)
      rw [if_pos h0]
      simp only [Sem.run_bind, Sem.run_pure, Result.andThen_ok]
      rw [hze, run_newRow]
      rfl
    · obtain ⟨_, v, hv, hrv⟩ := hz1 h0
      have hze := zeros_eq (n := c * i.size) (m := c) hn v.cells (fun _ => hrv.symm) hql (fun j hj => by rw [hn] at hj; exact hq3 j hj)
      rw [if_neg h0]
      simp only [Sem.run_bind, hv, Result.andThen_ok, Sem.run_pure]
      rw [hze, run_newRow]
      rfl
  | _ => trivial
end
end Go.Proofs.YteibjeicgeophaaGreatDoor.Abs

namespace Go.Proofs.YteibjeicgeophaaGreatDoor.Abs
open Go
section
variable {C : Ctx} {base : Nat} {γ : G} {s : S} {w : World} {nt : Nat} {t : Tr AV} {a : Act}
def IdxRel : Option Nat → Option Value → Prop
  | none, none => True
  | some n, some c => ∃ k, c = .int k (.ofNat n)
  | _, _ => False
theorem path_evO (hR : Rel C base γ s w) (ht : TmpsRel γ nt t a.tmps) (x : Option Operand) :
    (evO C t x).path (fun v => match v, x.map a.eval with | none, none => True | some v, some c => conc γ v = some c | _, _ => False) := by
  cases x with
  | none => trivial
  | some x =>
    refine R.pbd _ (path_evA hR ht x) fun v hv => ?_
    exact hv
theorem path_optIdx (v : Option AV) (c : Option Value) (h : match v, c with | none, none => True | some v, some c => conc γ v = some c | _, _ => False) :
    (optIdx v).path (fun n => IdxRel n c) := by
  cases v with
  | none => cases c with
    | none => trivial
    | some c => exact h.elim
  | some v => cases c with
    | none => exact h.elim
    | some c =>
      refine R.pbd _ (path_asIdx v) fun n hn => ?_
      obtain ⟨k, rfl⟩ := hn
      simp only [conc, Option.some.injEq] at h
      exact ⟨k, h.symm⟩
theorem run_sliceBound {P : Program} (k : IntKind) (n y : Nat) (code : BoundsCode) (h : n ≤ y) (w : World) : (Instr.sliceBound (.int k (n : Int)) y code).run P w = .ok n w := by
  have h0 : (0 : Int) ≤ (n : Int) ∧ (n : Int) ≤ (y : Int) := ⟨Int.natCast_nonneg n, Int.ofNat_le.2 h⟩
  simp only [Instr.sliceBound, asIntOf, pure_bind, h0, and_self, if_true]
  rfl
theorem run_sliceBounds {P : Program} (b : Bool) (len cap : Nat) {lo hi mx : Option Nat} {clo chi cmx : Option Value} (h1 : IdxRel lo clo) (h2 : IdxRel hi chi) (h3 : IdxRel mx cmx)
    (hg : inB (lo.getD 0) (hi.getD len) (mx.getD cap) cap hi mx = true) (w : World) :
    (Instr.sliceBounds b len cap clo chi cmx).run P w = .ok (lo.getD 0, hi.getD len, mx.getD cap) w := by
  simp only [inB, Bool.and_eq_true] at hg
  obtain ⟨⟨⟨g1, g2⟩, g3⟩, g4⟩ := hg
  have g1 := Nat.le_of_ble_eq_true g1
  have g2 := Nat.le_of_ble_eq_true g2
  have g3 := Nat.le_of_ble_eq_true g3
  unfold Instr.sliceBounds
  cases mx with
  | none =>
    cases cmx with
    | some c => exact h3.elim
    | none =>
      cases hi with
      | none => cases chi with
        | some c => exact h2.elim
        | none => cases lo with
          | none => cases clo with
            | some c => exact h1.elim
            | none => rfl
          | some l => cases clo with
            | none => exact h1.elim
            | some c =>
              obtain ⟨k, rfl⟩ := h1
              simp only [Option.getD] at g1 g2 g3 ⊢
              simp [run_sliceBound _ _ _ _ g3]
      | some h => cases chi with
        | none => exact h2.elim
        | some c =>
          obtain ⟨k, rfl⟩ := h2
          cases lo with
          | none => cases clo with
            | some c => exact h1.elim
            | none =>
              simp only [Option.getD] at g1 g2 g3 ⊢
              simp [run_sliceBound _ _ _ _ g2]
          | some l => cases clo with
            | none => exact h1.elim
            | some c =>
              obtain ⟨k', rfl⟩ := h1
              simp only [Option.getD] at g1 g2 g3 ⊢
              simp [run_sliceBound _ _ _ _ g2, run_sliceBound _ _ _ _ g3]
  | some m =>
    cases cmx with
    | none => exact h3.elim
    | some cm =>
      obtain ⟨km, rfl⟩ := h3
      cases hi with
      | none => simp at g4
      | some h => cases chi with
        | none => exact h2.elim
        | some c =>
          obtain ⟨k, rfl⟩ := h2
          cases lo with
          | none => cases clo with
            | some c => exact h1.elim
            | none =>
              simp only [Option.getD] at g1 g2 g3 ⊢
              simp [run_sliceBound _ _ _ _ g2, run_sliceBound _ _ _ _ g1]
          | some l => cases clo with
            | none => exact h1.elim
            | some c =>
              obtain ⟨k', rfl⟩ := h1
              simp only [Option.getD] at g1 g2 g3 ⊢
              simp [run_sliceBound _ _ _ _ g2, run_sliceBound _ _ _ _ g3, run_sliceBound _ _ _ _ g1]
theorem movedTo_eq (m a off sz blk dl : Nat) : (if m = a then (⟨blk, dl + off, none⟩ : Addr) else Addr.add ⟨blk, dl + off, none⟩ (a * sz)) = ⟨blk, dl + movedTo m a off sz, none⟩ := by
  unfold movedTo
  by_cases h : m = a
  · subst h; simp
  · have : Nat.beq m a = false := by
      cases hb : Nat.beq m a
      · rfl
      · exact absurd (Nat.eq_of_beq_eq_true hb) h
    rw [if_neg h, this, addr_add]
    simp only
    congr 1
    show dl + off + a * sz = dl + (off + a * sz)
    omega
theorem ba_extract (l : List UInt8) (a h : Nat) : (ByteArray.mk ⟨l⟩).extract a h = ⟨⟨(l.take h).drop a⟩⟩ := by
  apply ByteArray.ext
  simp only [ByteArray.data_extract]
  apply Array.ext'
  simp [List.extract, List.drop_take]
theorem path_symBound (v : Option AV) (c : Option Value) (h : match v, c with | none, none => True | some v, some c => conc γ v = some c | _, _ => False) (d : SE) (dn : Nat) (hd : seG γ d = some (.val (.int .i64 dn))) :
    (symBound v d).path (fun l => ∃ q n, seG γ l = some (.val (.int q n)) ∧ ∀ n' : Nat, n = n' → ∃ o, IdxRel o c ∧ o.getD dn = n') := by
  cases v with
  | none => cases c with
    | none => exact ⟨_, _, hd, fun n' e => ⟨none, trivial, by show dn = n'; omega⟩⟩
    | some c => exact h.elim
  | some v => cases c with
    | none => exact h.elim
    | some c =>
      show (match isIntK (sKd v) with | true => R.ok (seOf v) | false => R.bad _).path _
      cases hi : isIntK (sKd v) with
      | false => exact R.path_bad _ _
      | true =>
        obtain ⟨q, hq⟩ := isInt_spec hi
        obtain ⟨n, h1, h2⟩ := sk_int h hq
        exact ⟨q, n, h1, fun n' e => ⟨some n', ⟨q, by rw [h2, e]; rfl⟩, rfl⟩⟩
theorem path_symCut (hR : Rel C base γ s w) {d : TypeDesc} {ty : TypeId} (hd : C.P.underlying ty = some d) {x : AV} {cx : Value} (hv : conc γ x = some cx) (vlo vhi vmx : Option AV) (clo chi cmx : Option Value)
    (hlo : match vlo, clo with | none, none => True | some v, some c => conc γ v = some c | _, _ => False) (hhi : match vhi, chi with | none, none => True | some v, some c => conc γ v = some c | _, _ => False)
    (hmx : match vmx, cmx with | none, none => True | some v, some c => conc γ v = some c | _, _ => False) :
    (symCut s d x vlo vhi vmx).path (fun r => ∃ c, conc γ r = some c ∧ (Instr.sliceAt ty cx clo chi cmx).run C.P w = .ok c w) := by
  unfold symCut
  cases d <;> first | exact R.path_bad _ _ | skip
  cases hk : sKd x <;> first | exact R.path_bad _ _ | skip
  cases vmx with
  | some _ => exact R.path_bad _ _
  | none =>
    cases cmx with
    | some _ => exact hmx.elim
    | none =>
      obtain ⟨str, h1, rfl⟩ := sk_str hv hk
      have hlen : seG γ (.a1 .len (seOf x)) = some (.val (.int .i64 str.size)) := by simp only [seG, h1, Option.bind_some, Go.Proofs.YteibjeicgeophaaGreatDoor.Abs.e1]
      refine R.pbd _ (path_symBound vlo clo hlo (.int .i64 0) 0 rfl) fun l hl => ?_
      refine R.pbd _ (path_symBound vhi chi hhi (.a1 .len (seOf x)) str.size hlen) fun h hh => ?_
      obtain ⟨q1, n1, g1, g2⟩ := hl
      obtain ⟨q2, n2, g3, g4⟩ := hh
      suffices key : 0 ≤ n1 ∧ n1 ≤ n2 ∧ n2 ≤ (str.size : Int) → (R.ok (AV.opq .str (.a3 .sub (seOf x) l h))).path (fun r => ∃ c, conc γ r = some c ∧ (Instr.sliceAt ty (.string str) clo chi none).run C.P w = .ok c w) by
        cases hkn : cutIn (seOf x) s.pc l h with
        | true => exact key (cutIn_spec (fun f hf => (hR.pc f hf).2) h1 hkn g1 g3)
        | false =>
          refine R.path_must hR fun hn => key ?_
          rcases Classical.em (0 ≤ n1 ∧ n1 ≤ n2 ∧ n2 ≤ (str.size : Int)) with h | h
          · exact h
          · exact absurd ⟨q1, n1, q2, n2, _, rfl, h⟩ (rel_not hn (seL3 g1 g3 hlen))
      intro hb
      obtain ⟨m1, rfl⟩ := Int.eq_ofNat_of_zero_le hb.1
      obtain ⟨m2, rfl⟩ := Int.eq_ofNat_of_zero_le (Int.le_trans hb.1 hb.2.1)
      obtain ⟨o1, i1, e1'⟩ := g2 m1 rfl
      obtain ⟨o2, i2, e2'⟩ := g4 m2 rfl
      refine ⟨_, conc_of (d := .val (.string ⟨⟨(str.data.toList.take m2).drop m1⟩⟩)) ?_ ⟨_, rfl⟩ rfl, ?_⟩
      · simp only [seG, h1, g1, g3, Option.bind_some, e3]
        simp
      · have hg : inB (o1.getD 0) (o2.getD str.size) ((none : Option Nat).getD str.size) str.size o2 none = true := by
          rw [e1', e2']
          simp only [inB, Option.getD, Option.isNone, Bool.or_true, Bool.and_true, Bool.and_eq_true, Nat.ble_eq]
          omega
        have := run_sliceBounds (P := C.P) false str.size str.size i1 i2 (show IdxRel none none from trivial) hg w
        rw [e1', e2'] at this
        unfold Instr.sliceAt
        rw [run_und' hd]
        simp only [Instr.slice]
        rw [run_und' hd]
        simp only [Option.isSome_none, Bool.false_eq_true, if_false, Sem.run_bind, this, Result.andThen_ok, Sem.run_pure]
        have e : str.extract m1 m2 = ⟨⟨(str.data.toList.take m2).drop m1⟩⟩ := by
          have := ba_extract str.data.toList m1 m2
          rwa [← string_eta] at this
        rw [e]
        rfl
theorem vslV_of {l : Loc} {n c : Nat} (h1 : n ≤ c) (h2 : c ≤ l.cp) : vslV l (.val (.int .i64 (.ofNat n))) (.val (.int .i64 (.ofNat c))) = some (.slice (some ⟨l.blk, l.dl, none⟩) n c) := by
  show (if n ≤ c ∧ c ≤ l.cp then _ else _) = _
  rw [if_pos ⟨h1, h2⟩]
theorem path_cutVec (hC : Good C) (hR : Rel C base γ s w) {d : TypeDesc} {ty : TypeId} (hd : C.P.underlying ty = some d) {b : Nat} {n c : SE} {cx : Value} (hv : conc γ (.vsl b n c) = some cx) (vlo vhi vmx : Option AV) (clo chi cmx : Option Value)
    (hlo : match vlo, clo with | none, none => True | some v, some c => conc γ v = some c | _, _ => False) (hhi : match vhi, chi with | none, none => True | some v, some c => conc γ v = some c | _, _ => False)
    (hmx : match vmx, cmx with | none, none => True | some v, some c => conc γ v = some c | _, _ => False) :
    (cutVec C s d b n c vlo vhi vmx).path (fun r => ∃ c, conc γ r = some c ∧ (Instr.sliceAt ty cx clo chi cmx).run C.P w = .ok c w) := by
  unfold cutVec
  cases d <;> first | exact R.path_bad _ _ | skip
  rename_i e
  refine R.pbd _ (path_ti hC e) fun i hi' => ?_
  cases vmx with
  | some _ => exact R.path_bad _ _
  | none =>
    cases cmx with
    | some _ => exact hmx.elim
    | none =>
      simp only
      cases hz : zeroLow vlo with
      | false => exact R.path_bad _ _
      | true =>
        obtain ⟨lc, k, q, hl, hn0, hc0, hk, hq, rfl⟩ := conc_vsl hv
        have low : ∃ o : Option Nat, IdxRel o clo ∧ o.getD 0 = 0 := by
          cases vlo with
          | none => cases clo with
            | none => exact ⟨none, trivial, rfl⟩
            | some _ => exact hlo.elim
          | some v => cases clo with
            | none => exact hlo.elim
            | some cl =>
              cases v <;> first | (cases hz; done) | skip
              rename_i kd m
              have hm : m = 0 := of_decide_eq_true hz
              subst hm
              simp only [conc, Option.some.injEq] at hlo
              exact ⟨some 0, ⟨kd, hlo.symm⟩, rfl⟩
        obtain ⟨lo, hlo', hlo0⟩ := low
        have fin : ∀ (o : Option Nat) (m : Nat) (r : AV), IdxRel o chi → o.getD k = m → m ≤ k → conc γ r = some (.slice (some ⟨lc.blk, lc.dl, none⟩) m q) →
            ∃ c, conc γ r = some c ∧ (Instr.sliceAt ty (.slice (some ⟨lc.blk, lc.dl, none⟩) k q) clo chi none).run C.P w = .ok c w := by
          intro o m r ho hm hmk hr
          refine ⟨_, hr, ?_⟩
          have hg : inB (lo.getD 0) (o.getD k) ((none : Option Nat).getD q) q o none = true := by
            rw [hlo0, hm]
            simp only [inB, Option.getD, Option.isNone, Bool.or_true, Bool.and_true, Bool.and_eq_true, Nat.ble_eq]
            omega
          have := run_sliceBounds (P := C.P) true k q hlo' ho (show IdxRel none none from trivial) hg w
          rw [hlo0, hm] at this
          simp only [Option.getD_none] at this
          unfold Instr.sliceAt
          rw [run_und' hd]
          simp only [Instr.slice]
          rw [run_und' hd]
          simp only [Sem.run_bind, this, Result.andThen_ok, hi'.2.size w, Sem.run_pure, Nat.sub_zero, Nat.zero_mul, Option.map_some, Addr.add, if_true, ite_self]
        cases vhi with
        | none =>
          cases chi with
          | some _ => exact hhi.elim
          | none => exact fin none k _ trivial rfl (Nat.le_refl _) hv
        | some h =>
          cases chi with
          | none => exact hhi.elim
          | some ch =>
            simp only
            cases hkd : kdEq (sKd h) (.int .i64) with
            | false => exact R.path_bad _ _
            | true =>
              obtain ⟨m, h1, h2⟩ := sk_int hhi (kdEq_spec hkd)
              refine R.path_must hR fun hn => ?_
              have hb : 0 ≤ m ∧ m ≤ (k : Int) := by
                rcases Classical.em (0 ≤ m ∧ m ≤ (k : Int)) with h | h
                · exact h
                · exact absurd ⟨.i64, 0, .i64, m, _, rfl, fun hh => h hh.2⟩ (rel_not hn (seL3 (show seG γ (.int .i64 0) = some (.val (.int .i64 0)) from rfl) h1 hn0))
              obtain ⟨p, rfl⟩ := Int.eq_ofNat_of_zero_le hb.1
              refine fin (some p) p _ ⟨.i64, by rw [h2]; rfl⟩ rfl (by omega) ?_
              simp only [conc, hl, h1, hc0, Option.bind_some]
              exact vslV_of (by omega) hq
theorem ok_slice (hC : Good C) (hR : Rel C base γ s w) (ht : TmpsRel γ nt t a.tmps) (ty : TypeId) (x : Operand) (lo hi mx : Option Operand) (rt : TypeId) :
    (opSlice ty x lo hi mx rt C t s).path (NxOk C base γ s w ((VS (Instr.sliceAt ty (a.eval x) (lo.map a.eval) (hi.map a.eval) (mx.map a.eval))).run C.P w)) := by
  refine R.pbd _ (path_evA hR ht x) fun v hv => ?_
  refine R.pbd _ (path_evO hR ht lo) fun vlo hlo => ?_
  refine R.pbd _ (path_evO hR ht hi) fun vhi hhi => ?_
  refine R.pbd _ (path_evO hR ht mx) fun vmx hmx => ?_
  refine R.pbd (fun r => ∃ c, conc γ r = some c ∧ (Instr.sliceAt ty (a.eval x) (lo.map a.eval) (hi.map a.eval) (mx.map a.eval)).run C.P w = .ok c w) ?_ fun r hr => (let ⟨c, h1, h2⟩ := hr; okVal hR h2 h1)
  by_cases hvs : ∃ b n c, v = .vsl b n c
  · obtain ⟨b, n, c, rfl⟩ := hvs
    refine R.pbd _ (path_under hC ty) fun d hd => ?_
    exact path_cutVec hC hR hd hv vlo vhi vmx _ _ _ hlo hhi hmx
  have hany : sliceAny C s ty v vlo vhi vmx = sliceOp C s ty v vlo vhi vmx := by
    cases v <;> first | rfl | exact absurd ⟨_, _, _, rfl⟩ hvs
  rw [hany]
  unfold sliceOp
  cases hq : isOpq v || isOpqO vlo || isOpqO vhi with
  | true =>
    refine R.pbd _ (path_under hC ty) fun d hd => ?_
    exact path_symCut hR hd hv vlo vhi vmx _ _ _ hlo hhi hmx
  | false =>
  refine R.pbd _ (path_optIdx vlo _ hlo) fun l hl => ?_
  refine R.pbd _ (path_optIdx vhi _ hhi) fun h hh => ?_
  refine R.pbd _ (path_optIdx vmx _ hmx) fun m hm => ?_
  refine R.pbd _ (path_under hC ty) fun d hd => ?_
  cases v with
  | str q =>
    cases d with
    | string =>
      refine R.pbd _ (R.path_guard _ _) fun _ hg => ?_
      simp only [Bool.and_eq_true] at hg
      obtain ⟨hg, hn⟩ := hg
      have hmn : m = none := by cases m <;> simp_all
      subst hmn
      cases hcm : mx.map a.eval with
      | some _ => rw [hcm] at hm; exact hm.elim
      | none =>
        simp only [conc, Option.some.injEq] at hv
        refine ⟨_, rfl, ?_⟩
        unfold Instr.sliceAt
        rw [run_und' hd]
        simp only [Instr.slice]
        rw [run_und' hd]
        rw [← hv]
        have hsz : (ByteArray.mk ⟨q⟩).size = q.length := rfl
        have := run_sliceBounds (P := C.P) false q.length q.length hl hh (show IdxRel none none from trivial) (by simpa using hg) w
        simp only [Option.isSome_none, Bool.false_eq_true, if_false, hsz, Sem.run_bind, this, Result.andThen_ok, Sem.run_pure, ba_extract]
    | _ => trivial
  | nilsl =>
    cases d with
    | slice e =>
      refine R.pbd _ (path_ti hC e) fun i hi' => ?_
      refine R.pbd _ (R.path_guard _ _) fun _ hg => ?_
      simp only [conc, Option.some.injEq] at hv
      refine ⟨_, rfl, ?_⟩
      unfold Instr.sliceAt
      rw [run_und' hd]
      simp only [Instr.slice]
      rw [run_und' hd]
      rw [← hv]
      have := run_sliceBounds (P := C.P) true 0 0 hl hh hm hg w
      simp only [inB, Bool.and_eq_true] at hg
      have g1 := Nat.le_of_ble_eq_true hg.1.1.1
      have g2 := Nat.le_of_ble_eq_true hg.1.1.2
      have g3 := Nat.le_of_ble_eq_true hg.1.2
      have e1 : m.getD 0 = 0 := by omega
      have e2 : h.getD 0 = 0 := by omega
      have e3 : l.getD 0 = 0 := by omega
      simp only [Sem.run_bind, this, Result.andThen_ok, hi'.2.size w, Sem.run_pure, e1, e2, e3]
      rfl
    | _ => trivial
  | sl b off len cap =>
    cases d with
    | slice e =>
      refine R.pbd _ (path_ti hC e) fun i hi' => ?_
      refine R.pbd _ (R.path_guard _ _) fun _ hg => ?_
      simp only [conc, Option.map_eq_some_iff] at hv
      obtain ⟨lc, hlc, he⟩ := hv
      refine ⟨.slice (some ⟨lc.blk, lc.dl + movedTo (m.getD cap) (l.getD 0) off i.size, none⟩) (h.getD len - l.getD 0) (m.getD cap - l.getD 0), by simp [conc, hlc], ?_⟩
      unfold Instr.sliceAt
      rw [run_und' hd]
      simp only [Instr.slice]
      rw [run_und' hd]
      rw [← he]
      have := run_sliceBounds (P := C.P) true len cap hl hh hm hg w
      simp only [Sem.run_bind, this, Result.andThen_ok, hi'.2.size w, Sem.run_pure, Option.map_some]
      have h2 := movedTo_eq (m.getD cap) (l.getD 0) off i.size lc.blk lc.dl
      rw [← h2]
      split <;> rfl
    | _ => trivial
  | osl b pre e0 len sz =>
    cases d with
    | slice e =>
      refine R.pbd _ (path_ti hC e) fun i hi' => ?_
      cases m with
      | none =>
        refine R.pbd _ (R.path_guard _ _) fun _ hg => ?_
        simp only [Bool.and_eq_true] at hg
        obtain ⟨hg1, hg2⟩ := hg
        simp only [conc, Option.map_eq_some_iff] at hv
        obtain ⟨lc, hlc, he⟩ := hv
        obtain ⟨k1, k2, k3⟩ := oOk_spec hR hi'.1 hlc hg1
        have k3' : e0 + h.getD len ≤ lc.cp := k3
        have hg2' : l.getD 0 ≤ h.getD len := Nat.le_of_ble_eq_true hg2
        have hb : inB (l.getD 0) (h.getD len) ((none : Option Nat).getD (lc.cp - e0)) (lc.cp - e0) h none = true := by
          simp only [inB, Bool.and_eq_true, Option.getD_none]
          refine ⟨⟨⟨Nat.ble_eq_true_of_le (Nat.le_refl _), Nat.ble_eq_true_of_le (by omega)⟩, hg2⟩, by simp⟩
        have hrun := run_sliceBounds (P := C.P) true len (lc.cp - e0) hl hh hm hb w
        have hgoal : ∀ v, (∀ c, conc γ v = some c → c = .slice (if lc.cp - e0 = l.getD 0 then some ⟨lc.blk, lc.dl + (if e0 < lc.cp then e0 else pre) * sz, none⟩ else (some ⟨lc.blk, lc.dl + (if e0 < lc.cp then e0 else pre) * sz, none⟩ : Option Addr).map (·.add (l.getD 0 * i.size))) (h.getD len - l.getD 0) (lc.cp - e0 - l.getD 0)) →
            (∃ c, conc γ v = some c) → ∃ c, conc γ v = some c ∧ (Instr.sliceAt ty (a.eval x) (lo.map a.eval) (hi.map a.eval) (mx.map a.eval)).run C.P w = .ok c w := by
          rintro v hv ⟨c, hc⟩
          refine ⟨c, hc, ?_⟩
          rw [hv c hc]
          unfold Instr.sliceAt
          rw [run_und' hd]
          simp only [Instr.slice]
          rw [run_und' hd]
          rw [← he]
          simp only [Option.getD_none] at hrun
          simp only [Sem.run_bind, hrun, Result.andThen_ok, hi'.2.size w, Sem.run_pure]
        cases hl0 : l.getD 0 with
        | zero =>
          refine hgoal _ (fun c hc => ?_) ⟨_, by simp [conc, hlc]; rfl⟩
          simp only [conc, hlc, Option.map_some, Option.some.injEq] at hc
          rw [← hc, hl0]
          simp only [Nat.sub_zero, Nat.zero_mul, Option.map_some, Addr.add, if_true, ite_self]
        | succ n =>
          refine hgoal _ (fun c hc => ?_) ⟨_, by simp [conc, hlc]; rfl⟩
          simp only [conc, hlc, Option.map_some, Option.some.injEq] at hc
          rw [← hc, hl0]
          have hlt : e0 < lc.cp := by omega
          simp only [hlt, if_true, Option.map_some, addr_add, k1]
          have e1 : lc.cp - (e0.add (n + 1)) = lc.cp - e0 - (n + 1) := by show lc.cp - (e0 + (n + 1)) = _; omega
          by_cases hq : lc.cp - e0 = n + 1
          · have : ¬ (e0.add (n + 1) < lc.cp) := by show ¬ (e0 + (n + 1) < lc.cp); omega
            rw [if_pos hq, if_neg this, e1]; rfl
          · have : (e0.add (n + 1) < lc.cp) := by show (e0 + (n + 1) < lc.cp); omega
            rw [if_neg hq, if_pos this, e1]
            congr 3
            show lc.dl + (e0 + (n + 1)) * sz = lc.dl + e0 * sz + (n + 1) * sz
            rw [Nat.add_mul]; omega
      | some m =>
        refine R.pbd _ (R.path_guard _ _) fun _ hg => ?_
        simp only [Bool.and_eq_true, Bool.not_eq_true'] at hg
        obtain ⟨⟨⟨hg1, hg2⟩, hg3⟩, hg4⟩ := hg
        simp only [conc, Option.map_eq_some_iff] at hv
        obtain ⟨lc, hlc, he⟩ := hv
        obtain ⟨k1, k2, k3⟩ := oOk_spec hR hi'.1 hlc hg1
        have k3' : e0 + len ≤ lc.cp := k3
        have hm' : m ≤ len := Nat.le_of_ble_eq_true hg2
        have hlen : len ≠ 0 := by rintro rfl; exact absurd hg3 (by decide)
        have hlt : e0 < lc.cp := by omega
        rw [if_pos hlt] at he
        refine ⟨.slice (some ⟨lc.blk, lc.dl + movedTo m (l.getD 0) (e0 * sz) sz, none⟩) (h.getD len - l.getD 0) (m - l.getD 0), by simp [conc, hlc], ?_⟩
        have hb : inB (l.getD 0) (h.getD len) ((some m : Option Nat).getD (lc.cp - e0)) (lc.cp - e0) h (some m) = true := by
          simp only [inB, Bool.and_eq_true, Option.getD_some] at hg4 ⊢
          exact ⟨⟨⟨Nat.ble_eq_true_of_le (by omega), hg4.1.1.2⟩, hg4.1.2⟩, hg4.2⟩
        unfold Instr.sliceAt
        rw [run_und' hd]
        simp only [Instr.slice]
        rw [run_und' hd]
        rw [← he]
        have := run_sliceBounds (P := C.P) true len (lc.cp - e0) hl hh hm hb w
        simp only [Option.getD_some] at this
        simp only [Sem.run_bind, this, Result.andThen_ok, hi'.2.size w, Sem.run_pure, Option.map_some]
        have h2 := movedTo_eq m (l.getD 0) (e0 * i.size) i.size lc.blk lc.dl
        rw [← k1, ← h2]
        split <;> rfl
    | _ => trivial
  | ptr b off =>
    cases d with
    | array n e =>
      refine R.pbd _ (path_ti hC e) fun i hi' => ?_
      refine R.pbd _ (R.path_guard _ _) fun _ hg => ?_
      simp only [conc, Option.map_eq_some_iff] at hv
      obtain ⟨lc, hlc, he⟩ := hv
      refine ⟨.slice (some ⟨lc.blk, lc.dl + movedTo (m.getD n) (l.getD 0) off i.size, none⟩) (h.getD n - l.getD 0) (m.getD n - l.getD 0), by simp [conc, hlc], ?_⟩
      unfold Instr.sliceAt
      rw [run_und' hd]
      rw [← he]
      have := run_sliceBounds (P := C.P) false n n hl hh hm hg w
      simp only [Instr.sureAddr, pure_bind, Sem.run_bind, this, Result.andThen_ok, hi'.2.size w, Sem.run_pure]
      rw [← movedTo_eq (m.getD n) (l.getD 0) off i.size lc.blk lc.dl]
    | _ => trivial
  | _ => trivial
end
end Go.Proofs.YteibjeicgeophaaGreatDoor.Abs

namespace Go.Proofs.YteibjeicgeophaaGreatDoor.Abs
open Go
section
variable {C : Ctx} {base : Nat} {γ : G} {s : S} {w : World} {nt : Nat} {t : Tr AV} {a : Act}
theorem concL_bytes (γ : G) : ∀ l : List UInt8, concL γ (bytesAV l) = some (l.map fun b => Value.int .u8 b.toNat)
  | [] => rfl
  | b :: l => by
    show concL γ (.int .u8 (.ofNat b.toNat) :: bytesAV l) = _
    exact concL_cons.2 ⟨_, _, rfl, concL_bytes γ l, rfl⟩
theorem bytesAV_len : ∀ l : List UInt8, (bytesAV l).length = l.length
  | [] => rfl
  | _ :: l => by simp [bytesAV, bytesAV_len l]
theorem path_srcCells (_hC : Good C) (hR : Rel C base γ s w) (e : TypeId) {i : TI} (hi : C.T.get e = some i) (x : AV) (cx : Value) (hx : conc γ x = some cx) :
    (srcCells s e i.size x).path (fun r => ∃ cs, concL γ r.2 = some cs ∧ r.2.length = r.1 * i.size ∧ (∀ w' : World, (Builtin.lenOf cx).run C.P w' = .ok r.1 w') ∧ (∀ n, n ≤ r.1 → (Builtin.firstCells i.size n cx).run C.P w = .ok ⟨cs.take (n * i.size)⟩ w)) := by
  cases x with
  | nilsl =>
    simp only [conc, Option.some.injEq] at hx; subst hx
    refine ⟨[], rfl, by simp, fun w' => rfl, fun n hn => ?_⟩
    simp [Builtin.firstCells]
  | str l =>
    simp only [conc, Option.some.injEq] at hx; subst hx
    show (match Nat.beq i.size 1 with | true => R.ok (l.length, bytesAV l) | false => R.bad _).path _
    cases hb : Nat.beq i.size 1
    · trivial
    · have h1 : i.size = 1 := Nat.eq_of_beq_eq_true hb
      refine ⟨_, concL_bytes γ l, by simp [bytesAV_len, h1], fun w' => rfl, fun n hn => ?_⟩
      simp only [Builtin.firstCells, ba_extract, h1, Nat.mul_one]
      rw [Sem.run_pure]
      congr 1
      apply Array.ext'
      simp [List.map_take]
  | sl b off len cap =>
    simp only [conc, Option.map_eq_some_iff] at hx
    obtain ⟨lc, hl, rfl⟩ := hx
    refine R.pbd _ (path_rdCells hR b off _) fun vs hvs => ?_
    obtain ⟨lc', cs, h1, h2, h3, h4⟩ := hvs
    rw [hl] at h1; obtain rfl := Option.some.inj h1
    refine ⟨cs, h2, h3, fun w' => rfl, fun n hn => ?_⟩
    have hlen := concL_len h2
    have h3' : vs.length = len * i.size := h3
    have hle : n * i.size ≤ cs.length := by rw [hlen, h3']; exact Nat.mul_le_mul_right _ hn
    simp only [Builtin.firstCells]
    exact run_loadCells' (fun j v hj => by
      rw [List.getElem?_take] at hj
      split at hj
      · exact h4 j v hj
      · cases hj) _ (by simp; omega)
  | osl b pre e0 len sz =>
    simp only [conc, Option.map_eq_some_iff] at hx
    obtain ⟨lc, hl, rfl⟩ := hx
    refine R.pbd _ (R.path_guard _ _) fun _ hg => ?_
    obtain ⟨k1, k2, k3⟩ := oOk_spec hR hi hl hg
    have k3' : e0 + len ≤ lc.cp := k3
    subst k1
    refine R.pbd _ (path_rdCells hR b _ _) fun vs hvs => ?_
    obtain ⟨lc', cs, h1, h2, h3, h4⟩ := hvs
    rw [hl] at h1; obtain rfl := Option.some.inj h1
    refine ⟨cs, h2, h3, fun w' => rfl, fun n hn => ?_⟩
    have hlen := concL_len h2
    have h3' : vs.length = len * i.size := h3
    have hle : n * i.size ≤ cs.length := by rw [hlen, h3']; exact Nat.mul_le_mul_right _ hn
    simp only [Builtin.firstCells]
    by_cases h0 : len = 0
    · subst h0
      have : n = 0 := by omega
      subst this
      simp [loadCells, loadCellsFrom]
    · have hlt : e0 < lc.cp := by omega
      simp only [hlt, if_true]
      exact run_loadCells' (fun j v hj => by
        rw [List.getElem?_take] at hj
        split at hj
        · exact h4 j v hj
        · cases hj) _ (by simp; omega)
  | _ => trivial
theorem growBy_bound (nl : Nat) : ∀ (r c : Nat), c ≤ nl → Builtin.growBy nl r c ≤ nl + (nl + 768) / 4 + 1
  | 0, c, h => by simp [Builtin.growBy]; omega
  | r + 1, c, h => by
    unfold Builtin.growBy
    split
    · omega
    · by_cases h2 : c + (c + 768) / 4 ≤ nl
      · exact growBy_bound nl r _ h2
      · have : Builtin.growBy nl r (c + (c + 768) / 4) = c + (c + 768) / 4 := by
          cases r with
          | zero => rfl
          | succ r => unfold Builtin.growBy; rw [if_pos (by omega)]
        rw [this]
        have : (c + 768) / 4 ≤ (nl + 768) / 4 := Nat.div_le_div_right (by omega)
        omega
theorem nextcap_bound (nl oc : Nat) (h : oc < nl) : Builtin.nextslicecap nl oc ≤ 4 * nl + 1000 := by
  unfold Builtin.nextslicecap
  split
  · omega
  · split
    · omega
    · have := growBy_bound nl 4 oc (by omega)
      omega
def ASrc (P : Program) (w : World) (xd : TypeDesc) (i : TI) (e : TypeId) (cx : Value) (n : Nat) (cn : List Value) : Prop :=
  (isIntD xd = false ∧ (∀ w' : World, (Builtin.lenOf cx).run P w' = .ok n w') ∧ ∀ d, (Builtin.firstCells i.size n cx).run P { w with drawn := d } = .ok ⟨cn⟩ { w with drawn := d }) ∨
  (isIntD xd = true ∧ (∃ k, cx = .int k n) ∧ n * i.bytes ≤ 68719476736 ∧ n ≤ 68719476736 ∧ ∃ zv : Value, (∀ w' : World, (zeroValue e).run P w' = .ok zv w') ∧ (if n * i.size = 0 then (#[] : Array Value) else Builtin.zeroCells zv.cells n) = ⟨cn⟩)
theorem run_append_new (_hC : Good C) {st xt e : TypeId} {i : TI} {xd : TypeDesc} (hst : C.P.underlying st = some (.slice e)) (hxt : C.P.underlying xt = some xd) (_hi : C.T.get e = some i) (hT : TIRel C.P e i)
    {rest : List TypeId} {rt : TypeId} {b : Option Addr} {sLen sCap n : Nat} {cx : Value} {co cn : List Value} {z : List AV} (hz : i.zero = some z) (hzl : z.length = i.size)
    (hsrc : ASrc C.P w xd i e cx n cn) (hcap : sCap < sLen + n) (hby : (sLen + n) * i.bytes ≤ 68719476736) (hne : sLen + n ≤ 68719476736)
    (hco : ∀ d, (Builtin.firstCells i.size sLen (.slice b sLen sCap)).run C.P { w with drawn := d } = .ok ⟨co⟩ { w with drawn := d })
    (_hcol : co.length = sLen * i.size) (_hcnl : cn.length = n * i.size) :
    ∃ (cap : Nat) (rest' : Array Value), sLen + n ≤ cap ∧ rest'.size = (cap - (sLen + n)) * i.size ∧
      (Builtin.append_ ⟨st :: xt :: rest⟩ rt #[.slice b sLen sCap, cx]).run C.P w =
        .ok (.slice (some ⟨w.heap.size, 0, none⟩) (sLen + n) cap) { w with drawn := w.drawn + 1, heap := w.heap.push (.cells (⟨co⟩ ++ ⟨cn⟩ ++ rest') e (0, 0)) } := by
  obtain ⟨ti, t1, t2, t3, _⟩ := hT.info
  obtain ⟨zv, hzv, hzc⟩ := hT.zero z hz
  have hzs : zv.cells.size = i.size := by
    have := concL_len (hzc (fun _ => none)); simp at this; omega
  let cap := (Question.appendCap (sLen + n) sCap e).cut (w.tape w.drawn (.appendCap (sLen + n) sCap e))
  have hcapge : sLen + n ≤ cap := by
    show sLen + n ≤ sLen + n + _
    omega
  refine ⟨cap, Builtin.zeroCells zv.cells (cap - (sLen + n)), hcapge, by simp [Builtin.zeroCells, hzs], ?_⟩
  have h1 : ¬ (((sLen + n : Nat) : Int) > IntKind.i64.max ∧ ti.bytes = 0) := by
    have : IntKind.i64.max = 9223372036854775807 := by decide
    rw [this]; omega
  have h1' : ¬ (((sLen + n : Nat) : Int) > IntKind.i64.max) := by
    have : IntKind.i64.max = 9223372036854775807 := by decide
    rw [this]; omega
  have h2 : ¬ (Builtin.nextslicecap (sLen + n) sCap * ti.bytes > 2 ^ 48) := by
    have := nextcap_bound (sLen + n) sCap hcap
    have h3 : Builtin.nextslicecap (sLen + n) sCap * ti.bytes ≤ (4 * (sLen + n) + 1000) * ti.bytes := Nat.mul_le_mul_right _ this
    have h4 : (4 * (sLen + n) + 1000) * ti.bytes ≤ 4 * ((sLen + n) * ti.bytes) + 1000 * ti.bytes := by rw [Nat.add_mul, Nat.mul_assoc]; omega
    have h5 : ti.bytes ≤ (sLen + n) * ti.bytes := Nat.le_mul_of_pos_left _ (by omega)
    rw [t2] at *
    omega
  have hq : (Question.appendCap (sLen + n) sCap e).forced = false := rfl
  rcases hsrc with ⟨hxi, hlen, hcn⟩ | ⟨hxi, ⟨kx, rfl⟩, hnb, hn, zv', hzv', hcn⟩
  · cases xd <;> first | (cases hxi; done) | skip
    all_goals (
      unfold Builtin.append_
      simp only [List.getElem?_toArray, List.getElem?_cons_zero, List.getElem?_cons_succ]
      rw [Sem.run_bind, run_und hst]
      simp only [Result.andThen_ok]
      rw [Sem.run_bind, hT.size w]
      simp only [Result.andThen_ok, Sem.run_bind, run_und hxt, Sem.run_pure, Bool.false_eq_true, if_false, Bool.not_false, if_true, false_or, hlen]
      rw [if_neg (by omega)]
      simp only [Sem.run_bind, typeInfo, run_program, t1, Result.andThen_ok, Sem.run_pure]
      rw [if_neg h1]
      simp only [Sem.run_bind, run_program, t1, Result.andThen_ok, Sem.run_pure]
      rw [if_neg h2]
      simp only [Sem.run_bind, run_choose, hq, Bool.false_eq_true, if_false, Result.andThen_ok, run_program, t1, Sem.run_pure, run_askRoom]
      rw [hco (w.drawn + 1)]
      simp only [Result.andThen_ok]
      rw [hcn (w.drawn + 1)]
      simp only [Result.andThen_ok, hzv]
      simp only [newRow, Sem.run_bind, run_newObj, Result.andThen_ok, Sem.run_pure]
      rfl)
  · cases xd <;> first | (cases hxi; done) | skip
    have hw1 : IntKind.i64.wrap (n : Int) = (n : Int) := wrap_small n (by omega)
    have ha : (Go.asInt (.int kx (n : Int))).run C.P w = .ok (n : Int) w := rfl
    have hl0 : ¬ ((n : Int) < 0) := by omega
    have hlb : ¬ ((n : Int) * (ti.bytes : Int) > 2 ^ 48) := by
      rw [t2]
      have : (n : Int) * (i.bytes : Int) = ((n * i.bytes : Nat) : Int) := by push_cast; rfl
      rw [this]; omega
    unfold Builtin.append_
    simp only [List.getElem?_toArray, List.getElem?_cons_zero, List.getElem?_cons_succ]
    rw [Sem.run_bind, run_und hst]
    simp only [Result.andThen_ok]
    rw [Sem.run_bind, hT.size w]
    simp only [Result.andThen_ok, Sem.run_bind, run_und hxt, Sem.run_pure, if_true, true_or, and_true, Bool.not_true, Bool.false_eq_true, if_false, ha, hw1]
    rw [if_neg hl0]
    simp only [Sem.run_bind, typeInfo, run_program, t1, Result.andThen_ok, Sem.run_pure]
    rw [if_neg hlb]
    simp only [Sem.run_bind, Result.andThen_ok, Sem.run_pure, Int.toNat_natCast]
    rw [if_neg (show ¬ (sLen + n ≤ sCap) by omega)]
    simp only [Sem.run_bind, run_program, t1, Result.andThen_ok, Sem.run_pure]
    rw [if_neg h1']
    simp only [Sem.run_bind, run_program, t1, Result.andThen_ok, Sem.run_pure]
    rw [if_neg h2]
    simp only [Sem.run_bind, run_choose, hq, Bool.false_eq_true, if_false, Result.andThen_ok, run_program, t1, Sem.run_pure, run_askRoom]
    rw [hco (w.drawn + 1)]
    simp only [Result.andThen_ok]
    have happ : (Sem.run C.P (if n * i.size = 0 then (pure #[] : Sem (Array Value)) else do pure (Builtin.zeroCells (← zeroValue e).cells n)) { w with drawn := w.drawn + 1 }) = .ok ⟨cn⟩ { w with drawn := w.drawn + 1 } := by
      rw [← hcn]
      by_cases h0 : n * i.size = 0
      · simp only [h0, if_true, Sem.run_pure]
      · simp only [h0, if_false, Sem.run_bind, hzv', Result.andThen_ok, Sem.run_pure]
    rw [happ]
    simp only [Result.andThen_ok, hzv]
    simp only [newRow, Sem.run_bind, run_newObj, Result.andThen_ok, Sem.run_pure]
    rfl
end
end Go.Proofs.YteibjeicgeophaaGreatDoor.Abs

namespace Go.Proofs.YteibjeicgeophaaGreatDoor.Abs
open Go
section
variable {C : Ctx} {base : Nat} {γ : G} {s : S} {w : World} {nt : Nat} {t : Tr AV} {a : Act}
theorem run_append_in {st xt e : TypeId} {i : TI} {xd : TypeDesc} (hst : C.P.underlying st = some (.slice e)) (hxt : C.P.underlying xt = some xd) (hT : TIRel C.P e i)
    {rest : List TypeId} {rt : TypeId} {b : Option Addr} {sLen sCap n : Nat} {cx : Value} {cn : List Value}
    (hsrc : ASrc C.P w xd i e cx n cn) (hcap : sLen + n ≤ sCap) {w' : World}
    (hst' : ∀ ad, b = some ad → (storeCells (ad.add (sLen * i.size)) cn).run C.P w = .ok () w') (hnone : b = none → w' = w) :
      (Builtin.append_ ⟨st :: xt :: rest⟩ rt #[.slice b sLen sCap, cx]).run C.P w = .ok (.slice b (sLen + n) sCap) w' := by
  rcases hsrc with ⟨hxi, hlen, hcn⟩ | ⟨hxi, ⟨kx, rfl⟩, hnb, hn, zv', hzv', hcn⟩
  · have hcn := hcn w.drawn
    cases xd <;> first | (cases hxi; done) | skip
    all_goals (
      unfold Builtin.append_
      simp only [List.getElem?_toArray, List.getElem?_cons_zero, List.getElem?_cons_succ]
      rw [Sem.run_bind, run_und hst]
      simp only [Result.andThen_ok]
      rw [Sem.run_bind, hT.size w]
      simp only [Result.andThen_ok, Sem.run_bind, run_und hxt, Sem.run_pure, Bool.false_eq_true, if_false, Bool.not_false, if_true, hlen]
      rw [if_pos hcap]
      simp only [Sem.run_bind, hcn, Result.andThen_ok]
      cases b with
      | none => simp only [hnone rfl]; rfl
      | some ad =>
        simp only [Sem.run_bind, hst' ad rfl, Result.andThen_ok, Sem.run_pure])
  · obtain ⟨ti, t1, t2, t3, _⟩ := hT.info
    cases xd <;> first | (cases hxi; done) | skip
    have hw1 : IntKind.i64.wrap (n : Int) = (n : Int) := wrap_small n (by omega)
    have ha : (Go.asInt (.int kx (n : Int))).run C.P w = .ok (n : Int) w := rfl
    have hl0 : ¬ ((n : Int) < 0) := by omega
    have hlb : ¬ ((n : Int) * (ti.bytes : Int) > 2 ^ 48) := by
      rw [t2]
      have : (n : Int) * (i.bytes : Int) = ((n * i.bytes : Nat) : Int) := by push_cast; rfl
      rw [this]; omega
    unfold Builtin.append_
    simp only [List.getElem?_toArray, List.getElem?_cons_zero, List.getElem?_cons_succ]
    rw [Sem.run_bind, run_und hst]
    simp only [Result.andThen_ok]
    rw [Sem.run_bind, hT.size w]
    simp only [Result.andThen_ok, Sem.run_bind, run_und hxt, Sem.run_pure, if_true, true_or, and_true, Bool.not_true, Bool.false_eq_true, if_false, ha, hw1]
    rw [if_neg hl0]
    simp only [Sem.run_bind, typeInfo, run_program, t1, Result.andThen_ok, Sem.run_pure]
    rw [if_neg hlb]
    simp only [Sem.run_bind, Result.andThen_ok, Sem.run_pure, Int.toNat_natCast]
    rw [if_pos hcap]
    have happ : (Sem.run C.P (if n * i.size = 0 then (pure #[] : Sem (Array Value)) else do pure (Builtin.zeroCells (← zeroValue e).cells n)) w) = .ok ⟨cn⟩ w := by
      rw [← hcn]
      by_cases h0 : n * i.size = 0
      · simp only [h0, if_true, Sem.run_pure]
      · simp only [h0, if_false, Sem.run_bind, hzv', Result.andThen_ok, Sem.run_pure]
    simp only [Sem.run_bind, happ, Result.andThen_ok]
    cases b with
    | none => simp only [hnone rfl]; rfl
    | some ad =>
      simp only [Sem.run_bind, hst' ad rfl, Result.andThen_ok, Sem.run_pure]
theorem Rel.drawn (hR : Rel C base γ s w) {w' : World} (hh : w'.heap = w.heap) : Rel C base γ s w' :=
  ⟨fun id b h => by rw [hh]; exact hR.blk id b h, hR.sep, hR.new, hR.glob, hR.low, by rw [hh]; exact hR.bs, hR.pc, fun id l d h1 h2 => Dt.good.stays (fun k hf => ⟨by rw [hh]; exact hf, by rw [hh]⟩) d (hR.rd id l d h1 h2)⟩
theorem Rel.stale (hR : Rel C base γ s w) {b : Nat} {e : TypeId} {cs : Tr AV} {k fz : Nat} {anc : List Nat} {st sg : Bool} (hb : s.h.get b = some (.cells e cs k fz anc st sg)) :
    Rel C base γ ⟨s.h.set b (.cells e cs k fz anc true sg), s.next, s.pc⟩ w := by
  have hsame : ∀ i x, (s.h.set b (.cells e cs k fz anc true sg)).get i = some x → (i = b ∧ x = .cells e cs k fz anc true sg) ∨ (i ≠ b ∧ s.h.get i = some x) := by
    intro i x hx
    rw [Tr.get_set] at hx
    split at hx
    · next h => exact .inl ⟨h.symm, (Option.some.inj hx).symm⟩
    · next h => exact .inr ⟨Ne.symm h, hx⟩
  have hanc : ∀ i x y l l', AncOf x i (.cells e cs k fz anc st sg) l l' → y = .cells e cs k fz anc true sg → AncOf x i y l l' := by
    intro i x y l l' h hy
    subst hy
    cases x <;> simp only [AncOf] at h ⊢
    exact ⟨h.1, trivial, h.2.2⟩
  have hanc2 : ∀ j y l l', AncOf (.cells e cs k fz anc st sg) j y l l' → AncOf (.cells e cs k fz anc true sg) j y l l' := by
    intro j y l l' h
    cases y <;> exact h
  refine ⟨?_, ?_, hR.new, hR.glob, ?_, hR.bs, hR.pc, ?_⟩
  · intro i x hx
    rcases hsame i x hx with ⟨rfl, rfl⟩ | ⟨_, hx'⟩
    · obtain ⟨l, o, h1, h2, vs, lo, hi, rfl, g1, g2, g3, g4, glh⟩ := hR.blk i _ hb
      refine ⟨l, _, h1, h2, vs, lo, hi, rfl, g1, ?_, g3, (fun h => by cases h), glh⟩
      exact g2
    · obtain ⟨l, o, h1, h2, h3⟩ := hR.blk i x hx'
      exact ⟨l, o, h1, h2, h3.mono (Grow.refl γ) ⟨rfl, rfl, rfl⟩⟩
  · intro i j x y l l' h1 h2 h3 h4 hne hbl
    rcases hsame i x h1 with ⟨rfl, rfl⟩ | ⟨_, hx⟩
    · rcases hsame j y h2 with ⟨rfl, _⟩ | ⟨_, hy⟩
      · exact absurd rfl hne
      · rcases hR.sep i j _ y l l' hb hy h3 h4 hne hbl with h | h
        · exact .inl (hanc2 _ _ _ _ h)
        · exact .inr (hanc _ _ _ _ _ h rfl)
    · rcases hsame j y h2 with ⟨rfl, rfl⟩ | ⟨_, hy⟩
      · rcases hR.sep i j x _ l l' hx hb h3 h4 hne hbl with h | h
        · exact .inl (hanc _ _ _ _ _ h rfl)
        · exact .inr (hanc2 _ _ _ _ h)
      · exact hR.sep i j x y l l' hx hy h3 h4 hne hbl
  · intro i x l h1 h2 h3
    rcases hsame i x h1 with ⟨rfl, rfl⟩ | ⟨_, hx⟩
    · rfl
    · exact hR.low i x l hx h2 h3
  · refine hR.rd' (Nat.le_refl _) (fun k _ _ => rfl) (fun k' _ => ?_) (fun id l d h1 h2 => ⟨id, l, h1, h2⟩)
    rintro ⟨id, x, l, h1, h2, h3, h4⟩
    rcases hsame id x h1 with ⟨rfl, rfl⟩ | ⟨_, hx⟩
    · cases h2
    · exact ⟨id, x, l, hx, h2, h3, h4⟩
theorem Step.stale (hR : Rel C base γ s w) {b : Nat} {e : TypeId} {cs : Tr AV} {k fz : Nat} {anc : List Nat} {st sg : Bool} (hb : s.h.get b = some (.cells e cs k fz anc st sg)) :
    Step C base γ s w γ ⟨s.h.set b (.cells e cs k fz anc true sg), s.next, s.pc⟩ w := by
  refine Step.of ⟨Grow.refl γ, hR.stale hb, Keep.refl _ _ _, ?_, Nat.le_refl _, fun _ _ h => hR.lt h, fun _ l h => .inl ⟨l, h⟩, fun id x h1 _ => by
    simp only [Tr.get_set] at h1
    split at h1
    · next h => subst h; exact ⟨_, hb⟩
    · exact ⟨x, h1⟩⟩
  rintro k' ⟨id, x, l, h1, h2, h3, h4⟩ _
  simp only [Tr.get_set] at h1
  split at h1
  · obtain rfl := Option.some.inj h1; cases h2
  · exact ⟨id, x, l, h1, h2, h3, h4⟩
theorem Rel.alias (hR : Rel C base γ s w) {b : Nat} {e : TypeId} {cs : Tr AV} {k fz : Nat} {anc : List Nat} {sg : Bool} (hb : s.h.get b = some (.cells e cs k fz anc false sg))
    {lc : Loc} (hl : γ b = some lc) {arr : Array Value} {lo hi : Nat} (ho : w.heap[lc.blk]? = some (.cells arr e (lo, hi))) {i : TI} (hi' : C.T.get e = some i) {e0 len n : Nat}
    (hk : (e0 + len) * i.size = k) (hroom : e0 + len + n ≤ lc.cp) {old new : List AV} {cold cnew : List Value} (hold : concL γ old = some cold) (hnew : concL γ new = some cnew)
    (holdl : old.length = len * i.size) (hnewl : new.length = n * i.size) (holdc : ∀ (j : Nat) v, cold[j]? = some v → arr[lc.dl + e0 * i.size + j]? = some v) (_hfz : fz ≤ k)
    (w' : World) (hw' : w'.heap = w.heap.setIfInBounds lc.blk (.cells (arrSet arr (lc.dl + k) cnew) e (lo, hi))) :
    Rel C base (fun id => if id = s.next then some ⟨lc.blk, lc.dl + e0 * i.size, lc.cp - e0, none⟩ else γ id)
      ⟨(s.h.set b (.cells e cs k fz anc true sg)).set s.next (.cells e (Tr.ofList (old ++ new)) ((len + n) * i.size) (fz - e0 * i.size) (b :: anc) false sg), s.next + 1, s.pc⟩ w' := by
  have hS := hR.stale hb
  obtain ⟨l', o, h1, h2, vs, lo', hi'', hoo, g1, g2, ⟨ii, g3, g4, g5, qd, g7⟩, g6, glh⟩ := hR.blk b _ hb
  rw [hl] at h1; obtain rfl := Option.some.inj h1
  rw [ho] at h2; obtain rfl := Option.some.inj h2
  cases hoo
  rw [hi'] at g3; obtain rfl := Option.some.inj g3
  have hbne : b ≠ s.next := Nat.ne_of_lt (hR.lt hl)
  have hlt : lc.blk < w.heap.size := by
    rcases Nat.lt_or_ge lc.blk w.heap.size with h | h
    · exact h
    · rw [Array.getElem?_eq_none h] at ho; cases ho
  have hgrow : Grow γ (fun id => if id = s.next then some ⟨lc.blk, lc.dl + e0 * i.size, lc.cp - e0, none⟩ else γ id) := by
    intro id l hl
    have : id ≠ s.next := Nat.ne_of_lt (hR.lt hl)
    exact ⟨l, by simp [this, hl], rfl, rfl, rfl⟩
  have hmul : (e0 + len + n) * i.size ≤ lc.cp * i.size := Nat.mul_le_mul_right _ hroom
  have hexp : (e0 + len + n) * i.size = k + n * i.size := by rw [Nat.add_mul, hk]
  have hcl := concL_len hnew
  have hget : ∀ id x, ((s.h.set b (.cells e cs k fz anc true sg)).set s.next (.cells e (Tr.ofList (old ++ new)) ((len + n) * i.size) (fz - e0 * i.size) (b :: anc) false sg)).get id = some x →
      (id = s.next ∧ x = .cells e (Tr.ofList (old ++ new)) ((len + n) * i.size) (fz - e0 * i.size) (b :: anc) false sg) ∨ (id ≠ s.next ∧ (s.h.set b (.cells e cs k fz anc true sg)).get id = some x) := by
    intro id x hx
    rw [Tr.get_set] at hx
    split at hx
    · next h => exact .inl ⟨h.symm, (Option.some.inj hx).symm⟩
    · next h => exact .inr ⟨Ne.symm h, hx⟩
  have hshare : ∀ id x lx, (s.h.set b (.cells e cs k fz anc true sg)).get id = some x → γ id = some lx → lx.blk = lc.blk →
      ∃ e' cs' k' fz' anc' sg', x = .cells e' cs' k' fz' anc' true sg' ∧ id ∈ b :: anc ∧ lx.dl + k' ≤ lc.dl + k := by
    intro id x lx hx hγ hbl
    by_cases hid : id = b
    · subst hid
      rw [Tr.get_set_same] at hx; obtain rfl := Option.some.inj hx
      rw [hl] at hγ; obtain rfl := Option.some.inj hγ
      exact ⟨_, _, _, _, _, _, rfl, by simp, Nat.le_refl _⟩
    · have hx' := hx
      rw [Tr.get_set_other _ _ (Ne.symm hid)] at hx'
      rcases hR.sep b id _ x lc lx hb hx' hl hγ (Ne.symm hid) hbl.symm with h | h
      · cases x <;> simp only [AncOf] at h
        obtain ⟨h1, h2, h3⟩ := h
        subst h2
        exact ⟨_, _, _, _, _, _, rfl, by simp [h1], h3⟩
      · cases x <;> simp only [AncOf] at h
        exact absurd h.2.1 (by simp)
  have hin : lc.dl + k + cnew.length ≤ arr.size := by
    rw [hcl, hnewl]; omega
  refine ⟨?_, ?_, ?_, ?_, ?_, ?_, hR.pc' hgrow, ?_⟩
  · intro id x hx
    rcases hget id x hx with ⟨rfl, rfl⟩ | ⟨hne, hx'⟩
    · refine ⟨⟨lc.blk, lc.dl + e0 * i.size, lc.cp - e0, none⟩, .cells (arrSet arr (lc.dl + k) cnew) e (lo, hi), by simp, by rw [hw']; simp [hlt], ?_⟩
      have hdk : lc.dl + e0 * i.size + len * i.size = lc.dl + k := by rw [← hk, Nat.add_mul]; omega
      refine ⟨_, lo, hi, rfl, ?_, ?_, ⟨i, hi', ?_, ?_, qd + e0, by simp only; rw [g7, Nat.add_mul]⟩, ?_, glh⟩
      · rw [arrSet_size]; simp only; rw [Nat.add_mul]; omega
      · intro j v hj hv
        rw [Tr.get_ofList, List.getElem?_append] at hv
        split at hv
        · next hlt' =>
          obtain ⟨c, hc, hcc⟩ := concL_get j v hold hv
          refine ⟨c, ?_, .inr (conc_ext hgrow _ _ hc)⟩
          rw [arrSet_get _ _ _ _ hin, if_neg (by simp only; omega)]
          exact holdc j c hcc
        · next hge =>
          obtain ⟨c, hc, hcc⟩ := concL_get _ v hnew hv
          refine ⟨c, ?_, .inr (conc_ext hgrow _ _ hc)⟩
          have hjl : j - old.length < cnew.length := by
            rcases Nat.lt_or_ge (j - old.length) cnew.length with h | h
            · exact h
            · rw [List.getElem?_eq_none h] at hcc; cases hcc
          rw [arrSet_get _ _ _ _ hin, if_pos (by simp only; omega)]
          rw [← hcc]; congr 1; simp only; omega
      · simp only; exact Nat.mul_le_mul_right _ (by omega)
      · rw [arrSet_size]; simp only
        have : lc.dl + e0 * i.size + (lc.cp - e0) * i.size = lc.dl + lc.cp * i.size := by
          rw [Nat.add_assoc, ← Nat.add_mul, show e0 + (lc.cp - e0) = lc.cp by omega]
        omega
      · intro _ off h1 h2
        rw [arrSet_size]
        rcases g6 rfl off h1 h2 with h | h
        · left; simp only; omega
        · right; exact h
    · obtain ⟨l, o, q1, q2, q3⟩ := hS.blk id x hx'
      by_cases hbl : l.blk = lc.blk
      · obtain ⟨e', cs', k', fz', anc', sg', rfl, _, hle⟩ := hshare id x l hx' q1 hbl
        obtain ⟨vs, lo1, hi1, rfl, f1, f2, f3, f4, flh⟩ := q3
        rw [hbl, ho] at q2
        cases q2
        refine ⟨l, .cells (arrSet arr (lc.dl + k) cnew) e (lo, hi), by simp [hne, q1], by rw [hw', hbl]; simp [hlt], ?_⟩
        refine ⟨_, lo, hi, rfl, by rw [arrSet_size]; exact f1, ?_, by rw [arrSet_size]; exact f3, (fun h => by cases h), glh⟩
        intro j v hj hv
        obtain ⟨c, hc, hcc⟩ := f2 j v hj hv
        refine ⟨c, ?_, hcc.grow hgrow⟩
        rw [arrSet_get _ _ _ _ hin, if_neg (by omega)]
        exact hc
      · refine ⟨l, o, by simp [hne, q1], by rw [hw']; simp [Ne.symm hbl, q2], q3.mono hgrow ⟨rfl, rfl, rfl⟩⟩
  · intro id id' x y l l' h1 h2 h3 h4 hne hbl
    rcases hget id x h1 with ⟨rfl, rfl⟩ | ⟨hn1, hx⟩
    · rcases hget id' y h2 with ⟨rfl, _⟩ | ⟨hn2, hy⟩
      · exact absurd rfl hne
      · simp only [if_true] at h3; simp only [hn2, if_false] at h4
        obtain rfl := Option.some.inj h3
        obtain ⟨e', cs', k', fz', anc', sg', rfl, hm, hle⟩ := hshare id' y l' hy h4 hbl.symm
        left
        refine ⟨hm, rfl, ?_⟩
        simp only
        have : lc.dl + e0 * i.size + (len + n) * i.size = lc.dl + k + n * i.size := by rw [← hk, Nat.add_mul, Nat.add_mul]; omega
        omega
    · rcases hget id' y h2 with ⟨rfl, rfl⟩ | ⟨hn2, hy⟩
      · simp only [if_true] at h4; simp only [hn1, if_false] at h3
        obtain rfl := Option.some.inj h4
        obtain ⟨e', cs', k', fz', anc', sg', rfl, hm, hle⟩ := hshare id x l hx h3 hbl
        right
        refine ⟨hm, rfl, ?_⟩
        simp only
        have : lc.dl + e0 * i.size + (len + n) * i.size = lc.dl + k + n * i.size := by rw [← hk, Nat.add_mul, Nat.add_mul]; omega
        omega
      · simp only [hn1, if_false] at h3; simp only [hn2, if_false] at h4
        exact hS.sep id id' x y l l' hx hy h3 h4 hne hbl
  · intro id hid
    have hid' : s.next + 1 ≤ id := hid
    have : id ≠ s.next := by omega
    simp only [this, if_false]
    exact hR.new id (by omega)
  · intro g hg
    obtain ⟨l, q1, q2, q3⟩ := hR.glob g hg
    have : g ≠ s.next := Nat.ne_of_lt (hR.lt q1)
    exact ⟨l, by simp [this, q1], q2, q3⟩
  · intro id x l h1 h2 h3
    rcases hget id x h1 with ⟨rfl, rfl⟩ | ⟨hn1, hx⟩
    · simp only [if_true] at h2
      obtain rfl := Option.some.inj h2
      have := hR.low b _ lc hb hl h3
      cases this
    · simp only [hn1, if_false] at h2
      exact hS.low id x l hx h2 h3
  · rw [hw']; simp; exact hR.bs
  · have hlv : Live γ s lc.blk := ⟨b, _, lc, hb, rfl, hl, rfl⟩
    refine hR.rd' (by rw [hw']; simp) (fun k hk hn => ?_) (fun k hk => ?_) (fun id l' d h1 h2 => ?_)
    · have hne : lc.blk ≠ k := fun e => hn (e ▸ hlv)
      rw [hw']; simp [hne]
    · rintro ⟨id, x, l, h1, h2, h3, h4⟩
      rcases hget id x h1 with ⟨rfl, rfl⟩ | ⟨hn1, hx⟩
      · simp only [if_true] at h3
        obtain rfl := Option.some.inj h3
        exact h4 ▸ hlv
      · simp only [hn1, if_false] at h3
        rw [Tr.get_set] at hx
        split at hx
        · obtain rfl := Option.some.inj hx; cases h2
        · exact ⟨id, x, l, hx, h2, h3, h4⟩
    · by_cases e : id = s.next
      · simp only [e, if_true, Option.some.injEq] at h1
        subst h1
        cases h2
      · simp only [e, if_false] at h1
        exact ⟨id, l', h1, h2⟩
end
end Go.Proofs.YteibjeicgeophaaGreatDoor.Abs

namespace Go.Proofs.YteibjeicgeophaaGreatDoor.Abs
open Go
section
variable {C : Ctx} {base : Nat} {γ : G} {s : S} {w : World} {nt : Nat} {t : Tr AV} {a : Act}
theorem BlkRel.lt (hR : Rel C base γ s w) {id : Nat} {b : Blk} {l : Loc} (h : s.h.get id = some b) (hl : γ id = some l) : l.blk < w.heap.size := by
  obtain ⟨l', o, h1, h2, _⟩ := hR.blk id b h
  rw [hl] at h1; obtain rfl := Option.some.inj h1
  rcases Nat.lt_or_ge l.blk w.heap.size with h | h
  · exact h
  · rw [Array.getElem?_eq_none h] at h2; cases h2
theorem Step.ghost (hR : Rel C base γ s w) (d : Dt) (hd : ∀ F, d.good C w F) :
    Step C base γ s w (fun id => if id = s.next then some ⟨w.heap.size, 0, 0, some d⟩ else γ id) ⟨s.h, s.next + 1, s.pc⟩ w := by
  have hgrow : Grow γ (fun id => if id = s.next then some ⟨w.heap.size, 0, 0, some d⟩ else γ id) := by
    intro id l hl
    have : id ≠ s.next := Nat.ne_of_lt (hR.lt hl)
    exact ⟨l, by simp [this, hl], rfl, rfl, rfl⟩
  have hold : ∀ id b, s.h.get id = some b → id ≠ s.next := by
    intro id b h
    obtain ⟨l, o, h1, _⟩ := hR.blk id b h
    exact Nat.ne_of_lt (hR.lt h1)
  have hlive : ∀ k, Live (fun id => if id = s.next then some ⟨w.heap.size, 0, 0, some d⟩ else γ id) ⟨s.h, s.next + 1, s.pc⟩ k → Live γ s k := by
    rintro k ⟨id, b, l, h1, h2, h3, h4⟩
    have := hold id b h1
    simp only [this, if_false] at h3
    exact ⟨id, b, l, h1, h2, h3, h4⟩
  have hgood : ∀ Z, GoodAll C γ s w Z → GoodAll C (fun id => if id = s.next then some ⟨w.heap.size, 0, 0, some d⟩ else γ id) ⟨s.h, s.next + 1, s.pc⟩ w Z := by
    intro Z hg id l d' h1 h2
    by_cases e : id = s.next
    · simp only [e, if_true, Option.some.injEq] at h1
      subst h1
      obtain rfl := Option.some.inj h2
      exact hd _
    · simp only [e, if_false] at h1
      exact Dt.good.stays (fun k hf => ⟨⟨hf.1, fun hh => hf.2.1 (hlive k hh), hf.2.2⟩, rfl⟩) d' (hg id l d' h1 h2)
  refine ⟨hgrow, ⟨?_, ?_, ?_, ?_, ?_, hR.bs, hR.pc' hgrow, hgood _ hR.rd⟩, Keep.refl γ s w, fun k h _ => hlive k h, Nat.le_succ _, fun _ _ h => hR.lt h, ?_, fun id b h _ => ⟨b, h⟩, fun Z _ hg => hgood Z hg⟩
  · intro id b h
    obtain ⟨l, o, h1, h2, h3⟩ := hR.blk id b h
    have := hold id b h
    exact ⟨l, o, by simp [this, h1], h2, h3.mono hgrow ⟨rfl, rfl, rfl⟩⟩
  · intro id id' b b' l l' h1 h2 h3 h4 hne hbl
    have e1 := hold id b h1
    have e2 := hold id' b' h2
    simp only [e1, if_false] at h3
    simp only [e2, if_false] at h4
    exact hR.sep id id' b b' l l' h1 h2 h3 h4 hne hbl
  · intro id hid
    have hid' : s.next + 1 ≤ id := hid
    have : id ≠ s.next := by omega
    simp only [this, if_false]
    exact hR.new id (by omega)
  · intro g hg
    obtain ⟨l, q1, q2, q3⟩ := hR.glob g hg
    have : g ≠ s.next := Nat.ne_of_lt (hR.lt q1)
    exact ⟨l, by simp [this, q1], q2, q3⟩
  · intro id b l h1 h2 h3
    have := hold id b h1
    simp only [this, if_false] at h2
    exact hR.low id b l h1 h2 h3
  · intro id l' h
    by_cases e : id = s.next
    · simp only [e, if_true, Option.some.injEq] at h
      subst h
      exact .inr ⟨by omega, .inl (Nat.le_refl _)⟩
    · simp only [e, if_false] at h
      exact .inl ⟨l', h⟩
theorem Step.del (hR : Rel C base γ s w) (b : Nat) : Step C base γ s w γ ⟨s.h.del b, s.next, s.pc⟩ w := by
  have hget : ∀ {id x}, (s.h.del b).get id = some x → s.h.get id = some x := by
    intro id x h
    rw [Tr.get_del] at h
    split at h
    · cases h
    · exact h
  have hlive : ∀ k, Live γ ⟨s.h.del b, s.next, s.pc⟩ k → Live γ s k := fun k ⟨id, x, l, h1, h2, h3, h4⟩ => ⟨id, x, l, hget h1, h2, h3, h4⟩
  refine Step.of ⟨Grow.refl γ, ⟨fun id x h => hR.blk id x (hget h), fun id id' x y l l' h1 h2 => hR.sep id id' x y l l' (hget h1) (hget h2), hR.new, hR.glob, fun id x l h => hR.low id x l (hget h), hR.bs, hR.pc, ?_⟩,
    Keep.refl _ _ _, fun k h _ => hlive k h, Nat.le_refl _, fun _ _ h => hR.lt h, fun _ l h => .inl ⟨l, h⟩, fun id x h _ => ⟨x, hget h⟩⟩
  exact hR.rd' (Nat.le_refl _) (fun _ _ _ => rfl) (fun k _ h => hlive k h) (fun id l d h1 h2 => ⟨id, l, h1, h2⟩)
theorem Step.move (hR : Rel C base γ s w) {b : Nat} {el : TypeId} {x : SE} {lc : Loc} {o' : Obj} (hb : s.h.get b = some (.vec el x)) (hl : γ b = some lc) {y : Blk} {w' : World}
    (hw : w' = { w with heap := w.heap.setIfInBounds lc.blk o' }) (hy : ∀ γ', Grow γ γ' → BlkRel C γ' lc y o') :
    Step C base γ s w (fun id => if id = s.next then some lc else γ id) ⟨(s.h.del b).set s.next y, s.next + 1, s.pc⟩ w' := by
  have hlt := BlkRel.lt hR hb hl
  have hgrow : Grow γ (fun id => if id = s.next then some lc else γ id) := by
    intro id l hl
    have : id ≠ s.next := Nat.ne_of_lt (hR.lt hl)
    exact ⟨l, by simp [this, hl], rfl, rfl, rfl⟩
  have hget : ∀ {id z}, ((s.h.del b).set s.next y).get id = some z → (id = s.next ∧ z = y) ∨ (id ≠ s.next ∧ id ≠ b ∧ s.h.get id = some z) := by
    intro id z h
    rw [Tr.get_set] at h
    split at h
    · next e => exact .inl ⟨e.symm, (Option.some.inj h).symm⟩
    · next e =>
      rw [Tr.get_del] at h
      split at h
      · cases h
      · next e2 => exact .inr ⟨Ne.symm e, Ne.symm e2, h⟩
  have hno : ∀ {id z l}, id ≠ b → s.h.get id = some z → γ id = some l → l.blk ≠ lc.blk := by
    intro id z l hne h h2 hbl
    rcases hR.sep id b z _ l lc h hb h2 hl hne hbl with h' | h'
    · cases z <;> simp [AncOf] at h'
    · simp [AncOf] at h'
  have hlv : Live γ s lc.blk := ⟨b, _, lc, hb, rfl, hl, rfl⟩
  have hheap : ∀ {k : Nat}, k ≠ lc.blk → w'.heap[k]? = w.heap[k]? := by
    intro k hk
    rw [hw]; simp [Ne.symm hk]
  have hsz : w'.heap.size = w.heap.size := by rw [hw]; simp
  have hlive : ∀ k, Live (fun id => if id = s.next then some lc else γ id) ⟨(s.h.del b).set s.next y, s.next + 1, s.pc⟩ k → Live γ s k := by
    rintro k ⟨id, z, l, h1, h2, h3, h4⟩
    rcases hget h1 with ⟨rfl, rfl⟩ | ⟨hn1, hn2, hz⟩
    · simp only [if_true] at h3
      obtain rfl := Option.some.inj h3
      exact h4 ▸ hlv
    · simp only [hn1, if_false] at h3
      exact ⟨id, z, l, hz, h2, h3, h4⟩
  have hdat : ∀ id l' d, (if id = s.next then some lc else γ id) = some l' → l'.v = some d → ∃ id0 l, γ id0 = some l ∧ l.v = some d := by
    intro id l' d h1 h2
    by_cases e : id = s.next
    · rw [if_pos e] at h1
      obtain rfl := Option.some.inj h1
      exact ⟨b, lc, hl, h2⟩
    · rw [if_neg e] at h1
      exact ⟨id, l', h1, h2⟩
  have hkeep : Keep γ s w w' := by
    refine ⟨Nat.le_of_eq hsz.symm, by rw [hw], by rw [hw], by rw [hw], fun k o hk hn => ?_⟩
    rw [hheap fun e => hn (by rw [e]; exact hlv)]; exact hk
  refine Step.of' ⟨hgrow, ⟨?_, ?_, ?_, ?_, ?_, by rw [hsz]; exact hR.bs, hR.pc' hgrow, ?_⟩, hkeep, fun k h _ => hlive k h, Nat.le_succ _, fun _ _ h => hR.lt h, ?_, ?_⟩ hdat
  · intro id z h
    rcases hget h with ⟨rfl, rfl⟩ | ⟨hn1, hn2, hz⟩
    · exact ⟨lc, o', by simp, by rw [hw]; simp [hlt], hy _ hgrow⟩
    · obtain ⟨l, o, h1, h2, h3⟩ := hR.blk id z hz
      exact ⟨l, o, by simp [hn1, h1], by rw [hheap (hno hn2 hz h1)]; exact h2, h3.mono hgrow ⟨rfl, rfl, rfl⟩⟩
  · intro id id' z z' l l' h1 h2 h3 h4 hne hbl
    rcases hget h1 with ⟨rfl, rfl⟩ | ⟨hn1, hn2, hz⟩
    · rcases hget h2 with ⟨rfl, _⟩ | ⟨hm1, hm2, hz'⟩
      · exact absurd rfl hne
      · simp only [if_true] at h3
        obtain rfl := Option.some.inj h3
        simp only [hm1, if_false] at h4
        exact absurd hbl.symm (hno hm2 hz' h4)
    · simp only [hn1, if_false] at h3
      rcases hget h2 with ⟨rfl, _⟩ | ⟨hm1, hm2, hz'⟩
      · simp only [if_true] at h4
        obtain rfl := Option.some.inj h4
        exact absurd hbl (hno hn2 hz h3)
      · simp only [hm1, if_false] at h4
        exact hR.sep id id' z z' l l' hz hz' h3 h4 hne hbl
  · intro id hid
    have hid' : s.next + 1 ≤ id := hid
    have : id ≠ s.next := by omega
    simp only [this, if_false]
    exact hR.new id (by omega)
  · intro g hg
    obtain ⟨l, q1, q2, q3⟩ := hR.glob g hg
    have : g ≠ s.next := Nat.ne_of_lt (hR.lt q1)
    exact ⟨l, by simp [this, q1], q2, q3⟩
  · intro id z l h1 h2 h3
    rcases hget h1 with ⟨rfl, rfl⟩ | ⟨hn1, hn2, hz⟩
    · simp only [if_true] at h2
      obtain rfl := Option.some.inj h2
      have := hR.low b _ lc hb hl h3
      cases this
    · simp only [hn1, if_false] at h2
      exact hR.low id z l hz h2 h3
  · exact hR.rd' (Nat.le_of_eq hsz.symm) (fun k _ hn => hheap fun e => hn (e ▸ hlv)) (fun k _ h => hlive k h) hdat
  · intro id l' h
    by_cases e : id = s.next
    · simp only [e, if_true, Option.some.injEq] at h
      subst h
      exact .inr ⟨by omega, .inr ⟨b, _, lc, hb, hl, rfl⟩⟩
    · simp only [e, if_false] at h
      exact .inl ⟨l', h⟩
  · intro id z h hlt'
    rcases hget h with ⟨rfl, _⟩ | ⟨_, _, hz⟩
    · omega
    · exact ⟨z, hz⟩
theorem path_appVec (hC : Good C) (hR : Rel C base γ s w) {st xt e : TypeId} {i : TI} {xd : TypeDesc} (hst : C.P.underlying st = some (.slice e)) (hxt : C.P.underlying xt = some xd) (hi : C.T.get e = some i) (hT : TIRel C.P e i)
    {rest : List TypeId} {rt : TypeId} {z : List AV} (hz : i.zero = some z) (hzl : z.length = i.size) {b : Nat} {n c : SE} {cb cx : Value} (hcb : conc γ (.vsl b n c) = some cb) {cnt : Nat} {new : List AV} {cs : List Value}
    (hcs : concL γ new = some cs) (hcl : new.length = cnt * i.size) (hsrc : ASrc C.P w xd i e cx cnt cs) :
    (appVec C s e i.size i.bytes b n cnt new).path (NxOk C base γ s w ((VS (Builtin.append_ ⟨st :: xt :: rest⟩ rt ⟨[cb, cx]⟩)).run C.P w)) := by
  obtain ⟨lc, k, q, hl, hn0, hc0, hk, hq, rfl⟩ := conc_vsl hcb
  unfold appVec
  cases hb : s.h.get b with
  | none => trivial
  | some x0 =>
    cases x0 with
    | vec el x =>
      obtain ⟨l', o, h1, h2, vs, lo, hi', es, rfl, g1, g2, ⟨i', g3, g4, g5, g6, g7⟩, g8, g9⟩ := hR.blk b _ hb
      rw [hl] at h1; obtain rfl := Option.some.inj h1
      refine R.pbd _ (R.path_guard _ _) fun _ hg => ?_
      simp only [Bool.and_eq_true, Bool.not_eq_true'] at hg
      obtain ⟨e1, e2', e3', e4, e5, e6⟩ := hg
      obtain rfl := Nat.eq_of_beq_eq_true e1
      rw [hi] at g3; obtain rfl := Option.some.inj g3
      have hsz0 : i.size ≠ 0 := by intro h; rw [h] at e5; cases e5
      have hks : (cellKds C el).length = i.size := g4.symm
      cases hy : snAll C (cellKds C el) new (cellKds C el) (.a2 (.tk i.size) x n) with
      | none => trivial
      | some y =>
        refine R.path_must hR fun hn => ?_
        have hbd : k * i.size ≤ es.length ∧ (k + cnt) * i.bytes ≤ 68719476736 ∧ k + cnt ≤ 68719476736 := by
          rcases Classical.em (k * i.size ≤ es.length ∧ (k + cnt) * i.bytes ≤ 68719476736 ∧ k + cnt ≤ 68719476736) with h | h
          · exact h
          · exact absurd ⟨_, _, _, rfl, fun hh => h hh.2⟩ (rel_not hn (seL2 g1 hn0))
        have htk : seG γ (.a2 (.tk i.size) x n) = some (.ls (cellKds C el) (es.take (k * i.size))) := by
          simp only [seG, g1, hn0, Option.bind_some, e2]
          rw [if_pos hbd.1]
        have htl : (es.take (k * i.size)).length = k * i.size := by rw [List.length_take]; omega
        obtain ⟨ds, hys, hds⟩ := snAll_spec new (cellKds C el) _ y _ cs hcs htk ⟨0, rfl, Nat.zero_le _, by rw [htl, hks, Nat.mul_mod_left]; simp⟩ hy
        have hcsl : cs.length = cnt * i.size := by rw [concL_len hcs, hcl]
        have hdl : ds.length = cnt * i.size := by rw [← hcsl, ← hds, List.length_map]
        have hadd : seG γ (.a2 (.bin .add) n (.int .i64 (.ofNat cnt))) = some (.val (.int .i64 (.ofNat (k + cnt)))) := by
          simp only [seG, hn0, Option.bind_some, e2, binV, isShift, if_true, intOp]
          have : IntKind.i64.wrap (Int.ofNat k + Int.ofNat cnt) = Int.ofNat (k + cnt) := by
            have := wrap_small (k + cnt) (by omega)
            rw [show Int.ofNat k + Int.ofNat cnt = ((k + cnt : Nat) : Int) by simp]
            exact this
          rw [this]
          rfl
        have hall : ∀ (j : Nat) d, (es.take (k * i.size) ++ ds)[j]? = some d → (j < k * i.size ∧ es[j]? = some d) ∨ (k * i.size ≤ j ∧ j < k * i.size + cs.length ∧ cs[j - k * i.size]? = some d.v) := by
          intro j d hj
          rw [List.getElem?_append] at hj
          split at hj
          · next h =>
            rw [htl] at h
            rw [List.getElem?_take, if_pos h] at hj
            exact .inl ⟨h, hj⟩
          · next h =>
            rw [htl] at h hj
            have hlt : j - k * i.size < ds.length := (List.getElem?_eq_some_iff.1 hj).1
            refine .inr ⟨by omega, by omega, ?_⟩
            rw [← hds, List.getElem?_map, hj]
            rfl
        have hlen : (es.take (k * i.size) ++ ds).length = (k + cnt) * i.size := by rw [List.length_append, htl, hdl, Nat.add_mul]
        have hlt0 : Int.ofNat k < Int.ofNat (k + cnt) := by
          have : cnt ≠ 0 := by intro h; rw [h] at e4; cases e4
          simp only [Int.ofNat_eq_natCast]
          omega
        rcases Nat.lt_or_ge q (k + cnt) with hcap | hcap
        ·
          have hcol : ((es.take (k * i.size)).map Dt.v).length = k * i.size := by rw [List.length_map, htl]
          have hco : ∀ d, (Builtin.firstCells i.size k (.slice (some ⟨lc.blk, lc.dl, none⟩) k q)).run C.P { w with drawn := d } = .ok ⟨(es.take (k * i.size)).map Dt.v⟩ { w with drawn := d } := by
            intro d
            simp only [Builtin.firstCells]
            refine run_loadCells' (fun j v hj => ?_) _ hcol
            rw [List.getElem?_map, List.getElem?_take] at hj
            split at hj
            · obtain ⟨dd, hdd, rfl⟩ := Option.map_eq_some_iff.1 hj
              have := g2 j dd hdd
              simp only [World.cell?, h2]
              exact this
            · cases hj
          obtain ⟨cap, rest', hc1, hc2, hrun⟩ := run_append_new (w := w) hC hst hxt hi hT (rest := rest) (rt := rt) (b := some ⟨lc.blk, lc.dl, none⟩) (sLen := k) (sCap := q) hz hzl hsrc hcap hbd.2.1 hbd.2.2 hco hcol hcsl
          have st0 := Step.del hR b
          have st1 := Step.alloc (base := base) st0.rel (.vec el y) (.cells (⟨(es.take (k * i.size)).map Dt.v⟩ ++ ⟨cs⟩ ++ rest') el (0, 0)) 0 cap
            (w' := { w with drawn := w.drawn + 1, heap := w.heap.push (.cells (⟨(es.take (k * i.size)).map Dt.v⟩ ++ ⟨cs⟩ ++ rest') el (0, 0)) }) rfl rfl rfl rfl
            (fun γ' hg => by
              refine ⟨_, 0, 0, es.take (k * i.size) ++ ds, rfl, seG_ext hg _ _ hys, fun j d hj => ?_, ⟨i, hi, g4, ?_, ?_, 0, by simp⟩, fun off _ h => absurd h (Nat.not_lt_zero _), Nat.le_refl _⟩
              · have hj2 : (((es.take (k * i.size)).map Dt.v) ++ cs)[j]? = some d.v := by
                  rw [← hds, ← List.map_append, List.getElem?_map, hj]; rfl
                have hlt : j < (((es.take (k * i.size)).map Dt.v) ++ cs).length := (List.getElem?_eq_some_iff.1 hj2).1
                rw [Nat.zero_add, Array.getElem?_append_left (by simpa using hlt)]
                simpa using hj2
              · rw [hlen]; exact Nat.mul_le_mul_right _ hc1
              · simp only [Array.size_append, List.size_toArray]
                rw [hcol, hcsl, hc2, ← Nat.add_mul, ← Nat.add_mul]
                rw [show k + cnt + (cap - (k + cnt)) = cap by omega]
                simp)
          have st2 := Step.ghost st1.rel (.val (.int .i64 (.ofNat cap))) (fun _ => rfl)
          have st3 := Step.add st2.rel (f := .inr n (.a2 (.bin .add) n (.int .i64 (.ofNat cnt)))) rfl ⟨_, _, _, seG_ext ((st0.trans st1).trans st2).grow _ _ hn0, seG_ext ((st0.trans st1).trans st2).grow _ _ hadd, Int.natCast_nonneg k, hlt0⟩
          have hst := ((st0.trans st1).trans st2).trans st3
          refine ⟨_, .slice (some ⟨w.heap.size, 0, none⟩) (k + cnt) cap, _, ?_, ?_, hst⟩
          · simp only [VS, Sem.run_bind, hrun, Result.andThen_ok]; rfl
          · have e0 : s.next ≠ s.next + 1 := by omega
            have a1 := seG_ext hst.grow _ _ hadd
            simp only [conc, Option.bind_eq_some_iff]
            refine ⟨⟨w.heap.size, 0, cap, none⟩, ?_, _, a1, .val (.int .i64 (.ofNat cap)), ?_, ?_⟩
            · exact (if_neg e0).trans (if_pos trivial)
            · show ((if s.next + 1 = s.next + 1 then _ else _ : Option Loc).bind fun l => l.v) = _
              rw [if_pos rfl]; rfl
            · exact vslV_of (l := ⟨w.heap.size, 0, cap, none⟩) hc1 (Nat.le_refl _)
        ·
          have hkk : (k + cnt) * i.size ≤ lc.cp * i.size := Nat.mul_le_mul_right _ (by omega)
          have hkm : (k + cnt) * i.size = k * i.size + cnt * i.size := Nat.add_mul _ _ _
          have hrun := run_storeCells (P := C.P) lc.blk el lo hi' cs (lc.dl + k * i.size) 0 vs w h2 (by omega) (allOne_conc e6 hcs) (by
            intro p hp1 hp2 hp
            rcases g8 p hp.1 hp.2 with h | h <;> omega)
          have hap := run_append_in (w := w) hst hxt hT (rest := rest) (rt := rt) (b := some ⟨lc.blk, lc.dl, none⟩) (sLen := k) (sCap := q) hsrc hcap
            (fun ad h => by obtain rfl := Option.some.inj h; rw [addr_add]; exact hrun) (fun h => by cases h)
          have st1 := Step.move hR hb hl (y := .vec el y) (o' := .cells (arrSet vs (lc.dl + k * i.size + 0) cs) el (lo, hi')) rfl (fun γ' hg => by
              refine ⟨_, lo, hi', es.take (k * i.size) ++ ds, rfl, seG_ext hg _ _ hys, fun j d hj => ?_, ⟨i, hi, g4, by rw [hlen]; exact hkk, by rw [arrSet_size]; exact g6, g7⟩, fun off a b => by rw [arrSet_size]; exact g8 off a b, g9⟩
              rw [arrSet_get _ _ _ _ (by omega)]
              rcases hall j d hj with ⟨h, hh⟩ | ⟨h, h', hh⟩
              · rw [if_neg (by omega)]; exact g2 j d hh
              · rw [if_pos (by omega), ← hh]; congr 1; omega)
          have st2 := Step.ghost st1.rel (.val (.int .i64 (.ofNat q))) (fun _ => rfl)
          have st3 := Step.add st2.rel (f := .inr n (.a2 (.bin .add) n (.int .i64 (.ofNat cnt)))) rfl ⟨_, _, _, seG_ext (st1.trans st2).grow _ _ hn0, seG_ext (st1.trans st2).grow _ _ hadd, Int.natCast_nonneg k, hlt0⟩
          have hst := (st1.trans st2).trans st3
          refine ⟨_, .slice (some ⟨lc.blk, lc.dl, none⟩) (k + cnt) q, _, ?_, ?_, hst⟩
          · simp only [VS, Sem.run_bind, hap, Result.andThen_ok]; rfl
          · have e0 : s.next ≠ s.next + 1 := by omega
            have a1 := seG_ext hst.grow _ _ hadd
            simp only [conc, Option.bind_eq_some_iff]
            refine ⟨lc, ?_, _, a1, .val (.int .i64 (.ofNat q)), ?_, ?_⟩
            · exact (if_neg e0).trans (if_pos trivial)
            · show ((if s.next + 1 = s.next + 1 then _ else _ : Option Loc).bind fun l => l.v) = _
              rw [if_pos rfl]; rfl
            · exact vslV_of hcap hq
    | _ => trivial
theorem path_appStr (hC : Good C) (hR : Rel C base γ s w) {st xt e : TypeId} {i : TI} {xd : TypeDesc} (hst : C.P.underlying st = some (.slice e)) (hxt : C.P.underlying xt = some xd) (hi : C.T.get e = some i) (hT : TIRel C.P e i)
    {rest : List TypeId} {rt : TypeId} {z : List AV} (hz : i.zero = some z) (hzl : z.length = i.size) {b : Nat} {n c : SE} {cb cx : Value} (hcb : conc γ (.vsl b n c) = some cb) {X : SE} {tx : ByteArray} (hX : seG γ X = some (.val (.string tx)))
    (hsrc : i.size = 1 → ASrc C.P w xd i e cx tx.size (tx.data.toList.map fun b => Value.int .u8 b.toNat)) :
    (appStr C s e i.size i.bytes b n X).path (NxOk C base γ s w ((VS (Builtin.append_ ⟨st :: xt :: rest⟩ rt ⟨[cb, cx]⟩)).run C.P w)) := by
  obtain ⟨lc, k, q, hl, hn0, hc0, hk, hq, rfl⟩ := conc_vsl hcb
  unfold appStr
  cases hb : s.h.get b with
  | none => trivial
  | some x0 =>
    cases x0 with
    | vec el x =>
      obtain ⟨l', o, h1, h2, vs, lo, hi', es, rfl, g1, g2, ⟨i', g3, g4, g5, g6, g7⟩, g8, g9⟩ := hR.blk b _ hb
      rw [hl] at h1; obtain rfl := Option.some.inj h1
      refine R.pbd _ (R.path_guard _ _) fun _ hg => ?_
      simp only [Bool.and_eq_true] at hg
      obtain ⟨e1', e2', e3'⟩ := hg
      obtain rfl := Nat.eq_of_beq_eq_true e1'
      rw [hi] at g3; obtain rfl := Option.some.inj g3
      have hsz1 : i.size = 1 := Nat.eq_of_beq_eq_true e2'
      have hks := kdsEq_spec e3'
      have hsrc := hsrc hsz1
      revert hsrc
      generalize hcnt : tx.size = cnt
      generalize hcse : (tx.data.toList.map fun b => Value.int .u8 b.toNat) = cs
      intro hsrc
      refine R.path_must hR fun hn => ?_
      have hbd : k * i.size ≤ es.length ∧ (k + cnt) * i.bytes ≤ 68719476736 ∧ k + cnt ≤ 68719476736 := by
          rcases Classical.em (k ≤ es.length ∧ (k + cnt) * i.bytes ≤ 68719476736 ∧ k + cnt ≤ 68719476736) with h | h
          · rw [hsz1, Nat.mul_one]; exact h
          · exact absurd ⟨_, _, _, _, rfl, fun hh => h (by rw [← hcnt]; exact hh.2)⟩ (rel_not hn (seL3 g1 hn0 hX))
      have htk : seG γ (.a2 (.tk 1) x n) = some (.ls (cellKds C el) (es.take (k * i.size))) := by
          simp only [seG, g1, hn0, Option.bind_some, e2, hsz1]
          rw [if_pos (by have := hbd.1; rw [hsz1] at this; exact this)]
      have htl : (es.take (k * i.size)).length = k * i.size := by rw [List.length_take]; omega
      obtain ⟨ds, hds0⟩ : ∃ ds, ds = bytesD tx.data.toList := ⟨_, rfl⟩
      have hds : ds.map Dt.v = cs := by rw [hds0, ← hcse]; simp [bytesD, Dt.v]
      obtain ⟨y, hy⟩ : ∃ y, y = SE.a2 .cat (.a2 (.tk 1) x n) (.a1 .sb X) := ⟨_, rfl⟩
      have hys : seG γ y = some (.ls (cellKds C el) (es.take (k * i.size) ++ ds)) := by
          rw [hy]
          show ((seG γ (.a2 (.tk 1) x n)).bind fun u => (seG γ (.a1 .sb X)).bind (e2 .cat u)) = _
          rw [htk]
          simp [seG, hX, e1, e2, hks, hds0]
      rw [← hy]
      have hcsl : cs.length = cnt * i.size := by rw [← hcse, List.length_map, hsz1, Nat.mul_one, ← hcnt]; rfl
      have hdl : ds.length = cnt * i.size := by rw [← hcsl, ← hds, List.length_map]
      have hlX : seG γ (.a1 .len X) = some (.val (.int .i64 (.ofNat cnt))) := by
          simp only [seG, hX, Option.bind_some, e1, ← hcnt]; rfl
      have hadd : seG γ (.a2 (.bin .add) n (.a1 .len X)) = some (.val (.int .i64 (.ofNat (k + cnt)))) := by
          show ((seG γ n).bind fun u => (seG γ (.a1 .len X)).bind (e2 (.bin .add) u)) = _
          rw [hn0, hlX]
          simp only [Option.bind_some, e2, binV, isShift, if_true, intOp]
          have : IntKind.i64.wrap (Int.ofNat k + Int.ofNat cnt) = Int.ofNat (k + cnt) := by
            have := wrap_small (k + cnt) (by omega)
            rw [show Int.ofNat k + Int.ofNat cnt = ((k + cnt : Nat) : Int) by simp]
            exact this
          rw [this]
          rfl
      have hone : ∀ v ∈ cs, v.oneCell' = true := by
          intro v hv
          rw [← hcse] at hv
          obtain ⟨b, -, rfl⟩ := List.mem_map.1 hv
          rfl
      have hall : ∀ (j : Nat) d, (es.take (k * i.size) ++ ds)[j]? = some d → (j < k * i.size ∧ es[j]? = some d) ∨ (k * i.size ≤ j ∧ j < k * i.size + cs.length ∧ cs[j - k * i.size]? = some d.v) := by
        intro j d hj
        rw [List.getElem?_append] at hj
        split at hj
        · next h =>
          rw [htl] at h
          rw [List.getElem?_take, if_pos h] at hj
          exact .inl ⟨h, hj⟩
        · next h =>
          rw [htl] at h hj
          have hlt : j - k * i.size < ds.length := (List.getElem?_eq_some_iff.1 hj).1
          refine .inr ⟨by omega, by omega, ?_⟩
          rw [← hds, List.getElem?_map, hj]
          rfl
      have hlen : (es.take (k * i.size) ++ ds).length = (k + cnt) * i.size := by rw [List.length_append, htl, hdl, Nat.add_mul]
      rcases Nat.lt_or_ge q (k + cnt) with hcap | hcap
      ·
        have hcol : ((es.take (k * i.size)).map Dt.v).length = k * i.size := by rw [List.length_map, htl]
        have hco : ∀ d, (Builtin.firstCells i.size k (.slice (some ⟨lc.blk, lc.dl, none⟩) k q)).run C.P { w with drawn := d } = .ok ⟨(es.take (k * i.size)).map Dt.v⟩ { w with drawn := d } := by
          intro d
          simp only [Builtin.firstCells]
          refine run_loadCells' (fun j v hj => ?_) _ hcol
          rw [List.getElem?_map, List.getElem?_take] at hj
          split at hj
          · obtain ⟨dd, hdd, rfl⟩ := Option.map_eq_some_iff.1 hj
            have := g2 j dd hdd
            simp only [World.cell?, h2]
            exact this
          · cases hj
        obtain ⟨cap, rest', hc1, hc2, hrun⟩ := run_append_new (w := w) hC hst hxt hi hT (rest := rest) (rt := rt) (b := some ⟨lc.blk, lc.dl, none⟩) (sLen := k) (sCap := q) hz hzl hsrc hcap hbd.2.1 hbd.2.2 hco hcol hcsl
        have st0 := Step.del hR b
        have st1 := Step.alloc (base := base) st0.rel (.vec el y) (.cells (⟨(es.take (k * i.size)).map Dt.v⟩ ++ ⟨cs⟩ ++ rest') el (0, 0)) 0 cap
          (w' := { w with drawn := w.drawn + 1, heap := w.heap.push (.cells (⟨(es.take (k * i.size)).map Dt.v⟩ ++ ⟨cs⟩ ++ rest') el (0, 0)) }) rfl rfl rfl rfl
          (fun γ' hg => by
            refine ⟨_, 0, 0, es.take (k * i.size) ++ ds, rfl, seG_ext hg _ _ hys, fun j d hj => ?_, ⟨i, hi, g4, ?_, ?_, 0, by simp⟩, fun off _ h => absurd h (Nat.not_lt_zero _), Nat.le_refl _⟩
            · have hj2 : (((es.take (k * i.size)).map Dt.v) ++ cs)[j]? = some d.v := by
                rw [← hds, ← List.map_append, List.getElem?_map, hj]; rfl
              have hlt : j < (((es.take (k * i.size)).map Dt.v) ++ cs).length := (List.getElem?_eq_some_iff.1 hj2).1
              rw [Nat.zero_add, Array.getElem?_append_left (by simpa using hlt)]
              simpa using hj2
            · rw [hlen]; exact Nat.mul_le_mul_right _ hc1
            · simp only [Array.size_append, List.size_toArray]
              rw [hcol, hcsl, hc2, ← Nat.add_mul, ← Nat.add_mul]
              rw [show k + cnt + (cap - (k + cnt)) = cap by omega]
              simp)
        have st2 := Step.ghost st1.rel (.val (.int .i64 (.ofNat cap))) (fun _ => rfl)
        have hst := (st0.trans st1).trans st2
        refine ⟨_, .slice (some ⟨w.heap.size, 0, none⟩) (k + cnt) cap, _, ?_, ?_, hst⟩
        · simp only [VS, Sem.run_bind, hrun, Result.andThen_ok]; rfl
        · have e0 : s.next ≠ s.next + 1 := by omega
          have a1 := seG_ext hst.grow _ _ hadd
          simp only [conc, Option.bind_eq_some_iff]
          refine ⟨⟨w.heap.size, 0, cap, none⟩, ?_, _, a1, .val (.int .i64 (.ofNat cap)), ?_, ?_⟩
          · exact (if_neg e0).trans (if_pos trivial)
          · show ((if s.next + 1 = s.next + 1 then _ else _ : Option Loc).bind fun l => l.v) = _
            rw [if_pos rfl]; rfl
          · exact vslV_of (l := ⟨w.heap.size, 0, cap, none⟩) hc1 (Nat.le_refl _)
      ·
        have hkk : (k + cnt) * i.size ≤ lc.cp * i.size := Nat.mul_le_mul_right _ (by omega)
        have hkm : (k + cnt) * i.size = k * i.size + cnt * i.size := Nat.add_mul _ _ _
        have hrun := run_storeCells (P := C.P) lc.blk el lo hi' cs (lc.dl + k * i.size) 0 vs w h2 (by omega) hone (by
          intro p hp1 hp2 hp
          rcases g8 p hp.1 hp.2 with h | h <;> omega)
        have hap := run_append_in (w := w) hst hxt hT (rest := rest) (rt := rt) (b := some ⟨lc.blk, lc.dl, none⟩) (sLen := k) (sCap := q) hsrc hcap
          (fun ad h => by obtain rfl := Option.some.inj h; rw [addr_add]; exact hrun) (fun h => by cases h)
        have st1 := Step.move hR hb hl (y := .vec el y) (o' := .cells (arrSet vs (lc.dl + k * i.size + 0) cs) el (lo, hi')) rfl (fun γ' hg => by
            refine ⟨_, lo, hi', es.take (k * i.size) ++ ds, rfl, seG_ext hg _ _ hys, fun j d hj => ?_, ⟨i, hi, g4, by rw [hlen]; exact hkk, by rw [arrSet_size]; exact g6, g7⟩, fun off a b => by rw [arrSet_size]; exact g8 off a b, g9⟩
            rw [arrSet_get _ _ _ _ (by omega)]
            rcases hall j d hj with ⟨h, hh⟩ | ⟨h, h', hh⟩
            · rw [if_neg (by omega)]; exact g2 j d hh
            · rw [if_pos (by omega), ← hh]; congr 1; omega)
        have st2 := Step.ghost st1.rel (.val (.int .i64 (.ofNat q))) (fun _ => rfl)
        have hst := st1.trans st2
        refine ⟨_, .slice (some ⟨lc.blk, lc.dl, none⟩) (k + cnt) q, _, ?_, ?_, hst⟩
        · simp only [VS, Sem.run_bind, hap, Result.andThen_ok]; rfl
        · have e0 : s.next ≠ s.next + 1 := by omega
          have a1 := seG_ext hst.grow _ _ hadd
          simp only [conc, Option.bind_eq_some_iff]
          refine ⟨lc, ?_, _, a1, .val (.int .i64 (.ofNat q)), ?_, ?_⟩
          · exact (if_neg e0).trans (if_pos trivial)
          · show ((if s.next + 1 = s.next + 1 then _ else _ : Option Loc).bind fun l => l.v) = _
            rw [if_pos rfl]; rfl
          · exact vslV_of hcap hq
    | _ => trivial
end
end Go.Proofs.YteibjeicgeophaaGreatDoor.Abs

namespace Go.Proofs.YteibjeicgeophaaGreatDoor.Abs
open Go
section
variable {C : Ctx} {base : Nat} {γ : G} {s : S} {w : World} {nt : Nat} {t : Tr AV} {a : Act}
theorem firstCells_drawn {P : Program} {n m : Nat} {x : AV} {cx : Value} (hx : conc γ x = some cx) {r : Array Value} (w : World) (d : Nat) (h : (Builtin.firstCells n m cx).run P w = .ok r w)
    (hc : ∀ blk off j v, cx = .slice (some ⟨blk, off, none⟩) j v → True) : (Builtin.firstCells n m cx).run P { w with drawn := d } = .ok r { w with drawn := d } := by
  cases cx with
  | slice b l c =>
    cases b with
    | none => simp only [Builtin.firstCells, Sem.run_pure, Result.ok.injEq] at h ⊢; exact ⟨h.1, trivial⟩
    | some ad =>
      simp only [Builtin.firstCells] at h ⊢
      have key : ∀ (k i : Nat) (acc : Array Value) (r : Array Value), (loadCellsFrom ad i k acc).run P w = .ok r w → (loadCellsFrom ad i k acc).run P { w with drawn := d } = .ok r { w with drawn := d } := by
        intro k
        induction k with
        | zero => intro i acc r h; simp only [loadCellsFrom, Sem.run_pure, Result.ok.injEq] at h ⊢; exact ⟨h.1, trivial⟩
        | succ k ih =>
          intro i acc r h
          simp only [loadCellsFrom, Sem.run_bind, run_load] at h ⊢
          have hcell : World.cell? { w with drawn := d } (ad.add i) = w.cell? (ad.add i) := rfl
          have hfar : World.farLoad P { w with drawn := d } (ad.add i) (Mode.plain == Mode.atomic) = w.farLoad P (ad.add i) (Mode.plain == Mode.atomic) := rfl
          rw [hcell, hfar]
          cases hq : w.cell? (ad.add i) with
          | some v => rw [hq] at h; simp only [Result.andThen_ok] at h ⊢; exact ih _ _ _ h
          | none =>
            rw [hq] at h
            cases hf : w.farLoad P (ad.add i) (Mode.plain == Mode.atomic) with
            | ok x => rw [hf] at h; simp only [Result.andThen_ok] at h ⊢; exact ih _ _ _ h
            | error e => rw [hf] at h; simp only [Result.andThen_halt] at h; cases h
      exact key _ _ _ _ h
  | string s' => simp only [Builtin.firstCells, Sem.run_pure, Result.ok.injEq] at h ⊢; exact ⟨h.1, trivial⟩
  | _ => simp [Builtin.firstCells] at h
theorem path_appSrc (hC : Good C) (hR : Rel C base γ s w) {e : TypeId} {i : TI} (hi : C.T.get e = some i) (hT : TIRel C.P e i) (xd : TypeDesc) {z : List AV} (hz : i.zero = some z) (hzl : z.length = i.size) (x : AV) (cx : Value) (hx : conc γ x = some cx) :
    (appSrc s e i.size i.bytes z x (isIntD xd)).path (fun r => ∃ cs, concL γ r.2 = some cs ∧ r.2.length = r.1 * i.size ∧ ASrc C.P w xd i e cx r.1 cs) := by
  cases hxi : isIntD xd with
  | false =>
    refine R.path_mono ?_ (path_srcCells hC hR e hi x cx hx)
    rintro r ⟨cs, hcs, hcl, hlen, hfc⟩
    have hfull : (Builtin.firstCells i.size r.1 cx).run C.P w = .ok ⟨cs⟩ w := by
      have := hfc r.1 (Nat.le_refl _)
      rw [this]
      congr 2
      rw [List.take_of_length_le (by rw [concL_len hcs, hcl]; exact Nat.le_refl _)]
    exact ⟨cs, hcs, hcl, .inl ⟨hxi, hlen, fun d => firstCells_drawn (γ := γ) hx w d hfull (fun _ _ _ _ _ => trivial)⟩⟩
  | true =>
    show (do let n ← asIdx x; guardB (Nat.ble (Nat.mul n i.bytes) 68719476736 && Nat.ble n 68719476736) _; R.ok (n, repl z n) : R (Nat × List AV)).path _
    refine R.pbd _ (path_asIdx x) fun n hn => ?_
    obtain ⟨k, rfl⟩ := hn
    refine R.pbd _ (R.path_guard _ _) fun _ hg => ?_
    simp only [Bool.and_eq_true] at hg
    have h1 : n * i.bytes ≤ 68719476736 := Nat.le_of_ble_eq_true hg.1
    have h2 : n ≤ 68719476736 := Nat.le_of_ble_eq_true hg.2
    simp only [conc, Option.some.injEq] at hx
    subst hx
    obtain ⟨zv, hzv, hzc⟩ := hT.zero z hz
    have hr := hzc γ
    have hrl : zv.cells.toList.length = i.size := by rw [concL_len hr, hzl]
    obtain ⟨q, hq1, hq2, hq3⟩ := concL_repl hr n
    refine ⟨q, hq1, ?_, .inr ⟨hxi, ⟨k, rfl⟩, h1, h2, zv, hzv, ?_⟩⟩
    · have := concL_len hq1
      show (repl z n).length = n * i.size
      rw [← this, hq2, hrl]
    · have hn : n * i.size = n * zv.cells.toList.length := by rw [hrl]
      by_cases h0 : n * i.size = 0
      · rw [if_pos h0]
        have : q = [] := List.eq_nil_of_length_eq_zero (by rw [hq2, ← hn]; exact h0)
        rw [this]
      · rw [if_neg h0]
        unfold Builtin.zeroCells
        have hsz : zv.cells.size = i.size := by simpa using hrl
        rw [hsz]
        have := zeros_eq (n := n * i.size) (m := n) hn zv.cells (fun _ => rfl) (q := q) (by rw [hq2, ← hn]) (fun j hj => hq3 j (by rw [← hn]; exact hj))
        rw [hsz] at this
        exact this
theorem strSym_spec {int : Bool} {x base : AV} {b : Nat} {n e : SE} (h : strSym int x base = some (b, n, e)) : int = false ∧ ∃ c, x = .opq .str e ∧ base = .vsl b n c := by
  unfold strSym at h
  cases int with
  | true => cases h
  | false =>
    simp only at h
    split at h
    · rename_i k e'
      cases hk : kdEq k .str with
      | false => rw [hk] at h; cases h
      | true =>
        rw [hk] at h
        simp only at h
        split at h
        · simp only [Option.some.injEq, Prod.mk.injEq] at h
          obtain ⟨rfl, rfl, rfl⟩ := h
          exact ⟨rfl, _, by rw [kdEq_spec hk], rfl⟩
        · cases h
    · cases h
theorem ok_append (hC : Good C) (hR : Rel C base γ s w) (argTypes : List TypeId) (args : List AV) (cargs : List Value) (hargs : concL γ args = some cargs) (rt : TypeId) :
    (biAppend C s argTypes args).path (NxOk C base γ s w ((VS (Builtin.append_ ⟨argTypes⟩ rt ⟨cargs⟩)).run C.P w)) := by
  unfold biAppend
  split
  case h_2 => trivial
  rename_i bv x st xt rest
  obtain ⟨cb, cl1, hcb, h1, rfl⟩ := concL_cons.1 hargs
  obtain ⟨cx, cl2, hcx, h2, rfl⟩ := concL_cons.1 h1
  simp only [concL, Option.some.injEq] at h2; subst h2
  refine R.pbd _ (path_under hC st) fun d hd => ?_
  cases d with
  | slice e =>
    refine R.pbd _ (path_ti hC e) fun i hi => ?_
    refine R.pbd _ (path_under hC xt) fun xd hxd => ?_
    refine R.pbd _ (R.path_guard _ _) fun _ hg => ?_
    have hsz0 : Nat.beq i.size 0 = false := by simpa using hg
    have hsz : i.size ≠ 0 := by intro h; rw [h] at hsz0; cases hsz0
    refine R.pbd (fun z => i.zero = some z) ?_ fun z hz => ?_
    · refine R.path_mono ?_ (path_zero hC e)
      rintro z ⟨i', _, q1, q2, _⟩
      rw [hi.1] at q1; obtain rfl := Option.some.inj q1; exact q2
    refine R.pbd _ (R.path_guard _ _) fun _ hg2 => ?_
    have hzl : z.length = i.size := Nat.eq_of_beq_eq_true hg2
    cases hss : strSym (isIntD xd) x bv with
    | some p =>
      obtain ⟨b, n, ex⟩ := p
      obtain ⟨hxi, c, rfl, rfl⟩ := strSym_spec hss
      obtain ⟨dd, hX, ⟨tx, rfl⟩, rfl⟩ := conc_see hcx
      exact path_appStr hC hR hd hxd hi.1 hi.2 hz hzl hcb hX (fun h1 => .inl ⟨hxi, fun _ => rfl, fun d => by
        obtain ⟨⟨l⟩⟩ := tx
        have hl : (ByteArray.mk ⟨l⟩).size = l.length := rfl
        simp only [Builtin.firstCells, Dt.v, hl, ba_extract]
        rw [Sem.run_pure]
        congr 1
        apply Array.ext'
        simp⟩)
    | none =>
    simp only
    refine R.pbd _ (path_appSrc hC hR hi.1 hi.2 xd hz hzl x cx hcx) fun r hr => ?_
    obtain ⟨cs, hcs, hcl, hsrc⟩ := hr
    have hcsl : cs.length = r.1 * i.size := by rw [concL_len hcs, hcl]
    have newRowCase : ∀ (b : Option Addr) (sLen sCap : Nat) (co : List Value) (old : List AV), cb = .slice b sLen sCap → concL γ old = some co → old.length = sLen * i.size → sCap < sLen + r.1 →
        (Builtin.firstCells i.size sLen (.slice b sLen sCap)).run C.P w = .ok ⟨co⟩ w →
        (appNew s e i.size i.bytes (sLen + r.1) (old ++ r.2)).path (NxOk C base γ s w ((VS (Builtin.append_ ⟨st :: xt :: rest⟩ rt ⟨[cb, cx]⟩)).run C.P w)) := by
      intro b sLen sCap co old hcb' hold holdl hcap hco
      refine R.pbd _ (R.path_guard _ _) fun _ hg => ?_
      simp only [Bool.and_eq_true] at hg
      have hby : (sLen + r.1) * i.bytes ≤ 68719476736 := Nat.le_of_ble_eq_true hg.1.1
      have hne : sLen + r.1 ≤ 68719476736 := Nat.le_of_ble_eq_true hg.1.2
      obtain ⟨cap, rest', hc1, hc2, hrun⟩ := run_append_new (w := w) hC hd hxd hi.1 hi.2 (rest := rest) (rt := rt) hz hzl hsrc hcap hby hne
        (fun d => firstCells_drawn (γ := γ) (x := bv) (by rw [hcb, hcb']) w d hco (fun _ _ _ _ _ => trivial))
        (by rw [concL_len hold, holdl]) hcsl
      have hall := concL_append hold hcs
      have hstep := Step.alloc (base := base) hR (cellsBlk e (old ++ r.2)) (.cells (⟨co⟩ ++ ⟨cs⟩ ++ rest') e (0, 0)) 0 cap
        (w' := { w with drawn := w.drawn + 1, heap := w.heap.push (.cells (⟨co⟩ ++ ⟨cs⟩ ++ rest') e (0, 0)) }) rfl rfl rfl rfl
        (newCells_rel hi.1 hall (by rw [List.length_append, holdl, hcl, ← Nat.add_mul]; exact Nat.mul_le_mul_right _ hc1)
          (by
            simp only [Array.size_append, List.size_toArray]
            rw [hc2, concL_len hold, holdl, hcsl, ← Nat.add_mul, ← Nat.add_mul]
            rw [show sLen + r.1 + (cap - (sLen + r.1)) = cap by omega]; exact Nat.le_refl _)
          (fun j c hj => by
            rw [Array.getElem?_append_left (by
              simp only [Array.size_append, List.size_toArray]
              rcases Nat.lt_or_ge j (co ++ cs).length with h | h
              · simpa using h
              · rw [List.getElem?_eq_none h] at hj; cases hj)]
            simpa using hj) _ 0 false 0 0 (by omega))
      refine ⟨_, .slice (some ⟨w.heap.size, 0, none⟩) (sLen + r.1) cap, _, ?_, ?_, hstep⟩
      · rw [hcb']
        simp only [VS, Sem.run_bind, hrun, Result.andThen_ok]
        rfl
      · simp only [conc, if_true, Option.map_some, Option.some.injEq]
        simp only [Nat.zero_add, Nat.sub_zero]
        congr 2
        split <;> simp
    cases bv with
    | nilsl =>
      simp only [conc, Option.some.injEq] at hcb
      show (match r.1 with | 0 => R.ok (Nx.val .nilsl s) | m + 1 => appNew s e i.size i.bytes (m + 1) r.2).path _
      cases hn : r.1 with
      | zero =>
        show (R.ok (Nx.val .nilsl s)).path _
        rw [hn] at hsrc
        have := run_append_in (w := w) (w' := w) hd hxd hi.2 (rest := rest) (rt := rt) (b := none) (sLen := 0) (sCap := 0) hsrc (by omega) (fun _ h => by cases h) (fun _ => rfl)
        rw [← hcb]
        exact okVal hR this rfl
      | succ m =>
        show (appNew s e i.size i.bytes (m + 1) r.2).path _
        have := newRowCase none 0 0 [] [] hcb.symm rfl (by simp) (by omega) (by simp [Builtin.firstCells])
        rw [hn] at this
        simpa using this
    | sl b off len cap =>
      simp only [conc, Option.map_eq_some_iff] at hcb
      obtain ⟨lc, hl, hcb⟩ := hcb
      show (appSl s e i.size i.bytes b off len cap r.1 r.2).path _
      unfold appSl
      cases hle : Nat.ble (Nat.add len r.1) cap with
      | true =>
        have hle' : len + r.1 ≤ cap := Nat.le_of_ble_eq_true hle
        show (wrCells s b (Nat.add off (Nat.mul len i.size)) r.2 >>= fun s' => R.ok (Nx.val (.sl b off (Nat.add len r.1) cap) s')).path _
        refine R.pbd _ (path_wrCells hR b _ r.2 cs hcs lc hl) fun s' hs' => ?_
        obtain ⟨w', hw1, hw2⟩ := hs'
        have := run_append_in (w := w) (w' := w') hd hxd hi.2 (rest := rest) (rt := rt) (b := some ⟨lc.blk, lc.dl + off, none⟩) (sLen := len) (sCap := cap) hsrc hle'
          (fun ad h => by obtain rfl := Option.some.inj h; rw [addr_add, Nat.add_assoc]; exact hw1) (fun h => by cases h)
        rw [← hcb]
        refine ⟨γ, .slice (some ⟨lc.blk, lc.dl + off, none⟩) (len + r.1) cap, w', ?_, ?_, hw2⟩
        · simp only [VS, Sem.run_bind, this, Result.andThen_ok]; rfl
        · simp only [conc, hl]; rfl
      | false =>
        have hgt : cap < len + r.1 := by
          rcases Nat.lt_or_ge cap (len + r.1) with h | h
          · exact h
          · have := Nat.ble_eq_true_of_le h; rw [show len.add r.1 = len + r.1 from rfl, this] at hle; cases hle
        show (rdCells s b off (Nat.mul len i.size) >>= fun old => appNew s e i.size i.bytes (Nat.add len r.1) (old ++ r.2)).path _
        refine R.pbd _ (path_rdCells hR b off _) fun old hold => ?_
        obtain ⟨lc', co, q1, q2, q3, q4⟩ := hold
        rw [hl] at q1; obtain rfl := Option.some.inj q1
        exact newRowCase (some ⟨lc.blk, lc.dl + off, none⟩) len cap co old hcb.symm q2 q3 hgt (by
          simp only [Builtin.firstCells]
          exact run_loadCells' q4 _ (by rw [concL_len q2]; exact q3))
    | osl b pre e0 len sz' =>
      have hcb0 := hcb
      simp only [conc, Option.map_eq_some_iff] at hcb
      obtain ⟨lc, hl, hcb⟩ := hcb
      show (match r.1 with | 0 => (guardB (oOk s b e (Nat.add e0 len) i.size sz') "append: nothing" >>= fun _ => R.ok (Nx.val (.osl b pre e0 len sz') s)) | m + 1 => (match Nat.beq i.size sz' with | true => appOsl s e i.size i.bytes b pre e0 len (m + 1) r.2 | false => R.bad _)).path _
      cases hn : r.1 with
      | zero =>
        show (guardB (oOk s b e (Nat.add e0 len) i.size sz') _ >>= fun _ => R.ok (Nx.val (.osl b pre e0 len sz') s)).path _
        refine R.pbd _ (R.path_guard _ _) fun _ hg3 => ?_
        obtain ⟨_, _, hcp⟩ := oOk_spec hR hi.1 hl hg3
        have hcp' : e0 + len ≤ lc.cp := hcp
        rw [hn] at hsrc
        have hcs0 : cs = [] := by
          have : cs.length = 0 := by rw [hcsl, hn]; simp
          exact List.eq_nil_of_length_eq_zero this
        subst hcs0
        have := run_append_in (w := w) (w' := w) hd hxd hi.2 (rest := rest) (rt := rt) (b := some ⟨lc.blk, lc.dl + (if e0 < lc.cp then e0 else pre) * sz', none⟩) (sLen := len) (sCap := lc.cp - e0) hsrc (by omega) (fun _ _ => rfl) (fun h => by cases h)
        rw [← hcb]
        exact okVal hR this (by simp [conc, hl])
      | succ m =>
        show (match Nat.beq i.size sz' with | true => appOsl s e i.size i.bytes b pre e0 len (m + 1) r.2 | false => R.bad _).path _
        cases hbs : Nat.beq i.size sz' with
        | false => trivial
        | true =>
          have hsz' : i.size = sz' := Nat.eq_of_beq_eq_true hbs
          subst hsz'
          show (appOsl s e i.size i.bytes b pre e0 len (m + 1) r.2).path _
          rw [hn] at hsrc hcsl hcl
          unfold appOsl
          cases hb : s.h.get b with
          | none => trivial
          | some q =>
            cases q with
            | cells el cells k fz anc st' sg =>
              cases st' with
              | true => trivial
              | false =>
                simp only
                refine R.pbd _ (R.path_guard _ _) fun _ hg3 => ?_
                have hel : el = e := Nat.eq_of_beq_eq_true hg3
                subst hel
                obtain ⟨l', o, q1, q2, vs, lo, hi'', hoo, g1, g2, ⟨ii, g3, g4, g5, _, _⟩, g6, _⟩ := hR.blk b _ hb
                rw [hl] at q1; obtain rfl := Option.some.inj q1
                subst hoo
                rw [hi.1] at g3; obtain rfl := Option.some.inj g3
                cases hin : Nat.ble (Nat.mul (Nat.add (Nat.add e0 len) (m + 1)) i.size) k with
                | true =>
                  have hin' : (e0 + len + (m + 1)) * i.size ≤ k := Nat.le_of_ble_eq_true hin
                  have hroom : e0 + len + (m + 1) ≤ lc.cp := Nat.le_of_mul_le_mul_right (Nat.le_trans hin' g4) (Nat.pos_of_ne_zero hsz)
                  show (wrCells s b (Nat.mul (Nat.add e0 len) i.size) r.2 >>= fun s' => R.ok (Nx.val (.osl b pre e0 (Nat.add len (m + 1)) i.size) s')).path _
                  refine R.pbd _ (path_wrCells hR b _ r.2 cs hcs lc hl) fun s' hs' => ?_
                  obtain ⟨w', hw1, hw2⟩ := hs'
                  have hlt : e0 < lc.cp := by omega
                  have := run_append_in (w := w) (w' := w') hd hxd hi.2 (rest := rest) (rt := rt) (b := some ⟨lc.blk, lc.dl + (if e0 < lc.cp then e0 else pre) * i.size, none⟩) (sLen := len) (sCap := lc.cp - e0) hsrc (by omega)
                    (fun ad h => by
                      obtain rfl := Option.some.inj h
                      rw [if_pos hlt, addr_add]
                      rw [show lc.dl + e0 * i.size + len * i.size = lc.dl + (e0 + len) * i.size by rw [Nat.add_mul]; omega]; exact hw1) (fun h => by cases h)
                  rw [← hcb]
                  refine ⟨γ, .slice (some ⟨lc.blk, lc.dl + (if e0 < lc.cp then e0 else pre) * i.size, none⟩) (len + (m + 1)) (lc.cp - e0), w', ?_, ?_, hw2⟩
                  · simp only [VS, Sem.run_bind, this, Result.andThen_ok]; rfl
                  · simp only [conc, hl]; rfl
                | false =>
                  show (appOut s el i.size i.bytes b e0 len (m + 1) cells k fz anc sg r.2).path _
                  unfold appOut
                  refine R.pbd _ (R.path_guard _ _) fun _ hg4 => ?_
                  simp only [Bool.and_eq_true] at hg4
                  obtain ⟨⟨⟨⟨⟨p1, p2⟩, p3⟩, p4⟩, p5⟩, p6⟩ := hg4
                  have hk : (e0 + len) * i.size = k := Nat.eq_of_beq_eq_true p1
                  have hfz : fz ≤ k := Nat.le_of_ble_eq_true p5
                  have hle0 : e0 + len ≤ lc.cp := Nat.le_of_mul_le_mul_right (by rw [hk]; exact g4) (Nat.pos_of_ne_zero hsz)
                  refine R.pbd _ (path_getCells g2 (Nat.mul len i.size) (Nat.mul e0 i.size) (by show e0 * i.size + len * i.size ≤ k; rw [← Nat.add_mul, hk]; exact Nat.le_refl _)) fun old hold => ?_
                  obtain ⟨co, o1, o2, o3⟩ := hold
                  have o2' : old.length = len * i.size := o2
                  have hblt : b < s.next := hR.lt hl
                  by_cases hroom : e0 + len + (m + 1) ≤ lc.cp
                  ·
                    have hlt : e0 < lc.cp := by omega
                    have hmul : (e0 + len + (m + 1)) * i.size ≤ lc.cp * i.size := Nat.mul_le_mul_right _ hroom
                    have hexp : (e0 + len + (m + 1)) * i.size = k + (m + 1) * i.size := by rw [Nat.add_mul, hk]
                    have hst := run_storeCells (P := C.P) lc.blk el lo hi'' cs (lc.dl + k) 0 vs w q2 (by rw [hcsl]; omega) (allOne_conc p6 hcs) (by
                      intro q hq1 hq2 hq
                      rcases g6 rfl q hq.1 hq.2 with h | ⟨_, h⟩
                      · omega
                      · rw [hcsl] at hq2; omega)
                    have hrun := run_append_in (w := w) (w' := { w with heap := w.heap.setIfInBounds lc.blk (.cells (arrSet vs (lc.dl + k + 0) cs) el (lo, hi'')) }) hd hxd hi.2 (rest := rest) (rt := rt)
                      (b := some ⟨lc.blk, lc.dl + (if e0 < lc.cp then e0 else pre) * i.size, none⟩) (sLen := len) (sCap := lc.cp - e0) hsrc (by omega)
                      (fun ad h => by
                        obtain rfl := Option.some.inj h
                        rw [if_pos hlt, addr_add]
                        rw [show lc.dl + e0 * i.size + len * i.size = lc.dl + k by rw [← hk, Nat.add_mul]; omega]; exact hst) (fun h => by cases h)
                    have hal := hR.alias hb hl q2 hi.1 hk hroom o1 hcs o2' hcl (fun j v hj => o3 j v hj) hfz
                      { w with heap := w.heap.setIfInBounds lc.blk (.cells (arrSet vs (lc.dl + k + 0) cs) el (lo, hi'')) } rfl
                    rw [← hcb]
                    refine ⟨fun id => if id = s.next then some ⟨lc.blk, lc.dl + e0 * i.size, lc.cp - e0, none⟩ else γ id, .slice (some ⟨lc.blk, lc.dl + (if e0 < lc.cp then e0 else pre) * i.size, none⟩) (len + (m + 1)) (lc.cp - e0), _, (by simp only [VS, Sem.run_bind, hrun, Result.andThen_ok]; rfl), ?_, ?_⟩
                    · have : ¬ (lc.cp - e0 = 0) := by omega
                      simp only [conc, if_true, Option.map_some, Option.some.injEq]
                      rw [if_pos hlt, if_pos (by omega)]
                      simp
                    · refine Step.of' ⟨?_, hal, ⟨by simp, rfl, rfl, rfl, ?_⟩, ?_, Nat.le_succ _, fun _ _ h => hR.lt h, ?_, ?_⟩ fun id l' d h1 h2 => (by
                        by_cases e : id = s.next
                        · simp only [e, if_true, Option.some.injEq] at h1
                          subst h1
                          cases h2
                        · simp only [e, if_false] at h1
                          exact ⟨id, l', h1, h2⟩)
                      · intro id l hl'
                        have : id ≠ s.next := Nat.ne_of_lt (hR.lt hl')
                        exact ⟨l, by simp [this, hl'], rfl, rfl, rfl⟩
                      · intro kk ob hkk hnl
                        have : kk ≠ lc.blk := fun h => hnl ⟨b, _, lc, hb, rfl, hl, h.symm⟩
                        simp [Ne.symm this, hkk]
                      · rintro kk ⟨id, x', l, h1, h2, h3, h4⟩ _
                        simp only [Tr.get_set] at h1
                        by_cases e1 : s.next = id
                        · subst e1
                          simp only [if_true] at h3
                          obtain rfl := Option.some.inj h3
                          exact ⟨b, _, lc, hb, rfl, hl, h4⟩
                        · rw [if_neg e1] at h1
                          have e1' : id ≠ s.next := Ne.symm e1
                          simp only [e1', if_false] at h3
                          by_cases e2 : b = id
                          · subst e2
                            simp only [if_true, Option.some.injEq] at h1
                            subst h1; cases h2
                          · rw [if_neg e2] at h1
                            exact ⟨id, x', l, h1, h2, h3, h4⟩
                      · intro id l' h
                        by_cases e : id = s.next
                        · simp only [e, if_true, Option.some.injEq] at h
                          subst h
                          exact .inr ⟨by omega, .inr ⟨b, _, lc, hb, hl, rfl⟩⟩
                        · simp only [e, if_false] at h
                          exact .inl ⟨l', h⟩
                      · intro id x' h1 hlt1
                        simp only [Tr.get_set] at h1
                        rw [if_neg (by omega)] at h1
                        by_cases e2 : b = id
                        · subst e2; exact ⟨_, hb⟩
                        · rw [if_neg e2] at h1
                          exact ⟨x', h1⟩
                  ·
                    have hby : (len + (m + 1)) * i.bytes ≤ 68719476736 := Nat.le_of_ble_eq_true p2
                    have hne : len + (m + 1) ≤ 68719476736 := Nat.le_of_ble_eq_true p3
                    have hcol : co.length = len * i.size := by rw [concL_len o1, o2']
                    have hco : (Builtin.firstCells i.size len (.slice (some ⟨lc.blk, lc.dl + (if e0 < lc.cp then e0 else pre) * i.size, none⟩) len (lc.cp - e0))).run C.P w = .ok ⟨co⟩ w := by
                      simp only [Builtin.firstCells]
                      by_cases hlen0 : len = 0
                      · subst hlen0
                        have : co = [] := List.eq_nil_of_length_eq_zero (by rw [hcol]; simp)
                        subst this
                        simp only [Nat.zero_mul]
                        rfl
                      · have hlt : e0 < lc.cp := by omega
                        rw [if_pos hlt]
                        refine run_loadCells' (fun j v hj => ?_) _ hcol
                        have hv := o3 j v hj
                        have hv' : vs[lc.dl + e0 * i.size + j]? = some v := hv
                        simp only [World.cell?, q2]
                        simpa using hv'
                    obtain ⟨cap, rest', hc1, hc2, hrun⟩ := run_append_new (w := w) hC hd hxd hi.1 hi.2 (rest := rest) (rt := rt) (b := some ⟨lc.blk, lc.dl + (if e0 < lc.cp then e0 else pre) * i.size, none⟩) (sCap := lc.cp - e0) hz hzl hsrc (by omega) hby hne
                      (fun d => firstCells_drawn (γ := γ) (x := .osl b pre e0 len i.size) (by simp only [conc, hl]; rfl) w d hco (fun _ _ _ _ _ => trivial))
                      hcol hcsl
                    have hall := concL_append o1 hcs
                    have hst := Step.stale hR hb
                    have hstep := Step.alloc (base := base) hst.rel (.cells el (Tr.ofList (old ++ r.2)) ((len + (m + 1)) * i.size) (fz - e0 * i.size) (b :: anc) false sg) (.cells (⟨co⟩ ++ ⟨cs⟩ ++ rest') el (0, 0)) 0 cap
                      (w' := { w with drawn := w.drawn + 1, heap := w.heap.push (.cells (⟨co⟩ ++ ⟨cs⟩ ++ rest') el (0, 0)) }) rfl rfl rfl rfl
                      (by
                        intro γ' g1
                        have := newCells_rel (C := C) hi.1 hall (by rw [List.length_append, o2', hcl, ← Nat.add_mul]; exact Nat.mul_le_mul_right _ hc1) (arr := ⟨co⟩ ++ ⟨cs⟩ ++ rest')
                          (by
                            simp only [Array.size_append, List.size_toArray]
                            rw [hc2, hcol, hcsl, ← Nat.add_mul, ← Nat.add_mul]
                            rw [show len + (m + 1) + (cap - (len + (m + 1))) = cap by omega]; exact Nat.le_refl _)
                          (fun j c hj => by
                            rw [Array.getElem?_append_left (by
                              simp only [Array.size_append, List.size_toArray]
                              rcases Nat.lt_or_ge j (co ++ cs).length with h | h
                              · simpa using h
                              · rw [List.getElem?_eq_none h] at hj; cases hj)]
                            simpa using hj) w.heap.size (fz - e0 * i.size) sg 0 0 (by omega) (by omega) γ' g1
                        rw [List.length_append, o2', hcl, ← Nat.add_mul] at this
                        exact this)
                    refine ⟨_, .slice (some ⟨w.heap.size, 0, none⟩) (len + (m + 1)) cap, _, ?_, ?_, hst.trans hstep⟩
                    · rw [← hcb]
                      simp only [VS, Sem.run_bind, hrun, Result.andThen_ok]
                      rfl
                    · simp only [conc, if_true, Option.map_some, Option.some.injEq]
                      simp only [Nat.zero_add, Nat.sub_zero]
                      congr 2
                      split <;> simp
            | _ => trivial
    | vsl b n c => exact path_appVec hC hR hd hxd hi.1 hi.2 hz hzl hcb hcs hcl hsrc
    | _ => trivial
  | _ => trivial
end
end Go.Proofs.YteibjeicgeophaaGreatDoor.Abs

namespace Go.Proofs.YteibjeicgeophaaGreatDoor.Abs
open Go
section
variable {C : Ctx} {base : Nat} {γ : G} {s : S} {w : World} {nt : Nat} {t : Tr AV} {a : Act}
def MapAt (γ : G) (s : S) (w : World) (x : AV) (cx : Value) (m : List ME × Nat) : Prop :=
  (x = .nilmap ∧ cx = .map none ∧ m = ([], 0)) ∨
  (∃ r lc ents, x = .mapv r ∧ γ r = some lc ∧ cx = .map (some lc.blk) ∧ s.h.get r = some (.map m.1 m.2) ∧ w.heap[lc.blk]? = some (.map ents m.2) ∧
    MapEnts γ m.1 ents.toList ∧ (∃ d, ∀ e ∈ m.1, keyOf d e.k = true))
theorem path_getMap (hR : Rel C base γ s w) (x : AV) (cx : Value) (hx : conc γ x = some cx) : (getMap s x).path (MapAt γ s w x cx) := by
  cases x with
  | nilmap => simp only [conc, Option.some.injEq] at hx; exact .inl ⟨rfl, hx.symm, rfl⟩
  | mapv r =>
    simp only [conc, Option.map_eq_some_iff] at hx
    obtain ⟨lc, hl, rfl⟩ := hx
    show (match s.h.get r with | some (.map es c) => R.ok (es, c) | _ => R.bad _).path _
    cases hb : s.h.get r with
    | none => trivial
    | some b =>
      cases b with
      | map es c =>
        obtain ⟨l', o, h1, h2, ents, rfl, h3, h4⟩ := hR.blk r _ hb
        rw [hl] at h1; obtain rfl := Option.some.inj h1
        exact .inr ⟨r, lc, ents, rfl, hl, rfl, hb, h2, h3, h4⟩
      | _ => trivial
  | _ => trivial
theorem runGetMap {P : Program} {r c : Nat} {es : Array MapEntry} {w : World} (h : w.heap[r]? = some (.map es c)) : (getObj r).run P w = .ok (.map es c) w := by
  simp [getObj, Sem.run, h]
theorem run_sliceData {P : Program} {x : Array TypeId} {rt : TypeId} {ad : Addr} {l c : Nat} {w : World} (h : c ≠ 0) :
    (Builtin.unsafeSliceData_ x rt ⟨[.slice (some ad) l c]⟩).run P w = .ok (.pointer (some ad)) w := by
  have : Builtin.unsafeSliceData_ x rt ⟨[.slice (some ad) l c]⟩ = (if c ≠ 0 then pure (.pointer (some ad)) else _) := rfl
  rw [this, if_pos h]; rfl
theorem MapEnts.len : ∀ {es : List ME} {L : List MapEntry}, MapEnts γ es L → es.length = L.length
  | [], [], _ => rfl
  | _ :: _, _ :: _, h => by simp [MapEnts.len h.2]
  | [], _ :: _, h => h.elim
  | _ :: _, [], h => h.elim
theorem ok_len (hC : Good C) (hR : Rel C base γ s w) (argTypes : List TypeId) (args : List AV) (cargs : List Value) (hargs : concL γ args = some cargs) (rt : TypeId) :
    (biLen C s argTypes args).path (NxOk C base γ s w ((VS (Builtin.len_ ⟨argTypes⟩ rt ⟨cargs⟩)).run C.P w)) := by
  unfold biLen
  split
  case h_2 => trivial
  rename_i x t rest
  obtain ⟨cx, cl1, hcx, h1, rfl⟩ := concL_cons.1 hargs
  simp only [concL, Option.some.injEq] at h1; subst h1
  refine R.pbd _ (path_under hC t) fun d hd => ?_
  have key : ∀ n : Nat, ((Builtin.len_ ⟨t :: rest⟩ rt ⟨[cx]⟩).run C.P w = .ok (goInt n) w) → (R.ok (Nx.val (.int .i64 (.ofNat n)) s)).path (NxOk C base γ s w ((VS (Builtin.len_ ⟨t :: rest⟩ rt ⟨[cx]⟩)).run C.P w)) :=
    fun n h => okVal hR h rfl
  have symc : ∀ v, lenSym d x = some v → (R.ok (Nx.val v s)).path (NxOk C base γ s w ((VS (Builtin.len_ ⟨t :: rest⟩ rt ⟨[cx]⟩)).run C.P w)) := by
    intro v hv
    unfold lenSym at hv
    cases d <;> first | (cases hv; done) | skip
    · cases x <;> first | (cases hv; done) | skip
      rename_i k e
      cases k <;> first | (cases hv; done) | skip
      obtain rfl := Option.some.inj hv
      obtain ⟨d', h1, ⟨z, rfl⟩, rfl⟩ := conc_see hcx
      refine okVal hR (c := goInt z.size) ?_ (conc_of (d := .val (.int .i64 z.size)) (by simp only [seG, h1, Option.bind_some, e1]) ⟨_, rfl⟩ rfl)
      simp only [Builtin.len_, List.getElem?_toArray, List.getElem?_cons_zero]
      rw [run_und' hd]
      rfl
    · cases x <;> first | (cases hv; done) | skip
      · rename_i k e
        cases k <;> first | (cases hv; done) | skip
        obtain rfl := Option.some.inj hv
        obtain ⟨d', h1, ⟨sa, sn, sc, sz, es, rfl⟩, rfl⟩ := conc_see hcx
        refine okVal hR (c := goInt sn) ?_ (conc_of (d := .val (.int .i64 sn)) (by simp only [seG, h1, Option.bind_some, e1]) ⟨_, rfl⟩ rfl)
        simp only [Builtin.len_, List.getElem?_toArray, List.getElem?_cons_zero]
        rw [run_und' hd]
        rfl
      · rename_i b n c
        obtain rfl := Option.some.inj hv
        obtain ⟨lc, k, q, hl, hn0, hc0, hk, hq, rfl⟩ := conc_vsl hcx
        refine okVal hR (c := goInt k) ?_ (by rw [conc_mkOpq]; exact conc_of (d := .val (.int .i64 k)) hn0 ⟨_, rfl⟩ rfl)
        simp only [Builtin.len_, List.getElem?_toArray, List.getElem?_cons_zero]
        rw [run_und' hd]
        rfl
  show (match lenSym d x with | some v => R.ok (Nx.val v s) | none => (lenOfA C s d x >>= fun n => R.ok (Nx.val (.int .i64 (.ofNat n)) s))).path _
  cases hls : lenSym d x with
  | some v => exact symc v hls
  | none =>
  simp only
  cases d with
  | string =>
    cases x with
    | str l =>
      simp only [conc, Option.some.injEq] at hcx; subst hcx
      refine key _ ?_
      simp only [Builtin.len_, List.getElem?_toArray, List.getElem?_cons_zero]
      rw [run_und' hd]
      rfl
    | _ => trivial
  | array n e =>
    refine key _ ?_
    simp only [Builtin.len_, List.getElem?_toArray, List.getElem?_cons_zero]
    rw [run_und' hd]
    rfl
  | pointer e =>
    refine R.pbd (fun n => (Builtin.len_ ⟨t :: rest⟩ rt ⟨[cx]⟩).run C.P w = .ok (goInt (Int.ofNat n)) w) ?_ (fun n hn => key n hn)
    refine R.pbd _ (path_under hC e) fun d hd' => ?_
    cases d with
    | array n _ =>
      show (Builtin.len_ ⟨t :: rest⟩ rt ⟨[cx]⟩).run C.P w = .ok (goInt (Int.ofNat n)) w
      simp only [Builtin.len_, List.getElem?_toArray, List.getElem?_cons_zero]
      rw [run_und' hd]
      simp only
      rw [run_und' hd']
      rfl
    | _ => trivial
  | slice e =>
    cases x with
    | nilsl =>
      simp only [conc, Option.some.injEq] at hcx; subst hcx
      refine key _ ?_
      simp only [Builtin.len_, List.getElem?_toArray, List.getElem?_cons_zero]
      rw [run_und' hd]
      rfl
    | sl b off len cap =>
      simp only [conc, Option.map_eq_some_iff] at hcx
      obtain ⟨lc, hl, rfl⟩ := hcx
      refine key _ ?_
      simp only [Builtin.len_, List.getElem?_toArray, List.getElem?_cons_zero]
      rw [run_und' hd]
      rfl
    | osl b pre e0 len sz =>
      simp only [conc, Option.map_eq_some_iff] at hcx
      obtain ⟨lc, hl, rfl⟩ := hcx
      refine key _ ?_
      simp only [Builtin.len_, List.getElem?_toArray, List.getElem?_cons_zero]
      rw [run_und' hd]
      rfl
    | _ => trivial
  | map k v =>
    refine R.pbd (fun n => (Builtin.len_ ⟨t :: rest⟩ rt ⟨[cx]⟩).run C.P w = .ok (goInt (Int.ofNat n)) w) ?_ (fun n hn => key n hn)
    refine R.pbd _ (path_getMap hR x cx hcx) fun m hm => ?_
    show (Builtin.len_ ⟨t :: rest⟩ rt ⟨[cx]⟩).run C.P w = .ok (goInt (Int.ofNat m.1.length)) w
    simp only [Builtin.len_, List.getElem?_toArray, List.getElem?_cons_zero]
    rw [run_und' hd]
    rcases hm with ⟨rfl, rfl, rfl⟩ | ⟨r, lc, ents, rfl, hl, rfl, h1, h2, h4, _⟩
    · rfl
    · simp only [Sem.run_bind, runGetMap h2, Result.andThen_ok, Sem.run_pure]
      rw [h4.len]
      simp
  | _ => trivial
theorem ok_cap (hC : Good C) (hR : Rel C base γ s w) (argTypes : List TypeId) (args : List AV) (cargs : List Value) (hargs : concL γ args = some cargs) (rt : TypeId) :
    (biCap C s argTypes args).path (NxOk C base γ s w ((VS (Builtin.cap_ ⟨argTypes⟩ rt ⟨cargs⟩)).run C.P w)) := by
  unfold biCap
  split
  case h_2 => trivial
  rename_i x t rest
  obtain ⟨cx, cl1, hcx, h1, rfl⟩ := concL_cons.1 hargs
  simp only [concL, Option.some.injEq] at h1; subst h1
  refine R.pbd _ (path_under hC t) fun d hd => ?_
  cases d with
  | slice e =>
    cases x with
    | nilsl =>
      simp only [conc, Option.some.injEq] at hcx; subst hcx
      refine okVal hR (c := goInt 0) ?_ rfl
      simp only [Builtin.cap_, List.getElem?_toArray, List.getElem?_cons_zero]
      rw [run_und' hd]
      rfl
    | sl b off len cap =>
      simp only [conc, Option.map_eq_some_iff] at hcx
      obtain ⟨lc, hl, rfl⟩ := hcx
      refine okVal hR (c := goInt cap) ?_ rfl
      simp only [Builtin.cap_, List.getElem?_toArray, List.getElem?_cons_zero]
      rw [run_und' hd]
      rfl
    | _ => trivial
  | _ => trivial
theorem ok_sliceData (hC : Good C) (hR : Rel C base γ s w) (argTypes : List TypeId) (args : List AV) (cargs : List Value) (hargs : concL γ args = some cargs) (rt : TypeId) :
    (biSliceData C s argTypes args).path (NxOk C base γ s w ((VS (Builtin.unsafeSliceData_ ⟨argTypes⟩ rt ⟨cargs⟩)).run C.P w)) := by
  unfold biSliceData
  split
  · obtain ⟨cx, cl1, hcx, h1, rfl⟩ := concL_cons.1 hargs
    simp only [concL, Option.some.injEq] at h1; subst h1
    simp only [conc, Option.some.injEq] at hcx; subst hcx
    exact okVal hR (c := .pointer none) rfl rfl
  · rename_i b off len cap
    obtain ⟨cx, cl1, hcx, h1, rfl⟩ := concL_cons.1 hargs
    simp only [concL, Option.some.injEq] at h1; subst h1
    simp only [conc, Option.map_eq_some_iff] at hcx
    obtain ⟨lc, hl, rfl⟩ := hcx
    cases hb : Nat.beq cap 0 with
    | true => trivial
    | false =>
      have hne : cap ≠ 0 := by intro h; rw [h] at hb; cases hb
      refine okVal hR (c := .pointer (some ⟨lc.blk, lc.dl + off, none⟩)) ?_ (by simp [conc, hl])
      exact run_sliceData hne
  · rename_i b pre e0 len sz
    obtain ⟨cx, cl1, hcx, h1, rfl⟩ := concL_cons.1 hargs
    simp only [concL, Option.some.injEq] at h1; subst h1
    simp only [conc, Option.map_eq_some_iff] at hcx
    obtain ⟨lc, hl, rfl⟩ := hcx
    split
    · rename_i st rest n
      refine R.pbd _ (path_under hC st) fun d hd => ?_
      cases d with
      | slice e =>
        refine R.pbd _ (path_ti hC e) fun i hi => ?_
        refine R.pbd _ (R.path_guard _ _) fun _ hg => ?_
        obtain ⟨_, _, hcp⟩ := oOk_spec hR hi.1 hl hg
        have hcp' : e0 + (n + 1) ≤ lc.cp := hcp
        refine okVal hR (c := .pointer (some ⟨lc.blk, lc.dl + e0 * sz, none⟩)) ?_ (by simp [conc, hl])
        have hlt : e0 < lc.cp := by omega
        have hne : lc.cp - e0 ≠ 0 := by omega
        rw [if_pos hlt]; exact run_sliceData hne
      | _ => trivial
    · trivial
  · rename_i b n c
    obtain ⟨cx, cl1, hcx, h1, rfl⟩ := concL_cons.1 hargs
    simp only [concL, Option.some.injEq] at h1; subst h1
    obtain ⟨lc, k, q, hl, hn0, hc0, hk, hq, rfl⟩ := conc_vsl hcx
    refine R.path_must hR fun hn => ?_
    have hpos : 0 < k := by
      rcases Nat.eq_zero_or_pos k with h | h
      · subst h
        exact absurd ⟨_, _, rfl, by decide⟩ (rel_not hn (seL1 hn0))
      · exact h
    refine okVal hR (c := .pointer (some ⟨lc.blk, lc.dl, none⟩)) (run_sliceData (by omega)) ?_
    simp only [conc, hl, Option.bind_some, seG]
    show (if 0 < lc.cp then some (Value.pointer (some ⟨lc.blk, lc.dl + (0 * 1 + 0), none⟩)) else none) = _
    rw [if_pos (by omega)]
    simp
  · trivial
theorem minL_run (k : IntKind) : ∀ (l : List AV) (cl : List Value) (m : Int), concL γ l = some cl →
    (minL k l m).path (fun v => ∃ n, v = .int k n ∧ (cl.foldlM Builtin.min2 (.int k m)).run C.P w = .ok (.int k n) w)
  | [], cl, m, h => by
    simp only [concL, Option.some.injEq] at h; subst h
    exact ⟨m, rfl, rfl⟩
  | v :: l, cl, m, h => by
    obtain ⟨cv, cl', hcv, h1, rfl⟩ := concL_cons.1 h
    cases v with
    | int k' n =>
      simp only [conc, Option.some.injEq] at hcv; subst hcv
      have := minL_run k l cl' (if n < m then n else m) h1
      show (minL k l (match decide (n < m) with | true => n | false => m)).path _
      rw [show (match decide (n < m) with | true => n | false => m) = if n < m then n else m by by_cases h : n < m <;> simp [h]]
      refine R.path_mono ?_ this
      rintro v ⟨n', rfl, hr⟩
      refine ⟨n', rfl, ?_⟩
      simp only [List.foldlM_cons, Builtin.min2, Sem.run_bind, Sem.run_pure, Result.andThen_ok]
      exact hr
    | _ => trivial
theorem maxL_run (k : IntKind) : ∀ (l : List AV) (cl : List Value) (m : Int), concL γ l = some cl →
    (maxL k l m).path (fun v => ∃ n, v = .int k n ∧ (cl.foldlM Builtin.max2 (.int k m)).run C.P w = .ok (.int k n) w)
  | [], cl, m, h => by
    simp only [concL, Option.some.injEq] at h; subst h
    exact ⟨m, rfl, rfl⟩
  | v :: l, cl, m, h => by
    obtain ⟨cv, cl', hcv, h1, rfl⟩ := concL_cons.1 h
    cases v with
    | int k' n =>
      simp only [conc, Option.some.injEq] at hcv; subst hcv
      have := maxL_run k l cl' (if n > m then n else m) h1
      show (maxL k l (match decide (m < n) with | true => n | false => m)).path _
      rw [show (match decide (m < n) with | true => n | false => m) = if n > m then n else m by by_cases h : m < n <;> simp [h]]
      refine R.path_mono ?_ this
      rintro v ⟨n', rfl, hr⟩
      refine ⟨n', rfl, ?_⟩
      simp only [List.foldlM_cons, Builtin.max2, Sem.run_bind, Sem.run_pure, Result.andThen_ok]
      exact hr
    | _ => trivial
theorem ok_min (hR : Rel C base γ s w) (argTypes : List TypeId) (args : List AV) (cargs : List Value) (hargs : concL γ args = some cargs) (rt : TypeId) :
    (biMin s args).path (NxOk C base γ s w ((VS (Builtin.min_ ⟨argTypes⟩ rt ⟨cargs⟩)).run C.P w)) := by
  unfold biMin
  split
  · obtain ⟨cx, cl1, hcx, h1, rfl⟩ := concL_cons.1 hargs
    simp only [conc, Option.some.injEq] at hcx; subst hcx
    rename_i k n l
    refine R.pbd _ (minL_run (C := C) (w := w) k l cl1 n h1) fun v hv => ?_
    obtain ⟨m, rfl, hr⟩ := hv
    exact okVal hR hr rfl
  · trivial
theorem ok_max (hR : Rel C base γ s w) (argTypes : List TypeId) (args : List AV) (cargs : List Value) (hargs : concL γ args = some cargs) (rt : TypeId) :
    (biMax s args).path (NxOk C base γ s w ((VS (Builtin.max_ ⟨argTypes⟩ rt ⟨cargs⟩)).run C.P w)) := by
  unfold biMax
  split
  · obtain ⟨cx, cl1, hcx, h1, rfl⟩ := concL_cons.1 hargs
    simp only [conc, Option.some.injEq] at hcx; subst hcx
    rename_i k n l
    refine R.pbd _ (maxL_run (C := C) (w := w) k l cl1 n h1) fun v hv => ?_
    obtain ⟨m, rfl, hr⟩ := hv
    exact okVal hR hr rfl
  · trivial
theorem ok_panic (hR : Rel C base γ s w) (args : List AV) (cargs : List Value) (hargs : concL γ args = some cargs) :
    (biPanic s args).path (NxOk C base γ s w ((VS (Instr.panic ((⟨cargs⟩ : Array Value).getD 0 .nilIface))).run C.P w)) := by
  unfold biPanic
  split
  · obtain ⟨cx, cl1, hcx, h1, rfl⟩ := concL_cons.1 hargs
    simp only [concL, Option.some.injEq] at h1; subst h1
    rename_i t v
    have hcx' := hcx
    simp only [conc, Option.map_eq_some_iff] at hcx
    obtain ⟨cv, hcv, rfl⟩ := hcx
    exact ⟨γ, .iface t cv, w, rfl, hcx', Step.refl hR⟩
  · trivial
theorem ok_copy (hC : Good C) (hR : Rel C base γ s w) (argTypes : List TypeId) (args : List AV) (cargs : List Value) (hargs : concL γ args = some cargs) (rt : TypeId) :
    (biCopy C s argTypes args).path (NxOk C base γ s w ((VS (Builtin.copy_ ⟨argTypes⟩ rt ⟨cargs⟩)).run C.P w)) := by
  unfold biCopy
  split
  case h_2 => trivial
  rename_i dst src st rest
  obtain ⟨cd, cl1, hcd, h1, rfl⟩ := concL_cons.1 hargs
  obtain ⟨cs, cl2, hcs, h2, rfl⟩ := concL_cons.1 h1
  simp only [concL, Option.some.injEq] at h2; subst h2
  refine R.pbd _ (path_under hC st) fun d hd => ?_
  cases d with
  | slice e =>
    refine R.pbd _ (path_ti hC e) fun i hi => ?_
    refine R.pbd _ (path_srcCells hC hR e hi.1 src cs hcs) fun r hr => ?_
    obtain ⟨cc, hcc, hcl, hlen, hfc⟩ := hr
    have run : ∀ (b : Option Addr) (dLen dCap : Nat) (w' : World), cd = .slice b dLen dCap →
        (∀ ad, b = some ad → (storeCells ad (cc.take (Nat.min r.1 dLen * i.size))).run C.P w = .ok () w') → (b = none → w' = w) →
        (Builtin.copy_ ⟨st :: rest⟩ rt ⟨[cd, cs]⟩).run C.P w = .ok (goInt (Nat.min r.1 dLen)) w' := by
      intro b dLen dCap w' hcd' hst hnone
      subst hcd'
      simp only [Builtin.copy_, List.getElem?_toArray, List.getElem?_cons_zero, List.getElem?_cons_succ]
      rw [run_und' hd]
      simp only [Sem.run_bind, hlen, Result.andThen_ok, hi.2.size w, hfc _ (Nat.min_le_left _ _)]
      cases b with
      | none => simp only [hnone rfl]; rfl
      | some ad =>
        simp only [Sem.run_bind, hst ad rfl, Result.andThen_ok, Sem.run_pure]
    show (copyTo s e i.size r dst).path _
    cases dst with
    | nilsl =>
      simp only [conc, Option.some.injEq] at hcd
      have := run none 0 0 w hcd.symm (fun _ h => by cases h) (fun _ => rfl)
      refine okVal hR this ?_
      simp [conc, goInt]
    | sl b off len cap =>
      simp only [conc, Option.map_eq_some_iff] at hcd
      obtain ⟨lc, hl, hcd⟩ := hcd
      refine R.pbd _ (path_wrCells hR b off _ _ (concL_take _ hcc) lc hl) fun s' hs' => ?_
      obtain ⟨w', hw1, hw2⟩ := hs'
      have := run _ _ _ w' hcd.symm (fun ad h => by obtain rfl := Option.some.inj h; exact hw1) (fun h => by cases h)
      refine ⟨γ, _, w', ?_, rfl, hw2⟩
      simp only [VS, Sem.run_bind, this, Result.andThen_ok]; rfl
    | osl b pre e0 len sz =>
      simp only [conc, Option.map_eq_some_iff] at hcd
      obtain ⟨lc, hl, hcd⟩ := hcd
      refine R.pbd _ (R.path_guard _ _) fun _ hg => ?_
      obtain ⟨hsz, _, hcp⟩ := oOk_spec hR hi.1 hl hg
      have hcp' : e0 + len ≤ lc.cp := hcp
      refine R.pbd _ (path_wrCells hR b _ _ _ (concL_take _ hcc) lc hl) fun s' hs' => ?_
      obtain ⟨w', hw1, hw2⟩ := hs'
      by_cases h0 : len = 0
      · subst h0
        have hz : cc.take (Nat.min r.1 0 * i.size) = [] := by simp
        have hw0 : w' = w := by
          have hw1' : (storeCells ⟨lc.blk, lc.dl + e0 * sz, none⟩ (cc.take (Nat.min r.1 0 * i.size))).run C.P w = .ok () w' := hw1
          rw [hz] at hw1'
          simp only [storeCells, Sem.run_pure, Result.ok.injEq] at hw1'
          exact hw1'.2.symm
        have := run _ _ _ w' hcd.symm (fun ad h => by rw [hz, hw0]; rfl) (fun h => by cases h)
        refine ⟨γ, _, w', ?_, rfl, hw2⟩
        simp only [VS, Sem.run_bind, this, Result.andThen_ok]; rfl
      · have hlt : e0 < lc.cp := by omega
        have := run _ _ _ w' hcd.symm (fun ad h => by obtain rfl := Option.some.inj h; rw [if_pos hlt]; exact hw1) (fun h => by cases h)
        refine ⟨γ, _, w', ?_, rfl, hw2⟩
        simp only [VS, Sem.run_bind, this, Result.andThen_ok]; rfl
    | _ => trivial
  | _ => trivial
end
end Go.Proofs.YteibjeicgeophaaGreatDoor.Abs

namespace Go.Proofs.YteibjeicgeophaaGreatDoor.Abs
open Go
section
variable {C : Ctx} {base : Nat} {γ : G} {s : S} {w : World} {nt : Nat} {t : Tr AV} {a : Act}
theorem runAsInt {P : Program} (k : IntKind) (n : Int) (w : World) : (Go.asInt (.int k n)).run P w = .ok n w := rfl
theorem runSetMap {P : Program} {r c : Nat} {es es' : Array MapEntry} {c' : Nat} {w : World} (h : w.heap[r]? = some (.map es c)) :
    (setObj r (.map es' c')).run P w = .ok () { w with heap := w.heap.setIfInBounds r (.map es' c') } := by
  have hlt : r < w.heap.size := by
    rcases Nat.lt_or_ge r w.heap.size with h' | h'
    · exact h'
    · rw [Array.getElem?_eq_none h'] at h; cases h
  simp only [setObj, Sem.run, h]
theorem Step.setMap (hR : Rel C base γ s w) {r c : Nat} {es : List ME} {ents : Array MapEntry} {lc : Loc} (hb : s.h.get r = some (.map es c)) (hl : γ r = some lc) (ho : w.heap[lc.blk]? = some (.map ents c))
    {es' : List ME} {c' : Nat} {ents' : Array MapEntry} (h1 : MapEnts γ es' ents'.toList) (h2 : ∃ d, ∀ e ∈ es', keyOf d e.k = true) :
    Step C base γ s w γ ⟨s.h.set r (.map es' c'), s.next, s.pc⟩ { w with heap := w.heap.setIfInBounds lc.blk (.map ents' c') } := by
  have hlt : lc.blk < w.heap.size := by
    rcases Nat.lt_or_ge lc.blk w.heap.size with h' | h'
    · exact h'
    · rw [Array.getElem?_eq_none h'] at ho; cases ho
  have hnoshare : ∀ i x li, i ≠ r → (s.h.set r (.map es' c')).get i = some x → γ i = some li → li.blk = lc.blk → False := by
    intro i x li hi hx hγi hbl
    rw [Tr.get_set_other _ _ (Ne.symm hi)] at hx
    rcases hR.sep i r x _ li lc hx hb hγi hl hi hbl with h | h
    · cases x <;> simp [AncOf] at h
    · simp [AncOf] at h
  refine Step.of ⟨Grow.refl γ, ?_, ⟨by simp, rfl, rfl, rfl, ?_⟩, ?_, Nat.le_refl _, fun _ _ h => hR.lt h, fun _ l h => .inl ⟨l, h⟩, fun id x h1 _ => by
    simp only [Tr.get_set] at h1
    split at h1
    · next h => subst h; exact ⟨_, hb⟩
    · exact ⟨x, h1⟩⟩
  · refine hR.setBlk (b' := .map es' c') (o' := .map ents' c') hb hl hl ⟨rfl, rfl, rfl⟩ rfl (fun _ _ => rfl) ?_ (Tr.get_set_same _ _ _) ?_ ?_ (by simp) ⟨ents', rfl, h1, h2⟩
      (fun i x li hi hx h3 h4 => (hnoshare i x li hi hx h3 h4).elim) (fun i x li hi hx h3 h4 => (hnoshare i x li hi hx h3 h4).elim)
    · intro i x hi hx
      rw [Tr.get_set_other _ _ (Ne.symm hi)] at hx; exact hx
    · intro k hk
      simp [Ne.symm hk]
    · simp [hlt]
  · intro k o hk hn
    have : k ≠ lc.blk := fun h => hn ⟨r, _, lc, hb, rfl, hl, h.symm⟩
    simp [Ne.symm this, hk]
  · rintro k ⟨id, x, l, q1, q2, q3, q4⟩ _
    simp only [Tr.get_set] at q1
    split at q1
    · next h => subst h; exact ⟨_, _, lc, hb, rfl, hl, by rw [hl] at q3; obtain rfl := Option.some.inj q3; exact q4⟩
    · exact ⟨id, x, l, q1, q2, q3, q4⟩
theorem keyOf_head {d d' : TypeDesc} {x y : AV} (h1 : keyOf d x = true) (h2 : keyOf d' x = true) (h3 : keyOf d' y = true) : keyOf d y = true := by
  cases d <;> cases d' <;> cases x <;> simp [keyOf] at h1 h2 <;> cases y <;> simp [keyOf] at h3 ⊢
  rw [h1, ← h2, h3]
theorem keyFits_all {d : TypeDesc} {k : AV} {es : List ME} (h : keyFits d k es = true) (hk : ∃ d', ∀ e ∈ es, keyOf d' e.k = true) : keyOf d k = true ∧ ∀ e ∈ es, keyOf d e.k = true := by
  simp only [keyFits, Bool.and_eq_true] at h
  refine ⟨h.1, ?_⟩
  obtain ⟨d', hd'⟩ := hk
  cases es with
  | nil => intro e he; cases he
  | cons e0 es => intro e he; exact keyOf_head h.2 (hd' e0 (by simp)) (hd' e he)
theorem sameNow_eq {d : TypeDesc} {x y : AV} {cx cy : Value} (hx : conc γ x = some cx) (hy : conc γ y = some cy) (h1 : keyOf d x = true) (h2 : keyOf d y = true) :
    Instr.sameNow d cx cy = some (keyEq x y) ∧ (keyEq x y = true → x = y) ∧ (keyEq x y = true → Instr.sameBits 10000 cy cx = true) := by
  cases d <;> cases x <;> simp [keyOf] at h1 <;> cases y <;> simp [keyOf] at h2 <;> simp only [conc, Option.some.injEq] at hx hy <;> subst hx <;> subst hy
  · simp only [Instr.sameNow, keyEq, Instr.sameBits, Bool.beq_eq_decide_eq, decide_eq_true_eq, true_and]
    exact ⟨fun h => by rw [h], fun h => h.symm⟩
  · subst h1; subst h2
    simp only [Instr.sameNow, keyEq, Instr.sameBits, if_true, decide_eq_true_eq]
    refine ⟨?_, fun h => by rw [h], fun h => by simp [h]⟩
    rename_i m n
    by_cases h : m = n <;> simp [h]
  · rename_i l m
    simp only [Instr.sameNow, keyEq, Instr.sameBits, bytesEq_beq]
    have this : ((ByteArray.mk ⟨l⟩ : ByteArray) == ByteArray.mk ⟨m⟩) = (l == m) := by
      show ((Array.mk l) == Array.mk m) = _
      simp
    have this2 : ((ByteArray.mk ⟨m⟩ : ByteArray) == ByteArray.mk ⟨l⟩) = (m == l) := by
      show ((Array.mk m) == Array.mk l) = _
      simp
    refine ⟨by rw [this], fun h => by rw [eq_of_beq h], fun h => by rw [this2, eq_of_beq h]; simp⟩
def Found (γ : G) (d : TypeDesc) (k : AV) (ck : Value) (es : List ME) (l : List MapEntry) (i0 : Nat) : Prop :=
  (findK k es = none ∧ Instr.findNow d ck l i0 = some none) ∨
  (∃ e i m, findK k es = some e ∧ Instr.findNow d ck l i0 = some (some (i0 + i, m.val)) ∧ l[i]? = some m ∧ MapEntRel γ e m ∧ e.k = k ∧ keyEq k e.k = true ∧ e ∈ es ∧
    (∀ (v : AV) (cv : Value), conc γ v = some cv → MapEnts γ (setK k v es) (l.modify i fun x => { x with key := ck, val := cv })) ∧
    MapEnts γ (delK k es) (l.eraseIdx i))
theorem found (d : TypeDesc) (k : AV) (ck : Value) (hk : conc γ k = some ck) (hkd : keyOf d k = true) : ∀ (es : List ME) (l : List MapEntry) (i0 : Nat), MapEnts γ es l → (∀ e ∈ es, keyOf d e.k = true) → Found γ d k ck es l i0
  | [], [], i0, _, _ => .inl ⟨rfl, rfl⟩
  | e :: es, m :: l, i0, ⟨h1, h2⟩, hd => by
    obtain ⟨s1, s2, s3⟩ := sameNow_eq hk h1.1 hkd (hd e (by simp))
    unfold Found findK Instr.findNow
    rw [s1]
    cases hq : keyEq k e.k with
    | true =>
      right
      refine ⟨e, 0, m, rfl, rfl, rfl, h1, (s2 hq).symm, hq, by simp, fun v cv hv => ?_, ?_⟩
      · simp only [setK, hq, List.modify_zero_cons]
        exact ⟨⟨hk, hv, h1.2.2⟩, h2⟩
      · simp only [delK, hq, List.eraseIdx_zero, List.tail_cons]
        exact h2
    | false =>
      simp only
      rcases found d k ck hk hkd es l (i0 + 1) h2 (fun e he => hd e (by simp [he])) with ⟨a1, a2⟩ | ⟨e', i, m', a1, a2, a3, a4, a5, a6, a7, a8, a9⟩
      · exact .inl ⟨a1, a2⟩
      · right
        refine ⟨e', i + 1, m', a1, ?_, by simpa using a3, a4, a5, a6, by simp [a7], fun v cv hv => ?_, ?_⟩
        · rw [a2]; congr 3; omega
        · simp only [setK, hq, List.modify_succ_cons]
          exact ⟨h1, a8 v cv hv⟩
        · simp only [delK, hq, List.eraseIdx_cons_succ]
          exact ⟨h1, a9⟩
  | [], _ :: _, _, h, _ => h.elim
  | _ :: _, [], _, h, _ => h.elim
theorem run_findKey {kt : TypeId} {d : TypeDesc} (hd : C.P.underlying kt = some d) {ck : Value} {l : List MapEntry} {r : Option (Nat × Value)} (h : Instr.findNow d ck l 0 = some r) :
    (Instr.findKey kt ck l).run C.P w = .ok r w := by
  unfold Instr.findKey
  rw [run_und' hd, h]; rfl
theorem run_checkKey {kt : TypeId} {d : TypeDesc} (hd : C.P.underlying kt = some d) {k : AV} {ck : Value} (hk : conc γ k = some ck) (hkd : keyOf d k = true) (b : Bool) (w : World) :
    (Instr.checkKey b 10000 kt ck).run C.P w = .ok () w := by
  show (Instr.checkKey b (9999 + 1) kt ck).run C.P w = .ok () w
  unfold Instr.checkKey
  rw [run_und' hd]
  cases d <;> cases k <;> simp [keyOf] at hkd <;> simp only [conc, Option.some.injEq] at hk <;> subst hk <;> rfl
theorem keyOf_set {d : TypeDesc} {k v : AV} (hk : keyOf d k = true) : ∀ {es : List ME}, (∀ e ∈ es, keyOf d e.k = true) → ∀ e ∈ setK k v es, keyOf d e.k = true
  | [], _, e, he => by simp [setK] at he
  | x :: es, h, e, he => by
    unfold setK at he
    cases hq : keyEq k x.k with
    | true =>
      rw [hq] at he
      rcases List.mem_cons.1 he with rfl | he
      · exact hk
      · exact h e (by simp [he])
    | false =>
      rw [hq] at he
      rcases List.mem_cons.1 he with rfl | he
      · exact h _ (by simp)
      · exact keyOf_set hk (fun e he => h e (by simp [he])) e he
theorem keyOf_del {d : TypeDesc} {k : AV} : ∀ {es : List ME}, (∀ e ∈ es, keyOf d e.k = true) → ∀ e ∈ delK k es, keyOf d e.k = true
  | [], _, e, he => by simp [delK] at he
  | x :: es, h, e, he => by
    unfold delK at he
    cases hq : keyEq k x.k with
    | true => rw [hq] at he; exact h e (by simp; exact .inr he)
    | false =>
      rw [hq] at he
      rcases List.mem_cons.1 he with rfl | he
      · exact h _ (by simp)
      · exact keyOf_del (fun e he => h e (by simp [he])) e he
theorem MapEnts.push : ∀ {es : List ME} {l : List MapEntry} {e : ME} {m : MapEntry}, MapEnts γ es l → MapEntRel γ e m → MapEnts γ (es ++ [e]) (l ++ [m])
  | [], [], _, _, _, h => ⟨h, trivial⟩
  | _ :: _, _ :: _, _, _, h, h' => ⟨h.1, MapEnts.push h.2 h'⟩
  | [], _ :: _, _, _, h, _ => h.elim
  | _ :: _, [], _, _, h, _ => h.elim
theorem put_run (hR : Rel C base γ s w) {r : Nat} {lc : Loc} {m : List ME × Nat} {ents : Array MapEntry} (hb : s.h.get r = some (.map m.1 m.2)) (hl : γ r = some lc) (ho : w.heap[lc.blk]? = some (.map ents m.2))
    (he : MapEnts γ m.1 ents.toList) (hk0 : ∃ d, ∀ e ∈ m.1, keyOf d e.k = true) {kt ty et : TypeId} {d : TypeDesc} (hty : C.P.underlying ty = some (.map kt et)) (hd : C.P.underlying kt = some d)
    {k v : AV} {ck cv : Value} (hk : conc γ k = some ck) (hv : conc γ v = some cv) (hf : keyFits d k m.1 = true) :
    ∃ w', (Instr.mapUpdate ty (.map (some lc.blk)) ck cv).run C.P w = .ok () w' ∧ Step C base γ s w γ (putK s r k v m) w' := by
  obtain ⟨hkd, hall⟩ := keyFits_all hf hk0
  unfold Instr.mapUpdate
  rw [run_und' hty]
  simp only [Sem.run_bind, runGetMap ho, Result.andThen_ok, run_checkKey hd hk hkd]
  rcases found d k ck hk hkd m.1 ents.toList 0 he hall with ⟨a1, a2⟩ | ⟨e, i, x, a1, a2, a3, a4, a5, a6, a7, a8, a9⟩
  · simp only [run_findKey hd a2, Result.andThen_ok, runSetMap ho]
    refine ⟨_, rfl, ?_⟩
    unfold putK
    rw [a1]
    refine Step.setMap hR hb hl ho ?_ ⟨d, ?_⟩
    · rw [Array.toList_push]
      exact he.push ⟨hk, hv, rfl⟩
    · intro e he
      rcases List.mem_append.1 he with he | he
      · exact hall e he
      · simp only [List.mem_singleton] at he; subst he; exact hkd
  · rw [Nat.zero_add] at a2
    have hx : ents[i]? = some x := by simpa using a3
    have hsame : Instr.sameBits 10000 (((ents[i]?).map (·.key)).getD ck) ck = true := by
      rw [hx]
      have := (sameNow_eq hk a4.1 hkd (hall e a7)).2.2 a6
      simpa using this
    simp only [run_findKey hd a2, Result.andThen_ok, Instr.keyThatStays, hsame, if_true, Sem.run_bind, Sem.run_pure, runSetMap ho]
    refine ⟨_, rfl, ?_⟩
    unfold putK
    rw [a1]
    refine Step.setMap hR hb hl ho ?_ ⟨d, keyOf_set hkd hall⟩
    rw [Array.toList_modify]
    exact a8 v cv hv
theorem ok_mapUpdate (hC : Good C) (hR : Rel C base γ s w) (ht : TmpsRel γ nt t a.tmps) (ty : TypeId) (x y z : Operand) (rt : TypeId) :
    (opMapUpdate ty x y z rt C t s).path (NxOk C base γ s w ((US (Instr.mapUpdate ty (a.eval x) (a.eval y) (a.eval z))).run C.P w)) := by
  refine R.pbd _ (path_under hC ty) fun d0 hd0 => ?_
  cases d0 with
  | map kt et =>
    refine R.pbd _ (path_under hC kt) fun d hd => ?_
    refine R.pbd _ (path_evA hR ht x) fun v hv => ?_
    cases v with
    | mapv r =>
      refine R.pbd _ (path_getMap hR _ _ hv) fun m hm => ?_
      refine R.pbd _ (path_evA hR ht y) fun k hk => ?_
      refine R.pbd _ (path_evA hR ht z) fun v' hv' => ?_
      refine R.pbd _ (R.path_guard _ _) fun _ hg => ?_
      rcases hm with ⟨h, _⟩ | ⟨r', lc, ents, h0, hl, hc, h1, h2, h3, h4⟩
      · cases h
      · cases h0
        obtain ⟨w', g1, g2⟩ := put_run hR h1 hl h2 h3 h4 hd0 hd hk hv' hg
        rw [hc]
        exact ⟨γ, w', by simp [US, g1], g2⟩
    | _ => trivial
  | _ => trivial
theorem run_lookup {kt ty et : TypeId} {d : TypeDesc} (hty : C.P.underlying ty = some (.map kt et)) (hd : C.P.underlying kt = some d) {cm ck z : Value} {k : AV} (hk : conc γ k = some ck) (hkd : keyOf d k = true)
    {ents : Array MapEntry} (hm : (cm = .map none ∧ ents = #[]) ∨ ∃ b c, cm = .map (some b) ∧ w.heap[b]? = some (.map ents c)) {r : Option (Nat × Value)} (hr : Instr.findNow d ck ents.toList 0 = some r)
    (hz : r = none → ∀ w, (zeroValue et).run C.P w = .ok z w) (ok : Bool) :
    (Instr.lookup ty cm ck ok).run C.P w = .ok (match r with | some (_, v) => (if ok then .tuple #[v, .bool true] else v) | none => (if ok then .tuple #[z, .bool false] else z)) w := by
  unfold Instr.lookup
  rw [run_und' hty]
  rcases hm with ⟨rfl, rfl⟩ | ⟨b, c, rfl, hb⟩
  · simp only [Sem.run_bind, Sem.run_pure, Result.andThen_ok, run_checkKey hd hk hkd, run_findKey hd hr]
    cases r with
    | none => simp only [Sem.run_bind, hz rfl, Result.andThen_ok, Sem.run_pure]
    | some p => rfl
  · simp only [Sem.run_bind, runGetMap hb, Sem.run_pure, Result.andThen_ok, run_checkKey hd hk hkd, run_findKey hd hr]
    cases r with
    | none => simp only [Sem.run_bind, hz rfl, Result.andThen_ok, Sem.run_pure]
    | some p => rfl
theorem MapAt.ents {m : List ME × Nat} {x : AV} {cx : Value} (hm : MapAt γ s w x cx m) : ∃ ents : Array MapEntry, ((cx = .map none ∧ ents = #[]) ∨ ∃ b c, cx = .map (some b) ∧ w.heap[b]? = some (.map ents c)) ∧
    MapEnts γ m.1 ents.toList ∧ (∃ d, ∀ e ∈ m.1, keyOf d e.k = true) := by
  rcases hm with ⟨_, hc, rfl⟩ | ⟨r', lc, ents, h0, hl, hc, h1, h2, h3, h4⟩
  · exact ⟨#[], .inl ⟨hc, rfl⟩, trivial, .bool, fun e he => by cases he⟩
  · exact ⟨ents, .inr ⟨_, _, hc, h2⟩, h3, h4⟩
theorem conc_withOk {v : AV} {c : Value} (h : conc γ v = some c) (ok b : Bool) : conc γ (withOk ok b v) = some (if ok then .tuple #[c, .bool b] else c) := by
  cases ok
  · exact h
  · simp [withOk, conc, concL, h]
theorem symKey_spec {d : TypeDesc} {k : AV} {ck : Value} {es : List ME} {e : SE} (hk : conc γ k = some ck) (h : symKey d k es = some e) :
    ∃ kc, conc γ kc = some ck ∧ keyOf d kc = true ∧ keyConst d es = true ∧ ∀ x, keyOf d x = true → seG γ (.a2 (.bin .eql) e (seOf x)) = some (.val (.bool (keyEq kc x))) := by
  unfold symKey at h
  cases d <;> first | (cases h; done) | skip
  · cases k <;> first | (cases h; done) | skip
    rename_i q kd se
    cases kd <;> first | (cases h; done) | skip
    rename_i q'
    simp only at h
    cases hb : ikEq q q' && keyConst (.int q) es with
    | false => rw [hb] at h; cases h
    | true =>
      rw [hb] at h
      obtain rfl := Option.some.inj h
      simp only [Bool.and_eq_true] at hb
      obtain rfl := ikEq_spec hb.1
      obtain ⟨d', h1, ⟨n, rfl⟩, rfl⟩ := conc_see hk
      refine ⟨.int q n, rfl, by simp [keyOf], hb.2, fun x hx => ?_⟩
      cases x <;> simp only [keyOf, Bool.false_eq_true] at hx
      rename_i q2 m
      have := of_decide_eq_true hx
      subst this
      simp only [seG, seOf, h1, Option.bind_some, e2, binV, isShift, if_true, intOp, okV, keyEq]
  · cases k <;> first | (cases h; done) | skip
    rename_i kd se
    cases kd <;> first | (cases h; done) | skip
    simp only at h
    cases hb : keyConst .string es with
    | false => rw [hb] at h; cases h
    | true =>
      rw [hb] at h
      obtain rfl := Option.some.inj h
      obtain ⟨d', h1, ⟨z, rfl⟩, rfl⟩ := conc_see hk
      refine ⟨.str z.data.toList, by simp only [conc, Dt.v], rfl, rfl, fun x hx => ?_⟩
      cases x <;> simp only [keyOf, Bool.false_eq_true] at hx
      simp only [seG, seOf, h1, Option.bind_some, e2, binV, strOp, okV, keyEq]
theorem keyConst_spec {d : TypeDesc} : ∀ {es : List ME}, keyConst d es = true → ∀ e ∈ es, keyOf d e.k = true
  | [], _, e, he => by cases he
  | x :: es, h, e, he => by
    simp only [keyConst, Bool.and_eq_true] at h
    cases he with
    | head => exact h.1
    | tail _ he => exact keyConst_spec h.2 e he
theorem path_findSym {d : TypeDesc} {kc : AV} {e : SE} (hq : ∀ x, keyOf d x = true → seG γ (.a2 (.bin .eql) e (seOf x)) = some (.val (.bool (keyEq kc x)))) : ∀ (es : List ME) (s : S), Rel C base γ s w → keyConst d es = true →
    (findSym s e es).path (fun r => r.1 = findK kc es ∧ Step C base γ s w γ r.2 w)
  | [], s, hR, _ => ⟨rfl, Step.refl hR⟩
  | x :: es, s, hR, hk => by
    simp only [keyConst, Bool.and_eq_true] at hk
    refine R.pbd _ (path_forkB hR (hq x.k hk.1)) fun r hr => ?_
    obtain ⟨h1, h2, -⟩ := hr
    show (match r.1 with | true => R.ok (some x, r.2) | false => findSym r.2 e es).path _
    have hf : findK kc (x :: es) = match keyEq kc x.k with | true => some x | false => findK kc es := rfl
    rw [hf, h1]
    cases keyEq kc x.k with
    | true => exact ⟨rfl, h2⟩
    | false =>
      refine R.path_mono ?_ (path_findSym hq es r.2 h2.rel hk.2)
      rintro r2 ⟨g1, g2⟩
      exact ⟨g1, h2.trans g2⟩
theorem okValS {x : Sem Value} {v : AV} {c : Value} {s' : S} (hx : x.run C.P w = .ok c w) (hv : conc γ v = some c) (hs : Step C base γ s w γ s' w) : NxOk C base γ s w ((VS x).run C.P w) (.val v s') :=
  ⟨γ, c, w, by simp [VS, hx], hv, hs⟩
theorem ok_lookup (hC : Good C) (hR : Rel C base γ s w) (ht : TmpsRel γ nt t a.tmps) (ty : TypeId) (x y : Operand) (ok : Bool) (rt : TypeId) :
    (opLookup ty x y ok rt C t s).path (NxOk C base γ s w ((VS (Instr.lookup ty (a.eval x) (a.eval y) ok)).run C.P w)) := by
  refine R.pbd _ (path_under hC ty) fun d0 hd0 => ?_
  cases d0 with
  | map kt et =>
    refine R.pbd _ (path_under hC kt) fun d hd => ?_
    refine R.pbd _ (path_evA hR ht x) fun v hv => ?_
    refine R.pbd _ (path_getMap hR _ _ hv) fun m hm => ?_
    refine R.pbd _ (path_evA hR ht y) fun k hk => ?_
    obtain ⟨ents, hents, hme, hko⟩ := hm.ents
    show (match symKey d k m.1 with | some se => (findSym s se m.1 >>= fun r => match r.1 with | some e => R.ok (Nx.val (withOk ok true e.v) r.2) | none => (zeroVal C et >>= fun v => R.ok (Nx.val (withOk ok false v) r.2))) | none => (guardB (keyFits d k m.1) "lookup: key" >>= fun _ => match findK k m.1 with | some e => R.ok (Nx.val (withOk ok true e.v) s) | none => (zeroVal C et >>= fun v => R.ok (Nx.val (withOk ok false v) s)))).path _
    cases hab : symKey d k m.1 with
    | some se =>
      obtain ⟨kc, hkc, hkd, hcst, hq⟩ := symKey_spec hk hab
      refine R.pbd _ (path_findSym hq m.1 s hR hcst) fun r hr => ?_
      obtain ⟨hr1, hr2⟩ := hr
      rcases found d kc _ hkc hkd m.1 ents.toList 0 hme (keyConst_spec hcst) with ⟨a1, a2⟩ | ⟨e, i, x', a1, a2, a3, a4, a5, a6, a7, a8, a9⟩
      · rw [hr1, a1]
        refine R.pbd _ (path_zeroVal hC et) fun z hz => ?_
        obtain ⟨c, hz1, hz2⟩ := hz
        exact okValS (run_lookup hd0 hd hkc hkd hents a2 (fun _ => hz1) ok) (conc_withOk (hz2 γ) ok false) hr2
      · rw [hr1, a1]
        exact okValS (run_lookup (z := .nilIface) hd0 hd hkc hkd hents a2 (fun h => by cases h) ok) (conc_withOk a4.2.1 ok true) hr2
    | none =>
    simp only
    refine R.pbd _ (R.path_guard _ _) fun _ hg => ?_
    obtain ⟨hkd, hall⟩ := keyFits_all hg hko
    rcases found d k _ hk hkd m.1 ents.toList 0 hme hall with ⟨a1, a2⟩ | ⟨e, i, x', a1, a2, a3, a4, a5, a6, a7, a8, a9⟩
    · show (match findK k m.1 with | some e => R.ok (Nx.val (withOk ok true e.v) s) | none => (zeroVal C et >>= fun v => R.ok (Nx.val (withOk ok false v) s))).path _
      rw [a1]
      refine R.pbd _ (path_zeroVal hC et) fun z hz => ?_
      obtain ⟨c, hz1, hz2⟩ := hz
      exact okVal hR (run_lookup hd0 hd hk hkd hents a2 (fun _ => hz1) ok) (conc_withOk (hz2 γ) ok false)
    · show (match findK k m.1 with | some e => R.ok (Nx.val (withOk ok true e.v) s) | none => (zeroVal C et >>= fun v => R.ok (Nx.val (withOk ok false v) s))).path _
      rw [a1]
      exact okVal hR (run_lookup (z := .nilIface) hd0 hd hk hkd hents a2 (fun h => by cases h) ok) (conc_withOk a4.2.1 ok true)
  | _ => trivial
theorem ok_mapEntry (hC : Good C) (hR : Rel C base γ s w) (ht : TmpsRel γ nt t a.tmps) (ty : TypeId) (x y : Operand) (rt : TypeId) :
    (opMapEntry ty x y rt C t s).path (NxOk C base γ s w ((VS (Instr.mapEntry ty (a.eval x) (a.eval y))).run C.P w)) := by
  refine R.pbd _ (path_under hC ty) fun d0 hd0 => ?_
  cases d0 with
  | map kt et =>
    refine R.pbd _ (path_under hC kt) fun d hd => ?_
    refine R.pbd _ (path_evA hR ht x) fun v hv => ?_
    cases v with
    | mapv r =>
      refine R.pbd _ (path_getMap hR _ _ hv) fun m hm => ?_
      refine R.pbd _ (path_evA hR ht y) fun k hk => ?_
      refine R.pbd _ (R.path_guard _ _) fun _ hg => ?_
      rcases hm with ⟨h, _⟩ | ⟨r', lc, ents, h0, hl, hc, h1, h2, h3, h4⟩
      · cases h
      cases h0
      obtain ⟨hkd, hall⟩ := keyFits_all hg h4
      rw [hc]
      have hstart : ∀ r : Option (Nat × Value), Instr.findNow d (a.eval y) ents.toList 0 = some r → True := fun _ _ => trivial
      rcases found d k _ hk hkd m.1 ents.toList 0 h3 hall with ⟨a1, a2⟩ | ⟨e, i, x', a1, a2, a3, a4, a5, a6, a7, a8, a9⟩
      · show (match findK k m.1 with | some e => R.ok (Nx.val (.tup [e.v, .int .i64 (.ofNat e.born)]) ⟨s.h.set r (Blk.map (setK k e.v m.1) m.2), s.next, s.pc⟩) | none => (zeroVal C et >>= fun v => R.ok (Nx.val (.tup [v, .int .i64 (.ofNat m.2)]) ⟨s.h.set r (Blk.map (m.1 ++ [(⟨k, v, m.2⟩ : ME)]) (Nat.add m.2 1)), s.next, s.pc⟩))).path _
        rw [a1]
        refine R.pbd _ (path_zeroVal hC et) fun z hz => ?_
        obtain ⟨c, hz1, hz2⟩ := hz
        refine ⟨γ, .tuple #[c, goInt m.2], _, ?_, ?_, Step.setMap hR h1 hl h2 (ents' := ents.push { key := a.eval y, val := c, born := m.2 }) (c' := m.2 + 1) ?_ ⟨d, ?_⟩⟩
        · unfold Instr.mapEntry
          simp only [VS]
          rw [Sem.run_bind, run_und' hd0]
          simp only [Sem.run_bind, runGetMap h2, Result.andThen_ok, run_checkKey hd hk hkd, run_findKey hd a2, hz1, runSetMap h2, Sem.run_pure]
        · simp [conc, concL, hz2 γ, goInt]
        · rw [Array.toList_push]
          exact h3.push ⟨hk, hz2 γ, rfl⟩
        · intro e he
          rcases List.mem_append.1 he with he | he
          · exact hall e he
          · simp only [List.mem_singleton] at he; subst he; exact hkd
      · show (match findK k m.1 with | some e => R.ok (Nx.val (.tup [e.v, .int .i64 (.ofNat e.born)]) ⟨s.h.set r (Blk.map (setK k e.v m.1) m.2), s.next, s.pc⟩) | none => (zeroVal C et >>= fun v => R.ok (Nx.val (.tup [v, .int .i64 (.ofNat m.2)]) ⟨s.h.set r (Blk.map (m.1 ++ [(⟨k, v, m.2⟩ : ME)]) (Nat.add m.2 1)), s.next, s.pc⟩))).path _
        rw [a1]
        rw [Nat.zero_add] at a2
        have hx : ents[i]? = some x' := by simpa using a3
        have hsame : Instr.sameBits 10000 (((ents[i]?).map (·.key)).getD (a.eval y)) (a.eval y) = true := by
          rw [hx]
          have := (sameNow_eq hk a4.1 hkd (hall e a7)).2.2 a6
          simpa using this
        refine ⟨γ, .tuple #[x'.val, goInt x'.born], _, ?_, ?_, Step.setMap hR h1 hl h2 (ents' := ents.modify i fun e => { e with key := a.eval y }) (c' := m.2) ?_ ⟨d, keyOf_set hkd hall⟩⟩
        · unfold Instr.mapEntry
          simp only [VS]
          rw [Sem.run_bind, run_und' hd0]
          simp only [Sem.run_bind, runGetMap h2, Result.andThen_ok, run_checkKey hd hk hkd, run_findKey hd a2, Instr.keyThatStays, hsame, if_true, Sem.run_pure, runSetMap h2]
          simp [hx]
        · simp [conc, concL, a4.2.1, goInt, a4.2.2]
        · rw [Array.toList_modify]
          have := a8 e.v x'.val a4.2.1
          have h' : ents.toList.modify i (fun e => { e with key := a.eval y, val := x'.val }) = ents.toList.modify i (fun e => { e with key := a.eval y }) := by
            apply List.ext_getElem?
            intro j
            simp only [List.getElem?_modify]
            by_cases hij : i = j
            · subst hij; rw [a3]; simp
            · simp [hij]
          rw [← h']; exact this
    | _ => trivial
  | _ => trivial
theorem setB_rel (b : Nat) {v : AV} {cv : Value} (hv : conc γ v = some cv) : ∀ {es : List ME} {l : List MapEntry}, MapEnts γ es l →
    (findB b es = none) ∨ (∃ e i, findB b es = some e ∧ l.findIdx? (fun e => (e.born : Int) == (b : Int)) = some i ∧ MapEnts γ (setB b v es) (l.modify i fun x => { x with val := cv }))
  | [], [], _ => .inl rfl
  | e :: es, m :: l, ⟨h1, h2⟩ => by
    unfold findB setB
    cases hq : Nat.beq e.born b with
    | true =>
      right
      have : e.born = b := Nat.eq_of_beq_eq_true hq
      refine ⟨e, 0, rfl, ?_, ?_⟩
      · rw [List.findIdx?_cons]; simp [h1.2.2, this]
      · simp only [List.modify_zero_cons]
        exact ⟨⟨h1.1, hv, h1.2.2⟩, h2⟩
    | false =>
      have : e.born ≠ b := by intro h; rw [h] at hq; simp at hq
      rcases setB_rel b hv h2 with h | ⟨e', i, a1, a2, a3⟩
      · exact .inl h
      · right
        refine ⟨e', i + 1, a1, ?_, ?_⟩
        · rw [List.findIdx?_cons, a2]
          have hf : ((m.born : Int) == (b : Int)) = false := by
            rw [h1.2.2]; exact beq_eq_false_iff_ne.2 (by omega)
          rw [hf]; rfl
        · simp only [List.modify_succ_cons]
          exact ⟨h1, a3⟩
  | [], _ :: _, h => h.elim
  | _ :: _, [], h => h.elim
theorem keyOf_setB {d : TypeDesc} {b : Nat} {v : AV} : ∀ {es : List ME}, (∀ e ∈ es, keyOf d e.k = true) → ∀ e ∈ setB b v es, keyOf d e.k = true
  | [], _, e, he => by simp [setB] at he
  | x :: es, h, e, he => by
    unfold setB at he
    cases hq : Nat.beq x.born b with
    | true =>
      rw [hq] at he
      rcases List.mem_cons.1 he with rfl | he
      · exact h x (by simp)
      · exact h e (by simp [he])
    | false =>
      rw [hq] at he
      rcases List.mem_cons.1 he with rfl | he
      · exact h _ (by simp)
      · exact keyOf_setB (fun e he => h e (by simp [he])) e he
theorem arr_findIdx {α : Type} (p : α → Bool) (a : Array α) : a.findIdx? p = a.toList.findIdx? p := by
  cases a; simp
theorem ok_entryStore (hR : Rel C base γ s w) (ht : TmpsRel γ nt t a.tmps) (ty : TypeId) (x y z : Operand) (rt : TypeId) :
    (opEntryStore x y z rt C t s).path (NxOk C base γ s w ((US (Instr.entryStore ty (a.eval x) (a.eval y) (a.eval z))).run C.P w)) := by
  refine R.pbd _ (path_evA hR ht x) fun v hv => ?_
  cases v with
  | mapv r =>
    refine R.pbd _ (path_getMap hR _ _ hv) fun m hm => ?_
    refine R.pbd _ (path_evA hR ht y) fun k hk => ?_
    refine R.pbd _ (path_asIdx k) fun b hb => ?_
    obtain ⟨kk, rfl⟩ := hb
    refine R.pbd _ (path_evA hR ht z) fun v' hv' => ?_
    rcases hm with ⟨h, _⟩ | ⟨r', lc, ents, h0, hl, hc, h1, h2, h3, d, h4⟩
    · cases h
    cases h0
    rw [hc]
    simp only [conc, Option.some.injEq] at hk
    rw [← hk]
    show (match findB b m.1 with | some _ => R.ok (Nx.skip ⟨s.h.set r (.map (setB b v' m.1) m.2), s.next, s.pc⟩) | none => R.bad _).path _
    rcases setB_rel b hv' h3 with h | ⟨e, i, a1, a2, a3⟩
    · rw [h]; trivial
    · rw [a1]
      have a2' : ents.findIdx? (fun e => (e.born : Int) == (b : Int)) = some i := by rw [arr_findIdx]; exact a2
      refine ⟨γ, _, ?_, Step.setMap hR h1 hl h2 (ents' := ents.modify i fun e => { e with val := a.eval z }) (c' := m.2) ?_ ⟨d, keyOf_setB h4⟩⟩
      · unfold Instr.entryStore
        simp only [US, Sem.run_bind, runGetMap h2, Result.andThen_ok, runAsInt, Sem.run_pure]
        have : (Int.ofNat b) = (b : Int) := rfl
        rw [this, a2']
        simp only [runSetMap h2, Result.andThen_ok]
      · rw [Array.toList_modify]; exact a3
  | _ => trivial
theorem ok_delete (hC : Good C) (hR : Rel C base γ s w) (argTypes : List TypeId) (args : List AV) (cargs : List Value) (hargs : concL γ args = some cargs) (rt : TypeId) :
    (biDelete C s argTypes args).path (NxOk C base γ s w ((VS (Builtin.delete_ ⟨argTypes⟩ rt ⟨cargs⟩)).run C.P w)) := by
  unfold biDelete
  split
  case h_2 => trivial
  rename_i x k ty rest
  obtain ⟨cx, cl1, hcx, g1, rfl⟩ := concL_cons.1 hargs
  obtain ⟨ck, cl2, hk, g2, rfl⟩ := concL_cons.1 g1
  simp only [concL, Option.some.injEq] at g2; subst g2
  refine R.pbd _ (path_under hC ty) fun d0 hd0 => ?_
  cases d0 with
  | map kt et =>
    refine R.pbd _ (path_under hC kt) fun d hd => ?_
    refine R.pbd _ (path_getMap hR _ _ hcx) fun m hm => ?_
    refine R.pbd _ (R.path_guard _ _) fun _ hg => ?_
    rcases hm with ⟨h, hc, rfl⟩ | ⟨r, lc, ents, h0, hl, hc, h1, h2, h3, h4⟩
    · subst h; subst hc
      simp only [keyFits, Bool.and_eq_true] at hg
      refine okVal hR (c := .tuple #[]) ?_ (by simp [conc, concL])
      simp only [Builtin.delete_, List.getElem?_toArray, List.getElem?_cons_zero, List.getElem?_cons_succ]
      rw [run_und' hd0]
      simp only [Sem.run_bind, run_checkKey hd hk hg.1, Result.andThen_ok, Sem.run_pure]
    · subst h0; subst hc
      obtain ⟨hkd, hall⟩ := keyFits_all hg h4
      show (R.ok (Nx.val (.tup []) ⟨s.h.set r (.map (delK k m.1) m.2), s.next, s.pc⟩)).path _
      rcases found d k _ hk hkd m.1 ents.toList 0 h3 hall with ⟨a1, a2⟩ | ⟨e, i, x', a1, a2, a3, a4, a5, a6, a7, a8, a9⟩
      · refine ⟨γ, .tuple #[], _, ?_, by simp [conc, concL], Step.setMap hR h1 hl h2 (ents' := ents) (c' := m.2) ?_ ⟨d, keyOf_del hall⟩⟩
        · simp only [VS, Builtin.delete_, List.getElem?_toArray, List.getElem?_cons_zero, List.getElem?_cons_succ]
          rw [Sem.run_bind, run_und' hd0]
          simp only [Sem.run_bind, runGetMap h2, run_checkKey hd hk hkd, run_findKey hd a2, Result.andThen_ok, Sem.run_pure, runSetMap h2]
        · have : delK k m.1 = m.1 := by
            have : ∀ es : List ME, findK k es = none → delK k es = es := by
              intro es
              induction es with
              | nil => intro _; rfl
              | cons e es ih =>
                intro h
                unfold findK at h; unfold delK
                cases hq : keyEq k e.k with
                | true => rw [hq] at h; cases h
                | false => rw [hq] at h; simp only; rw [ih h]
            exact this _ a1
          rw [this]; exact h3
      · rw [Nat.zero_add] at a2
        have hlt : i < ents.size := by
          rcases Nat.lt_or_ge i ents.size with h' | h'
          · exact h'
          · rw [List.getElem?_eq_none (by simpa using h')] at a3; cases a3
        refine ⟨γ, .tuple #[], _, ?_, by simp [conc, concL], Step.setMap hR h1 hl h2 (ents' := ents.eraseIdxIfInBounds i) (c' := m.2) ?_ ⟨d, keyOf_del hall⟩⟩
        · simp only [VS, Builtin.delete_, List.getElem?_toArray, List.getElem?_cons_zero, List.getElem?_cons_succ]
          rw [Sem.run_bind, run_und' hd0]
          simp only [Sem.run_bind, runGetMap h2, run_checkKey hd hk hkd, run_findKey hd a2, Result.andThen_ok, Sem.run_pure, runSetMap h2]
        · have : (ents.eraseIdxIfInBounds i).toList = ents.toList.eraseIdx i := by
            simp [Array.eraseIdxIfInBounds, hlt]
          rw [this]; exact a9
  | _ => trivial
theorem ok_makeMap (hC : Good C) (hR : Rel C base γ s w) (ht : TmpsRel γ nt t a.tmps) (ty : TypeId) (x : Option Operand) (rt : TypeId) :
    (opMap ty x rt C t s).path (NxOk C base γ s w ((VS (Instr.makeMap ty (x.map a.eval))).run C.P w)) := by
  have hstep := Step.alloc (base := base) hR (.map [] 0) (.map #[] 0) 0 1 (w' := w.alloc (.map #[] 0)) rfl rfl rfl rfl
    (fun γ' _ => ⟨#[], rfl, trivial, .bool, fun e he => by cases he⟩)
  cases x with
  | none =>
    refine ⟨_, .map (some w.heap.size), _, ?_, ?_, hstep⟩
    · rfl
    · simp [conc]
  | some x =>
    refine R.pbd _ (path_under hC ty) fun d hd => ?_
    cases d with
    | map kt et =>
      refine R.pbd _ (path_evA hR ht x) fun v hv => ?_
      cases v with
      | int k n =>
        simp only [conc, Option.some.injEq] at hv
        refine ⟨_, .map (some w.heap.size), _, ?_, ?_, hstep⟩
        · simp only [Option.map_some, VS, Instr.makeMap, Sem.run_bind]
          rw [← hv]
          rw [run_und hd]
          rfl
        · simp [conc]
      | _ => trivial
    | _ => trivial
theorem path_clearIn (hC : Good C) (hR : Rel C base γ s w) (e : TypeId) (x : AV) (cx : Value) (hcx : conc γ x = some cx) {ty : TypeId} (hd : C.P.underlying ty = some (.slice e)) (rest : List TypeId) (rt : TypeId) :
    (clearIn C s e x).path (NxOk C base γ s w ((VS (Builtin.clear_ ⟨ty :: rest⟩ rt ⟨[cx]⟩)).run C.P w)) := by
  have run : ∀ (ad : Addr) (len cap : Nat) (zv : Value) (q : List Value) (w' : World), cx = .slice (some ad) (len + 1) cap → (∀ w, (zeroValue e).run C.P w = .ok zv w) →
      Builtin.zeroCells zv.cells (len + 1) = ⟨q⟩ → (storeCells ad q).run C.P w = .ok () w' → (Builtin.clear_ ⟨ty :: rest⟩ rt ⟨[cx]⟩).run C.P w = .ok (.tuple #[]) w' := by
    intro ad len cap zv q w' h hz hq hs
    subst h
    simp only [Builtin.clear_, List.getElem?_toArray, List.getElem?_cons_zero]
    rw [run_und' hd]
    simp only [Sem.run_bind, hz, Result.andThen_ok, hq, hs, Sem.run_pure]
  have run0 : ∀ (ad : Addr) (cap : Nat), cx = .slice (some ad) 0 cap → (Builtin.clear_ ⟨ty :: rest⟩ rt ⟨[cx]⟩).run C.P w = .ok (.tuple #[]) w := by
    intro ad cap h
    subst h
    simp only [Builtin.clear_, List.getElem?_toArray, List.getElem?_cons_zero]
    rw [run_und' hd]
    rfl
  have zc : ∀ (zv : Value) (z : List AV) (len : Nat), (∀ γ, concL γ z = some zv.cells.toList) → ∃ q, concL γ (repl z len) = some q ∧ Builtin.zeroCells zv.cells len = ⟨q⟩ := by
    intro zv z len hz
    obtain ⟨q, q1, q2, q3⟩ := concL_repl (hz γ) len
    refine ⟨q, q1, ?_⟩
    exact zeros_eq (r := zv.cells.toList) (n := len * zv.cells.size) (m := len) (by simp) zv.cells (fun _ => rfl) (by simpa using q2) (fun j hj => q3 j (by simpa using hj))
  cases x with
  | sl b off len cap =>
    simp only [conc, Option.map_eq_some_iff] at hcx
    obtain ⟨lc, hl, hcx⟩ := hcx
    refine R.pbd _ (path_zero hC e) fun z hz => ?_
    obtain ⟨i, zv, z1, z2, z3, z4⟩ := hz
    obtain ⟨q, q1, q2⟩ := zc zv z len z4
    refine R.pbd _ (path_wrCells hR b off _ q q1 lc hl) fun s' hs' => ?_
    obtain ⟨w', hw1, hw2⟩ := hs'
    cases len with
    | zero =>
      have hq : q = [] := by simp [repl, concL] at q1; exact q1
      subst hq
      have hw0 : w = w' := by
        simp only [storeCells, Sem.run_pure, Result.ok.injEq] at hw1; exact hw1.2
      subst hw0
      refine ⟨γ, .tuple #[], w, ?_, by simp [conc, concL], hw2⟩
      simp only [VS, Sem.run_bind, run0 _ _ hcx.symm, Result.andThen_ok, Sem.run_pure]
    | succ len =>
      refine ⟨γ, .tuple #[], w', ?_, by simp [conc, concL], hw2⟩
      simp only [VS, Sem.run_bind, run _ _ _ zv q w' hcx.symm z3 q2 hw1, Result.andThen_ok, Sem.run_pure]
  | osl b pre e0 len sz =>
    simp only [conc, Option.map_eq_some_iff] at hcx
    obtain ⟨lc, hl, hcx⟩ := hcx
    refine R.pbd _ (path_ti hC e) fun i hi => ?_
    refine R.pbd _ (R.path_guard _ _) fun _ hg => ?_
    obtain ⟨hsz, _, hcp⟩ := oOk_spec hR hi.1 hl hg
    have hcp' : e0 + len ≤ lc.cp := hcp
    refine R.pbd _ (path_zero hC e) fun z hz => ?_
    obtain ⟨i', zv, z1, z2, z3, z4⟩ := hz
    obtain ⟨q, q1, q2⟩ := zc zv z len z4
    refine R.pbd _ (path_wrCells hR b _ _ q q1 lc hl) fun s' hs' => ?_
    obtain ⟨w', hw1, hw2⟩ := hs'
    cases len with
    | zero =>
      have hq : q = [] := by simp [repl, concL] at q1; exact q1
      subst hq
      have hw0 : w = w' := by
        simp only [storeCells, Sem.run_pure, Result.ok.injEq] at hw1; exact hw1.2
      subst hw0
      refine ⟨γ, .tuple #[], w, ?_, by simp [conc, concL], hw2⟩
      simp only [VS, Sem.run_bind, run0 _ _ hcx.symm, Result.andThen_ok, Sem.run_pure]
    | succ len =>
      have hlt : e0 < lc.cp := by omega
      rw [if_pos hlt] at hcx
      refine ⟨γ, .tuple #[], w', ?_, by simp [conc, concL], hw2⟩
      simp only [VS, Sem.run_bind, run _ _ _ zv q w' hcx.symm z3 q2 hw1, Result.andThen_ok, Sem.run_pure]
  | _ => trivial
theorem ok_clear (hC : Good C) (hR : Rel C base γ s w) (argTypes : List TypeId) (args : List AV) (cargs : List Value) (hargs : concL γ args = some cargs) (rt : TypeId) :
    (biClear C s argTypes args).path (NxOk C base γ s w ((VS (Builtin.clear_ ⟨argTypes⟩ rt ⟨cargs⟩)).run C.P w)) := by
  unfold biClear
  split
  case h_2 => trivial
  rename_i x ty rest
  obtain ⟨cx, cl1, hcx, g1, rfl⟩ := concL_cons.1 hargs
  simp only [concL, Option.some.injEq] at g1; subst g1
  refine R.pbd _ (path_under hC ty) fun d0 hd0 => ?_
  cases d0 with
  | slice e =>
    cases x with
    | nilsl =>
      simp only [conc, Option.some.injEq] at hcx; subst hcx
      refine okVal hR (c := .tuple #[]) ?_ (by simp [conc, concL])
      simp only [Builtin.clear_, List.getElem?_toArray, List.getElem?_cons_zero]
      rw [run_und' hd0]; rfl
    | sl b off len cap => exact path_clearIn hC hR e _ cx hcx hd0 rest rt
    | osl b pre e0 len sz => exact path_clearIn hC hR e _ cx hcx hd0 rest rt
    | _ => trivial
  | map kt et =>
    cases x with
    | nilmap =>
      simp only [conc, Option.some.injEq] at hcx; subst hcx
      refine okVal hR (c := .tuple #[]) ?_ (by simp [conc, concL])
      simp only [Builtin.clear_, List.getElem?_toArray, List.getElem?_cons_zero]
      rw [run_und' hd0]; rfl
    | mapv r =>
      refine R.pbd _ (path_getMap hR _ _ hcx) fun m hm => ?_
      rcases hm with ⟨h, _⟩ | ⟨r, lc, ents, h0, hl, hc, h1, h2, h3, h4⟩
      · cases h
      cases h0; subst hc
      refine ⟨γ, .tuple #[], _, ?_, by simp [conc, concL], Step.setMap hR h1 hl h2 (ents' := #[]) (c' := m.2) (es' := []) trivial ⟨.bool, fun e he => by cases he⟩⟩
      simp only [VS, Builtin.clear_, List.getElem?_toArray, List.getElem?_cons_zero]
      rw [Sem.run_bind, run_und' hd0]
      simp only [Sem.run_bind, runGetMap h2, Result.andThen_ok, Sem.run_pure, runSetMap h2]
    | _ => trivial
  | _ => trivial
end
end Go.Proofs.YteibjeicgeophaaGreatDoor.Abs

namespace Go.Proofs.YteibjeicgeophaaGreatDoor.Abs
open Go
section
variable {C : Ctx} {base : Nat} {γ : G} {s : S} {w : World} {nt : Nat} {t : Tr AV} {a : Act}
def isCells : Blk → Bool
  | .cells .. => true
  | .tab .. => true
  | _ => false
theorem Step.setOther (hR : Rel C base γ s w) {r : Nat} {b b' : Blk} {o o' : Obj} {lc : Loc} (hb : s.h.get r = some b) (hl : γ r = some lc) (ho : w.heap[lc.blk]? = some o)
    (h1 : isCells b = false) (_h2 : isCells b' = false) (hr : BlkRel C γ lc b' o') {w' : World} (hw : w'.heap = w.heap.setIfInBounds lc.blk o') (ht : w'.tape = w.tape) (hos : w'.os = w.os) (hout : w'.output = w.output) :
    Step C base γ s w γ ⟨s.h.set r b', s.next, s.pc⟩ w' := by
  have hlt : lc.blk < w.heap.size := by
    rcases Nat.lt_or_ge lc.blk w.heap.size with h' | h'
    · exact h'
    · rw [Array.getElem?_eq_none h'] at ho; cases ho
  have hst : isStale b = false := by cases b <;> first | rfl | cases h1
  have hnoshare : ∀ i x li, i ≠ r → (s.h.set r b').get i = some x → γ i = some li → li.blk = lc.blk → False := by
    intro i x li hi hx hγi hbl
    rw [Tr.get_set_other _ _ (Ne.symm hi)] at hx
    rcases hR.sep i r x _ li lc hx hb hγi hl hi hbl with h | h
    · cases b <;> first | (cases h1; done) | (cases x <;> simp [AncOf] at h)
    · cases b <;> first | (cases h1; done) | simp [AncOf] at h
  refine Step.of ⟨Grow.refl γ, ?_, ⟨by rw [hw]; simp, ht, hos, hout, ?_⟩, ?_, Nat.le_refl _, fun _ _ h => hR.lt h, fun _ l h => .inl ⟨l, h⟩, fun id x h1 _ => by
    simp only [Tr.get_set] at h1
    split at h1
    · next h => subst h; exact ⟨_, hb⟩
    · exact ⟨x, h1⟩⟩
  · refine hR.setBlk (b' := b') (o' := o') hb hl hl ⟨rfl, rfl, rfl⟩ hst (fun _ _ => rfl) ?_ (Tr.get_set_same _ _ _) ?_ ?_ (by rw [hw]; simp) hr
      (fun i x li hi hx h3 h4 => (hnoshare i x li hi hx h3 h4).elim) (fun i x li hi hx h3 h4 => (hnoshare i x li hi hx h3 h4).elim)
    · intro i x hi hx
      rw [Tr.get_set_other _ _ (Ne.symm hi)] at hx; exact hx
    · intro k hk
      rw [hw]; simp [Ne.symm hk]
    · rw [hw]; simp [hlt]
  · intro k o hk hn
    have : k ≠ lc.blk := fun h => hn ⟨r, _, lc, hb, hst, hl, h.symm⟩
    rw [hw]; simp [Ne.symm this, hk]
  · rintro k ⟨id, x, l, q1, q2, q3, q4⟩ _
    simp only [Tr.get_set] at q1
    split at q1
    · next h => subst h; exact ⟨_, _, lc, hb, hst, hl, by rw [hl] at q3; obtain rfl := Option.some.inj q3; exact q4⟩
    · exact ⟨id, x, l, q1, q2, q3, q4⟩
theorem runSetObj {P : Program} {r : Nat} {o o' : Obj} {w : World} (h : w.heap[r]? = some o) (hc : ∀ x y z, o ≠ .cells x y z) :
    (setObj r o').run P w = .ok () { w with heap := w.heap.setIfInBounds r o' } := by
  simp only [setObj, Sem.run, h]
theorem runGetObj {P : Program} {r : Nat} {o : Obj} {w : World} (h : w.heap[r]? = some o) (hc : ∀ x y z, o ≠ .cells x y z) : (getObj r).run P w = .ok o w := by
  simp only [getObj, Sem.run, h]
theorem ok_range (hC : Good C) (hR : Rel C base γ s w) (ht : TmpsRel γ nt t a.tmps) (ty : TypeId) (x : Operand) (rt : TypeId) :
    (opRange ty x rt C t s).path (NxOk C base γ s w ((VS (Instr.range ty (a.eval x))).run C.P w)) := by
  refine R.pbd _ (path_evA hR ht x) fun v hv => ?_
  refine R.pbd _ (path_under hC ty) fun d hd => ?_
  have fin : ∀ (b : Blk) (o : Obj), (∀ γ', Grow γ γ' → BlkRel C γ' ⟨w.heap.size, 0, 1, none⟩ b o) → (Instr.range ty (a.eval x)).run C.P w = .ok (.pointer (some ⟨w.heap.size, 0, none⟩)) (w.alloc o) →
      NxOk C base γ s w ((VS (Instr.range ty (a.eval x))).run C.P w) (.val (.ptr s.next 0) (s.new b)) := by
    intro b o hb hr
    refine ⟨_, .pointer (some ⟨w.heap.size, 0, none⟩), _, ?_, ?_, Step.alloc (base := base) hR b o 0 1 (w' := w.alloc o) rfl rfl rfl rfl hb⟩
    · simp only [VS, Sem.run_bind, hr, Result.andThen_ok]; rfl
    · simp [conc]
  cases d with
  | string =>
    cases v with
    | str l =>
      simp only [conc, Option.some.injEq] at hv
      refine fin (.siter l 0) (.stringIter ⟨⟨l⟩⟩ 0) (fun γ' _ => ⟨rfl, rfl⟩) ?_
      rw [← hv]
      unfold Instr.range
      rw [run_und' hd]; rfl
    | _ => trivial
  | map kt et =>
    cases v with
    | nilmap =>
      simp only [conc, Option.some.injEq] at hv
      refine fin (.miter none 0 [] 0) (.mapIter none 0 #[] 0) (fun γ' _ => ⟨rfl, rfl⟩) ?_
      rw [← hv]
      unfold Instr.range
      rw [run_und' hd]; rfl
    | mapv r =>
      show ((getMap s (.mapv r) >>= fun m => R.ok (Blk.miter (some r) m.2 [] m.2)) >>= fun b => R.ok (Nx.val (.ptr s.next 0) (s.new b))).path _
      refine R.pbd (fun b => ∃ o, (∀ γ', Grow γ γ' → BlkRel C γ' ⟨w.heap.size, 0, 1, none⟩ b o) ∧ (Instr.range ty (a.eval x)).run C.P w = .ok (.pointer (some ⟨w.heap.size, 0, none⟩)) (w.alloc o)) ?_ (fun b hb => ?_)
      · refine R.pbd _ (path_getMap hR _ _ hv) fun m hm => ?_
        rcases hm with ⟨h, _⟩ | ⟨r', lc, ents, h0, hl, hc, h1, h2, h3, h4⟩
        · cases h
        cases h0
        refine ⟨.mapIter (some lc.blk) m.2 #[] m.2, fun γ' hg => ?_, ?_⟩
        · obtain ⟨l', q1, q2, q3, q4⟩ := hg r lc hl
          exact ⟨rfl, l', q1, by rw [q2]; rfl⟩
        · rw [hc]
          unfold Instr.range
          rw [run_und' hd]
          simp only [Sem.run_bind, runGetMap h2, Result.andThen_ok, Sem.run_pure]
          rfl
      · obtain ⟨o, q1, q2⟩ := hb
        exact fin b o q1 q2
    | _ => trivial
  | _ => trivial
theorem hasN_eq (k : Nat) : ∀ l : List Nat, hasN k l = l.contains k
  | [] => rfl
  | e :: es => by
    show (match Nat.beq k e with | true => true | false => hasN k es) = _
    rw [List.contains_cons, hasN_eq k es]
    cases h : Nat.beq k e with
    | true => simp [Nat.eq_of_beq_eq_true h]
    | false =>
      have : k ≠ e := by intro h'; rw [h'] at h; simp at h
      simp [this]
theorem leftOf_rel (seen : List Nat) : ∀ {es : List ME} {l : List MapEntry}, MapEnts γ es l → MapEnts γ (leftOf seen es) (l.filter fun e => !seen.contains e.born)
  | [], [], _ => trivial
  | e :: es, m :: l, ⟨h1, h2⟩ => by
    have ih := leftOf_rel seen h2
    show MapEnts γ (match hasN e.born seen with | true => leftOf seen es | false => e :: leftOf seen es) _
    rw [hasN_eq, List.filter_cons, h1.2.2]
    cases hq : seen.contains e.born with
    | true => simpa using ih
    | false => exact ⟨h1, ih⟩
  | [], _ :: _, h => h.elim
  | _ :: _, [], h => h.elim
theorem allBelow_rel (n : Nat) : ∀ {es : List ME} {l : List MapEntry}, MapEnts γ es l → allBelow n es = true → ∀ m ∈ l, m.born < n
  | [], [], _, _ => fun _ h => by cases h
  | e :: es, m :: l, ⟨h1, h2⟩, h => by
    unfold allBelow at h
    cases hq : Nat.blt e.born n with
    | true =>
      rw [hq] at h
      have hlt : e.born < n := Nat.le_of_ble_eq_true hq
      intro m' hm'
      rcases List.mem_cons.1 hm' with rfl | hm'
      · rw [h1.2.2]; exact hlt
      · exact allBelow_rel n h2 h m' hm'
    | false => rw [hq] at h; cases h
  | [], _ :: _, h, _ => h.elim
  | _ :: _, [], h, _ => h.elim
theorem MapEnts.get : ∀ {es : List ME} {l : List MapEntry} (i : Nat) (e : ME), MapEnts γ es l → es[i]? = some e → ∃ m, l[i]? = some m ∧ MapEntRel γ e m
  | [], [], i, e, _, h => by simp at h
  | x :: es, m :: l, 0, e, ⟨h1, h2⟩, h => by simp at h; subst h; exact ⟨m, by simp, h1⟩
  | x :: es, m :: l, i + 1, e, ⟨h1, h2⟩, h => by simpa using MapEnts.get i e h2 (by simpa using h)
  | [], _ :: _, _, _, h, _ => h.elim
  | _ :: _, [], _, _, h, _ => h.elim
theorem run_nextMap {r m since last clock : Nat} {seen : List Nat} {ents : Array MapEntry} (hr : w.heap[r]? = some (.mapIter (some m) since ⟨seen.reverse⟩ last)) (hm : w.heap[m]? = some (.map ents clock))
    (h1 : ∀ e ∈ ents.toList, e.born < last) (h2 : ∀ e ∈ ents.toList, e.born < since) (rt : TypeId) :
    ∃ left : List MapEntry, left = ents.toList.filter (fun e => !seen.contains e.born) ∧
    (left = [] → (Instr.next (.pointer (some ⟨r, 0, none⟩)) false rt).run C.P w = .ok (.tuple #[.bool false]) w) ∧
    (∀ e, left = [e] → (Instr.next (.pointer (some ⟨r, 0, none⟩)) false rt).run C.P w = .ok (.tuple #[.bool true, e.key, e.val]) { w with heap := w.heap.setIfInBounds r (.mapIter (some m) since ⟨(e.born :: seen).reverse⟩ clock) }) ∧
    (2 ≤ left.length → ∃ i e, i < left.length ∧ left[i]? = some e ∧ (Instr.next (.pointer (some ⟨r, 0, none⟩)) false rt).run C.P w =
      .ok (.tuple #[.bool true, e.key, e.val]) { w with drawn := w.drawn + 1, heap := w.heap.setIfInBounds r (.mapIter (some m) since ⟨(e.born :: seen).reverse⟩ clock) }) := by
  have hq1 : (!(Array.isEmpty (⟨seen.reverse⟩ : Array Nat)) && !ents.isEmpty && ents.all (·.born ≥ last)) = false := by
    cases he : ents.toList with
    | nil =>
      have : ents.isEmpty = true := by cases ents; simp at he; subst he; rfl
      simp [this]
    | cons e es =>
      have : ents.all (·.born ≥ last) = false := by
        have h3 := h1 e (by rw [he]; simp)
        rw [← Array.all_toList, he]
        simp; intro h; omega
      rw [this]; simp
  have hleft : (ents.filter fun e => !(⟨seen.reverse⟩ : Array Nat).contains e.born).toList = ents.toList.filter (fun e => !seen.contains e.born) := by
    simp
  have hold : ((ents.filter fun e => !(⟨seen.reverse⟩ : Array Nat).contains e.born).filter (·.born < since)).toList = ents.toList.filter (fun e => !seen.contains e.born) := by
    rw [Array.toList_filter, hleft, List.filter_eq_self.2]
    intro e he
    simpa using h2 e ((List.mem_filter.1 he).1)
  have hnew : ((ents.filter fun e => !(⟨seen.reverse⟩ : Array Nat).contains e.born).filter (·.born ≥ since)).toList = [] := by
    rw [Array.toList_filter, hleft, List.filter_eq_nil_iff]
    intro e he
    have := h2 e ((List.mem_filter.1 he).1)
    simp; omega
  generalize hL : ents.toList.filter (fun e => !seen.contains e.born) = L at hleft hold hnew
  have hcand : ((if ((ents.filter fun e => !(⟨seen.reverse⟩ : Array Nat).contains e.born).filter (·.born < since)).isEmpty then #[none] else #[]) ++
      (((ents.filter fun e => !(⟨seen.reverse⟩ : Array Nat).contains e.born).filter (·.born < since)) ++ ((ents.filter fun e => !(⟨seen.reverse⟩ : Array Nat).contains e.born).filter (·.born ≥ since))).map some)
      = (⟨if L = [] then [none] else L.map some⟩ : Array (Option MapEntry)) := by
    apply Array.ext'
    rw [Array.toList_append, Array.toList_map, Array.toList_append, hold, hnew, List.append_nil]
    have he : ((ents.filter fun e => !(⟨seen.reverse⟩ : Array Nat).contains e.born).filter (·.born < since)).isEmpty = L.isEmpty := by
      rw [← Array.isEmpty_toList, hold]
    rw [he]
    cases L <;> simp
  have hrun : (Instr.next (.pointer (some ⟨r, 0, none⟩)) false rt).run C.P w = ((do
      match (⟨if L = [] then [none] else L.map some⟩ : Array (Option MapEntry))[← choose (.mapNext (⟨if L = [] then [none] else L.map some⟩ : Array (Option MapEntry)).size)]? with
      | some (some e) =>
        setObj r (.mapIter (some m) since ((⟨seen.reverse⟩ : Array Nat).push e.born) clock)
        pure (.tuple #[.bool true, e.key, e.val])
      | some none => pure (.tuple #[.bool false])
      | none => stuck "Next: no such candidate" : Sem Value)).run C.P w := by
    simp only [Instr.next, Sem.run_bind, runGetObj hr (fun _ _ _ => by simp), Result.andThen_ok, runGetMap hm, hq1, Bool.false_eq_true, if_false, hcand]
    rfl
  refine ⟨_, rfl, ?_, ?_, ?_⟩
  · intro h
    rw [hrun, if_pos h]
    simp only [Sem.run_bind, run_choose, Question.forced]
    rfl
  · intro e h
    subst h
    rw [hrun, if_neg (by simp)]
    simp only [Sem.run_bind, run_choose, Question.forced]
    simp only [List.map_cons, List.map_nil, List.size_toArray, List.length_cons, List.length_nil, Nat.zero_add, Nat.le_refl, decide_true, if_true, Result.andThen_ok]
    simp only [List.getElem?_toArray, List.getElem?_cons_zero, Sem.run_bind]
    rw [runSetObj hr (fun _ _ _ => by simp)]
    simp
  · intro h
    have hne : L ≠ [] := by intro h'; rw [h'] at h; simp at h
    rw [hrun, if_neg hne]
    simp only [Sem.run_bind, run_choose, Question.forced]
    have hsz : (⟨L.map some⟩ : Array (Option MapEntry)).size = L.length := by simp
    rw [hsz]
    have hn : decide (L.length ≤ 1) = false := by simp; omega
    have hn' : ¬ (L.length ≤ 1) := by omega
    simp only [decide_eq_true_eq, hn', if_false, Result.andThen_ok, Question.cut]
    have hlt : w.tape w.drawn (.mapNext L.length) % L.length < L.length := Nat.mod_lt _ (by omega)
    refine ⟨w.tape w.drawn (.mapNext L.length) % L.length, L[w.tape w.drawn (.mapNext L.length) % L.length], hlt, by simp [hlt], ?_⟩
    simp only [List.getElem?_toArray, List.getElem?_map, List.getElem?_eq_getElem hlt, Option.map_some, Sem.run_bind]
    rw [runSetObj (w := { w with drawn := w.drawn + 1 }) hr (fun _ _ _ => by simp)]
    simp
theorem ok_next (hR : Rel C base γ s w) (ht : TmpsRel γ nt t a.tmps) (x : Operand) (isStr : Bool) (rt : TypeId) :
    (opNext x isStr rt C t s).path (NxOk C base γ s w ((VS (Instr.next (a.eval x) isStr rt)).run C.P w)) := by
  refine R.pbd _ (path_evA hR ht x) fun v hv => ?_
  cases v with
  | ptr r off =>
    cases off with
    | succ n => trivial
    | zero =>
      simp only [conc, Option.map_eq_some_iff] at hv
      obtain ⟨lc, hl, hv⟩ := hv
      show (nextOf s r isStr).path _
      unfold nextOf
      cases hb : s.h.get r with
      | none => trivial
      | some b =>
        obtain ⟨l', o, h1, h2, h3⟩ := hR.blk r b hb
        rw [hl] at h1; obtain rfl := Option.some.inj h1
        cases b with
        | siter l pos =>
          obtain ⟨h0, rfl⟩ : lc.dl = 0 ∧ o = .stringIter ⟨⟨l⟩⟩ pos := h3
          cases isStr with
          | false => trivial
          | true =>
            show (match Nat.blt pos l.length with | true => stepStr s r l pos (Utf8.decode ⟨⟨l⟩⟩ pos) | false => R.ok (Nx.val (.tup [.bool false]) s)).path _
            rw [← hv]
            cases hq : Nat.blt pos l.length with
            | true =>
              have hlt : pos < l.length := Nat.le_of_ble_eq_true hq
              have hlt' : pos < (ByteArray.mk ⟨l⟩).size := hlt
              refine ⟨γ, .tuple #[.bool true, goInt pos, .int .i32 (Utf8.decode ⟨⟨l⟩⟩ pos).1], _, ?_, ?_, Step.setOther hR hb hl h2 rfl rfl (b' := .siter l (pos + (Utf8.decode ⟨⟨l⟩⟩ pos).2)) (o' := .stringIter ⟨⟨l⟩⟩ (pos + (Utf8.decode ⟨⟨l⟩⟩ pos).2)) ⟨h0, rfl⟩ (w' := { w with heap := w.heap.setIfInBounds lc.blk (.stringIter ⟨⟨l⟩⟩ (pos + (Utf8.decode ⟨⟨l⟩⟩ pos).2)) }) rfl rfl rfl rfl⟩
              · simp only [VS, Instr.next, Sem.run_bind, Nat.add_zero, h0, runGetObj h2 (fun _ _ _ => by simp), Result.andThen_ok, hlt', if_true, runSetObj h2 (fun _ _ _ => by simp), Sem.run_pure]
              · simp [conc, concL, goInt]
            | false =>
              have hlt : ¬ pos < l.length := fun h => by
                have : Nat.blt pos l.length = true := Nat.ble_eq_true_of_le h
                rw [this] at hq; cases hq
              have hlt' : ¬ pos < (ByteArray.mk ⟨l⟩).size := hlt
              refine okVal hR (c := .tuple #[.bool false]) ?_ (by simp [conc, concL])
              simp only [Instr.next, Sem.run_bind, Nat.add_zero, h0, runGetObj h2 (fun _ _ _ => by simp), Result.andThen_ok, hlt', if_false, Sem.run_pure]
        | miter m since seen last =>
          cases isStr with
          | true => cases m <;> trivial
          | false =>
            rw [← hv]
            cases m with
            | none =>
              obtain ⟨h0, rfl⟩ : lc.dl = 0 ∧ o = .mapIter none 0 #[] 0 := h3
              refine okVal hR (c := .tuple #[.bool false]) ?_ (by simp [conc, concL])
              simp only [Instr.next, Sem.run_bind, Nat.add_zero, h0, runGetObj h2 (fun _ _ _ => by simp), Result.andThen_ok, Sem.run_pure]
            | some m =>
              obtain ⟨h0, lm, hlm, rfl⟩ := h3
              refine R.pbd _ (path_getMap hR (.mapv m) (.map (some lm.blk)) (by simp [conc, hlm])) fun mm hm => ?_
              refine R.pbd _ (R.path_guard _ _) fun _ hg => ?_
              simp only [Bool.and_eq_true] at hg
              rcases hm with ⟨h, _⟩ | ⟨r', lc', ents, g0, gl, gc, g1, g2, g3, g4⟩
              · cases h
              cases g0
              rw [hlm] at gl; obtain rfl := Option.some.inj gl
              obtain ⟨left, hleft, k0, k1, k2⟩ := run_nextMap (C := C) h2 g2 (allBelow_rel last g3 hg.1) (allBelow_rel since g3 hg.2) rt
              have hrel := leftOf_rel seen g3
              rw [← hleft] at hrel
              have hz : lc.dl + 0 = 0 := by omega
              rw [hz]
              unfold nextMap
              have step : ∀ (e : ME) (x : MapEntry) (d : Nat), MapEntRel γ e x → (Instr.next (.pointer (some ⟨lc.blk, 0, none⟩)) false rt).run C.P w = .ok (.tuple #[.bool true, x.key, x.val]) { w with drawn := d, heap := w.heap.setIfInBounds lc.blk (.mapIter (some lm.blk) since ⟨(x.born :: seen).reverse⟩ mm.2) } →
                  (stepIter s r m since seen mm.2 e).path (NxOk C base γ s w ((VS (Instr.next (.pointer (some ⟨lc.blk, 0, none⟩)) false rt)).run C.P w)) := by
                intro e x d he hx
                refine ⟨γ, .tuple #[.bool true, x.key, x.val], _, ?_, ?_, Step.setOther hR hb hl h2 rfl rfl (b' := .miter (some m) since (e.born :: seen) mm.2) (o' := .mapIter (some lm.blk) since ⟨(x.born :: seen).reverse⟩ mm.2) ⟨h0, lm, hlm, by rw [he.2.2]⟩
                  (w' := { w with drawn := d, heap := w.heap.setIfInBounds lc.blk (.mapIter (some lm.blk) since ⟨(x.born :: seen).reverse⟩ mm.2) }) rfl rfl rfl rfl⟩
                · simp only [VS, Sem.run_bind, hx, Result.andThen_ok, Sem.run_pure]
                · simp [conc, concL, he.1, he.2.1]
              cases hle : leftOf seen mm.1 with
              | nil =>
                rw [hle] at hrel
                have hl0 : left = [] := by cases left with | nil => rfl | cons _ _ => exact hrel.elim
                exact okVal hR (c := .tuple #[.bool false]) (k0 hl0) (by simp [conc, concL])
              | cons e es =>
                rw [hle] at hrel
                cases es with
                | nil =>
                  cases left with
                  | nil => exact hrel.elim
                  | cons x left =>
                    cases left with
                    | nil => exact step e x w.drawn hrel.1 (k1 x rfl)
                    | cons _ _ => exact hrel.2.elim
                | cons e2 es =>
                  have hlen := hrel.len
                  obtain ⟨i, x, q1, q2, q3⟩ := k2 (by rw [← hlen]; simp)
                  show (R.ask (e :: e2 :: es).length (fun i => match nth (e :: e2 :: es) i with | some x => stepIter s r m since seen mm.2 x | none => R.bad _)).path _
                  refine ⟨i, by rw [hlen]; exact q1, ?_⟩
                  have hi : i < (e :: e2 :: es).length := by rw [hlen]; exact q1
                  obtain ⟨x', p1, p2⟩ := MapEnts.get i _ hrel (List.getElem?_eq_getElem hi)
                  rw [q2] at p1; obtain rfl := Option.some.inj p1
                  show (match nth (e :: e2 :: es) i with | some x => stepIter s r m since seen mm.2 x | none => R.bad _).path _
                  rw [nth_eq, List.getElem?_eq_getElem hi]
                  exact step _ x (w.drawn + 1) p2 q3
        | _ => trivial
  | _ => trivial
theorem findB_rel (b : Nat) : ∀ {es : List ME} {l : List MapEntry}, MapEnts γ es l → findB b es = none ∨ ∃ e m, findB b es = some e ∧ l.find? (·.born == b) = some m ∧ MapEntRel γ e m
  | [], [], _ => .inl rfl
  | e :: es, m :: l, ⟨h1, h2⟩ => by
    unfold findB
    cases hq : Nat.beq e.born b with
    | true =>
      right
      have : e.born = b := Nat.eq_of_beq_eq_true hq
      exact ⟨e, m, rfl, by rw [List.find?_cons]; simp [h1.2.2, this], h1⟩
    | false =>
      have : e.born ≠ b := by intro h; rw [h] at hq; simp at hq
      rcases findB_rel b h2 with h | ⟨e', m', a1, a2, a3⟩
      · exact .inl h
      · right
        refine ⟨e', m', a1, ?_, a3⟩
        rw [List.find?_cons]
        have hf : (m.born == b) = false := by rw [h1.2.2]; exact beq_eq_false_iff_ne.2 this
        rw [hf]; exact a2
  | [], _ :: _, h => h.elim
  | _ :: _, [], h => h.elim
theorem ok_entry (hR : Rel C base γ s w) (ht : TmpsRel γ nt t a.tmps) (x : Operand) (rt : TypeId) :
    (opEntry x rt C t s).path (NxOk C base γ s w ((VS (Instr.entry (a.eval x))).run C.P w)) := by
  refine R.pbd _ (path_evA hR ht x) fun v hv => ?_
  cases v with
  | ptr r off =>
    cases off with
    | succ n => trivial
    | zero =>
      simp only [conc, Option.map_eq_some_iff] at hv
      obtain ⟨lc, hl, hv⟩ := hv
      rw [← hv]
      refine R.pbd (fun x => ∃ c, conc γ x = some c ∧ (Instr.entry (.pointer (some ⟨lc.blk, lc.dl + 0, none⟩))).run C.P w = .ok c w) ?_ (fun x hx => ?_)
      · unfold entryOf
        cases hb : s.h.get r with
        | none => trivial
        | some b =>
          obtain ⟨l', o, h1, h2, h3⟩ := hR.blk r b hb
          rw [hl] at h1; obtain rfl := Option.some.inj h1
          cases b with
          | miter m since seen last =>
            cases m with
            | none => trivial
            | some m =>
              cases seen with
              | nil => trivial
              | cons k seen =>
                obtain ⟨h0, lm, hlm, rfl⟩ := h3
                refine R.pbd _ (path_getMap hR (.mapv m) (.map (some lm.blk)) (by simp [conc, hlm])) fun mm hm => ?_
                refine R.pbd _ (R.path_guard _ _) fun _ hg => ?_
                have hg' : mm.2 = last := Nat.eq_of_beq_eq_true hg
                rcases hm with ⟨h, _⟩ | ⟨r', lc', ents, g0, gl, gc, g1, g2, g3, g4⟩
                · cases h
                cases g0
                rw [hlm] at gl; obtain rfl := Option.some.inj gl
                rcases findB_rel k g3 with h | ⟨e, x, a1, a2, a3⟩
                · rw [h]; trivial
                · rw [a1]
                  refine ⟨.tuple #[x.key, x.val], by simp [conc, concL, a3.1, a3.2.1], ?_⟩
                  have hback : (⟨(k :: seen).reverse⟩ : Array Nat).back? = some k := by simp
                  have hfind : ents.find? (·.born == k) = some x := by rw [← a2]; cases ents; simp
                  simp only [Instr.entry, Sem.run_bind, Nat.add_zero, h0, runGetObj h2 (fun _ _ _ => by simp), Result.andThen_ok, hback, runGetMap g2, hg', bne_self_eq_false, Bool.false_eq_true, if_false, hfind, Sem.run_pure]
          | _ => trivial
      · obtain ⟨c, q1, q2⟩ := hx
        exact okVal hR q2 q1
  | _ => trivial
end
end Go.Proofs.YteibjeicgeophaaGreatDoor.Abs
