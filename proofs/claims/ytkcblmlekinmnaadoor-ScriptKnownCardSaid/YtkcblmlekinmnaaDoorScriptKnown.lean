/- The statement 'ScriptKnownCard' of 'YtkcblmlekinmnaaDoor' is proved: the law's call returns true. No condition of ours: by runs of the abstract machine in the kernel, which is proved to carry out what the model does; strings.Index by the library's contract. -/
import Derived.Test.YtkcblmlekinmnaaDoorTie
import Derived.Test.YtkcblmlekinmnaaDoorCards
import Derived.Test.YtkcblmlekinmnaaDoorAbs5
import Derived.WalkKit
import Derived.ProofKit
import Derived.OpenShut
import Derived.SevenTiedAt
import Derived.ChangeCalls
import Derived.Shelf.Strings.Search3
import Derived.Shelf.Vars
import Derived.Test.YtkcblmlekinmnaaDoorScriptKnownBase
namespace Go.Proofs.YtkcblmlekinmnaaDoor
open Go.ChangeShapes Go.WideShapes Go.ChangeAt Go.RowKit

theorem scriptKnown_own : ownKnob Tryd.prog.godebug = none := by kernel_rfl

/-! ### the walk: a run in the kernel -/
noncomputable def scriptKnown_M : List (FuncId × Abs.Memo) := []
noncomputable def scriptKnown_C : Abs.Ctx := Abs.mkCtx Tryd.prog (fun _ => false) scriptKnown_absX scriptKnown_M
theorem scriptKnown_good : Abs.Good scriptKnown_C := Abs.good_ofM (Abs.memos_of (M := scriptKnown_M) trivial) scriptKnown_absValid scriptKnown_absNum (Abs.ext_of scriptKnown_absExt)
set_option maxRecDepth 100000 in
noncomputable def scriptKnown_shs : List Abs.Sh := []
noncomputable def scriptKnown_vars : List Abs.GV := [⟨2, 3, .opq Abs.kInt 2⟩, ⟨3, 68, .opq Abs.kAny 3⟩, ⟨4, 68, .opq Abs.kAny 4⟩]
set_option maxRecDepth 100000 in
theorem scriptKnown_absRun : Abs.R.chk Abs.retTrue (Abs.enterA scriptKnown_C (Abs.runF scriptKnown_C 1000000) 3 (Abs.absArgs scriptKnown_shs scriptKnown_C.nG) .normal none (Abs.Sv scriptKnown_C.nG (Abs.shN scriptKnown_shs) scriptKnown_vars)) = true := by kernel_rfl
theorem scriptKnown_walk (w : World) (V : Nat → Option Value) {args : Array Value} (hargs : Abs.shsOk scriptKnown_shs args.toList) (hv : ∀ x ∈ scriptKnown_vars, Abs.gvOk scriptKnown_C (Abs.γA scriptKnown_C.nG V (Abs.flat scriptKnown_shs args.toList)) w x) :
    Calls Tryd.prog 3 args w fun e w' => e = .returned (.bool true) ∧ w.keptBut w' (fun _ => False) :=
  Abs.walk_vars scriptKnown_good scriptKnown_absMixed 1000000 (Abs.shN scriptKnown_shs) scriptKnown_shs scriptKnown_vars V (by kernel_rfl) scriptKnown_absRun w hargs hv

set_option maxRecDepth 100000 in
theorem scriptKnown_lifted (os : Os) (started : os.Started) (H : Type) (enc : TypeId × Value → H) :
    ReturnsInHanded {} Tryd.checked os 3 .any (fun w args => (Rows.scriptKnownSpec.pre enc Tryd.prog Tryd.f3 Rows.scriptKnownRow.domain false w args ∧ laidMetH Tryd.prog Rows.scriptKnownRow.laid w) ∧ sizedMet enc Tryd.prog Tryd.f3 (OpenSpec.ofChange Rows.scriptKnownSpec) false w args)
      (Rows.scriptKnownSpec.post enc Tryd.prog Tryd.f3 false true false false) := by
  refine Abs.handed_and_shaped (C := Tryd.checked) (X := fun w _ => laidMetH Tryd.prog Rows.scriptKnownRow.laid w) (fun _ _ _ hh h => h.of_heap hh) scriptKnown_own started (by kernel_rfl) Tryd.func3
    (ChangeSpec.witness_shaped (enc := enc) (C := Tryd.checked) (os := os) (X := fun w _ => laidMetH Tryd.prog Rows.scriptKnownRow.laid w) false (World.laidAll Tryd.prog os Rows.scriptKnownRow.laid) #[] 8 (World.laidAll_os _ _ _)
      (World.shaped_of_ZipB (by kernel_rfl) (by kernel_rfl)) (by kernel_rfl) (by kernel_rfl) (by kernel_rfl)
      (by rw [MakeChecks.laidMetH_plain _ _ _ (by kernel_rfl)]; exact laidMet_laidAll _ (by kernel_rfl) (by kernel_rfl))) ?_
  intro W base args ds gs before hval0 hW hcnd hsh hlaid
  have hval : ∀ (j : Nat) t v, Tryd.f3.params[j]? = some t → args[j]? = some v → Value.okWide Tryd.prog W .any base t v := hval0
  have hW' := hW
  obtain ⟨p, q, hA0, hV, rfl, hfz, hnd⟩ := hW
  have hA : DataW.TrodAll enc Tryd.prog W 0 (fun _ => true) true Tryd.f3.params.toList args.toList ds p := hA0
  rw [Tryd.params3] at hA hval
  obtain ⟨rfl, rfl, rfl⟩ := trodAll_none hA
  obtain ⟨rfl, rfl⟩ := trodVars_none hV
  clear hA0 hval0
  simp only [List.append_nil] at hW'
  obtain ⟨vs, m, hw, hv⟩ := Abs.int_of_shape (g := 2) (t := 3) hsh (by kernel_rfl) (by kernel_rfl)
    (Go.Proofs.cell_of_shapedOpen_int (zero := #[.int .i64 0]) (t := 3) hsh (of_decide_eq_true (by kernel_rfl)) (by kernel_rfl) rfl (by kernel_rfl) (by kernel_rfl) Tryd.underlying3)
  obtain ⟨vs3, z3, hw3, hv3⟩ := Abs.var_of_shape (g := 3) (t := 68) (z := .nilIface) hsh (by kernel_rfl) (by kernel_rfl)
  obtain ⟨u3, q3, hc3, -, -⟩ := Abs.laid_iface hlaid (n := "strconv.ErrSyntax") (List.mem_cons_of_mem _ (List.mem_cons_of_mem _ (List.mem_cons_of_mem _ (List.mem_cons_of_mem _ (List.mem_cons_of_mem _ List.mem_cons_self))))) (by kernel_rfl) (g := 3) (t := 68) (by kernel_rfl) (by kernel_rfl) Tryd.underlying68
  have ho3 : Abs.oneV z3 = true := by
    have e : some z3 = some (Value.iface u3 q3) := by rw [← hv3, ← hc3]; simp [World.cell?, hw3]
    rw [Option.some.inj e]; rfl
  obtain ⟨vs4, z4, hw4, hv4⟩ := Abs.var_of_shape (g := 4) (t := 68) (z := .nilIface) hsh (by kernel_rfl) (by kernel_rfl)
  obtain ⟨u4, q4, hc4, -, -⟩ := Abs.laid_iface hlaid (n := "strconv.ErrRange") (List.mem_cons_of_mem _ (List.mem_cons_of_mem _ (List.mem_cons_of_mem _ (List.mem_cons_of_mem _ List.mem_cons_self)))) (by kernel_rfl) (g := 4) (t := 68) (by kernel_rfl) (by kernel_rfl) Tryd.underlying68
  have ho4 : Abs.oneV z4 = true := by
    have e : some z4 = some (Value.iface u4 q4) := by rw [← hv4, ← hc4]; simp [World.cell?, hw4]
    rw [Option.some.inj e]; rfl
  refine (scriptKnown_walk W (fun id => if id = 2 then some (.int .i64 m) else if id = 3 then some z3 else if id = 4 then some z4 else none) (args := #[]) (show Abs.shsOk scriptKnown_shs [] from trivial) fun x hx => ?_).mono fun e W' ⟨he, hg⟩ => ?_
  · simp only [scriptKnown_vars, List.mem_cons, List.not_mem_nil, or_false] at hx
    rcases hx with rfl | rfl | rfl
    · exact ⟨Nat.le_of_ble_eq_true (by kernel_rfl), by kernel_rfl, vs, _, hw, hv, Abs.conc_intVar (Nat.le_of_ble_eq_true (by kernel_rfl)) (by simp)⟩
    · exact ⟨Nat.le_of_ble_eq_true (by kernel_rfl), by kernel_rfl, vs3, _, hw3, hv3, Abs.conc_anyVar (Nat.le_of_ble_eq_true (by kernel_rfl)) (by simp) ho3⟩
    · exact ⟨Nat.le_of_ble_eq_true (by kernel_rfl), by kernel_rfl, vs4, _, hw4, hv4, Abs.conc_anyVar (Nat.le_of_ble_eq_true (by kernel_rfl)) (by simp) ho4⟩
  subst he
  exact ⟨_, rfl, Abs.post_old (pa := []) (pv := []) hW' (fun _ _ _ => (trodAll_cons_mk (shut_bool Tryd.underlying4 _) trodAll_mk0)) (fun sp _ => rfl) (fun _ _ => rfl) rfl
    (Abs.kept_mono hg)⟩

theorem scriptKnown_over : Rows.scriptKnownRow.holds Tryd.pinned (OpenSpec.ofChange Rows.scriptKnownSpec) :=
  OpenClaim.holds_of_wide 3 Tryd.f3 rfl rfl rfl rfl rfl rfl rfl ⟨rfl, rfl, rfl, rfl, rfl⟩ rfl rfl rfl rfl rfl (by kernel_rfl) Tryd.func3 (by kernel_rfl)
    (of_decide_eq_true (by kernel_rfl)) (by unfold Func.isWrapper; first | (rw [if_pos (by decide +kernel)]; kernel_rfl) | (rw [if_neg (by decide +kernel)]; exact ⟨rfl, rfl⟩))
    (fun os started H enc _ => scriptKnown_lifted os started H enc)

/-- ████ THE STATEMENT ████ -/
theorem scriptKnown_proved : Rows.ScriptKnownCardSaid :=
  Claim7.holds_tied_plain_at .later [] Rows.scriptKnownCard.laidKinds true Rows.scriptKnownCard.stood.harness Rows.scriptKnownCard.stood.looks scriptKnown_over (fun _ h => by cases h) (by kernel_rfl) (fun _ h => by cases h) scriptKnown_row_tie rfl ⟨rfl, rfl⟩ (by kernel_rfl) rfl
    (fun f fn hf hfn => by
      obtain rfl : f = 3 := Option.some.inj ((show Tryd.prog.funcNamed Rows.scriptKnownRow.func = some 3 by kernel_rfl).symm.trans hf) |>.symm
      obtain rfl : fn = Tryd.f3 := (Option.some.inj (Tryd.func3.symm.trans hfn)).symm
      exact ⟨by kernel_rfl, fun j t ht => by
        rw [Tryd.params3] at ht
        simp at ht⟩)
    (by kernel_rfl)
#print axioms scriptKnown_proved
end Go.Proofs.YtkcblmlekinmnaaDoor
