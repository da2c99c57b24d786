/- The statement 'StoreKnownCard' of 'YtckbdegpiffegaaGreatDoor' is proved: the law's call returns true. No condition of ours: by runs of the abstract machine in the kernel, which is proved to carry out what the model does; strings.Index by the library's contract. -/
import Derived.Test.YtckbdegpiffegaaGreatDoorTie
import Derived.Test.YtckbdegpiffegaaGreatDoorCards
import Derived.Test.YtckbdegpiffegaaGreatDoorAbs5
import Derived.WalkKit
import Derived.ProofKit
import Derived.OpenShut
import Derived.SevenTiedAt
import Derived.ChangeCalls
import Derived.Shelf.Strings.Search3
import Derived.Shelf.Vars
import Derived.Test.YtckbdegpiffegaaGreatDoorStoreKnownRun1
namespace Go.Proofs.YtckbdegpiffegaaGreatDoor
open Go.ChangeShapes Go.WideShapes Go.ChangeAt Go.RowKit

theorem storeKnown_own : ownKnob Tryz.prog.godebug = none := by kernel_rfl

/-! ### the walk: a run in the kernel -/
noncomputable def storeKnown_M : List (FuncId × Abs.Memo) := [(7, storeKnown_m4), (11, storeKnown_m3), (11, storeKnown_m2), (7, storeKnown_m1), (11, storeKnown_m0)]
noncomputable def storeKnown_C : Abs.Ctx := Abs.mkCtx Tryz.prog (fun _ => false) storeKnown_absX storeKnown_M
theorem storeKnown_good : Abs.Good storeKnown_C := Abs.good_ofM (Abs.memos_of (M := storeKnown_M) ⟨storeKnown_ok4, storeKnown_ok3, storeKnown_ok2, storeKnown_ok1, storeKnown_ok0, trivial⟩) storeKnown_absValid storeKnown_absNum (Abs.ext_of storeKnown_absExt)
set_option maxRecDepth 100000 in
theorem storeKnown_absRun : Abs.R.chk Abs.retTrue (Abs.enterA storeKnown_C (Abs.runF storeKnown_C 1000000) 3 [] .normal none (Abs.S1 storeKnown_C.nG 0 3)) = true := by kernel_rfl
theorem storeKnown_walk (w : World) {m : Int} {vs : Array Value} (hw : w.heap[(0 : Nat)]? = some (.cells vs 3 (0, 0))) (hv : vs[0]? = some (.int .i64 m)) :
    Calls Tryz.prog 3 #[] w fun e w' => e = .returned (.bool true) ∧ w.keptBut w' (fun _ => False) :=
  Abs.walk_closed1 storeKnown_good storeKnown_absMixed 1000000 (by kernel_rfl) (by kernel_rfl) storeKnown_absRun w hw hv

set_option maxRecDepth 100000 in
theorem storeKnown_lifted (os : Os) (started : os.Started) (H : Type) (enc : TypeId × Value → H) :
    ReturnsInHanded {} Tryz.checked os 3 .any (fun w args => (Rows.storeKnownSpec.pre enc Tryz.prog Tryz.f3 Rows.storeKnownRow.domain false w args ∧ laidMetH Tryz.prog Rows.storeKnownRow.laid w) ∧ sizedMet enc Tryz.prog Tryz.f3 (OpenSpec.ofChange Rows.storeKnownSpec) false w args)
      (Rows.storeKnownSpec.post enc Tryz.prog Tryz.f3 false true false false) := by
  refine Abs.handed_and_shaped (C := Tryz.checked) (X := fun w _ => laidMetH Tryz.prog Rows.storeKnownRow.laid w) (fun _ _ _ hh h => h.of_heap hh) storeKnown_own started (by kernel_rfl) Tryz.func3
    (ChangeSpec.witness_shaped (enc := enc) (C := Tryz.checked) (os := os) (X := fun w _ => laidMetH Tryz.prog Rows.storeKnownRow.laid w) false (World.laidAll Tryz.prog os Rows.storeKnownRow.laid) #[] 8 (World.laidAll_os _ _ _)
      (World.shaped_of_ZipB (by kernel_rfl) (by kernel_rfl)) (by kernel_rfl) (by kernel_rfl) (by kernel_rfl)
      (by rw [MakeChecks.laidMetH_plain _ _ _ (by kernel_rfl)]; exact laidMet_laidAll _ (by kernel_rfl) (by kernel_rfl))) ?_
  intro W base args ds gs before hval0 hW hcnd hsh _
  have hval : ∀ (j : Nat) t v, Tryz.f3.params[j]? = some t → args[j]? = some v → Value.okWide Tryz.prog W .any base t v := hval0
  have hW' := hW
  obtain ⟨p, q, hA0, hV, rfl, hfz, hnd⟩ := hW
  have hA : DataW.TrodAll enc Tryz.prog W 0 (fun _ => true) true Tryz.f3.params.toList args.toList ds p := hA0
  rw [Tryz.params3] at hA hval
  obtain ⟨rfl, rfl, rfl⟩ := trodAll_none hA
  obtain ⟨rfl, rfl⟩ := trodVars_none hV
  clear hA0 hval0
  simp only [List.append_nil] at hW'
  obtain ⟨vs, m, hw, hv⟩ := Abs.int_of_shape (g := 0) (t := 3) hsh (by kernel_rfl) (by kernel_rfl)
    (Go.Proofs.cell_of_shapedOpen_int (zero := #[.int .i64 0]) (t := 3) hsh (of_decide_eq_true (by kernel_rfl)) (by kernel_rfl) rfl (by kernel_rfl) (by kernel_rfl) Tryz.underlying3)
  refine (storeKnown_walk W hw hv).mono fun e W' ⟨he, hg⟩ => ?_
  subst he
  exact ⟨_, rfl, Abs.post_old (pa := []) (pv := []) hW' (fun _ _ _ => (trodAll_cons_mk (shut_bool Tryz.underlying4 _) trodAll_mk0)) (fun sp _ => rfl) (fun _ _ => rfl) rfl
    (Abs.kept_mono hg)⟩

theorem storeKnown_over : Rows.storeKnownRow.holds Tryz.pinned (OpenSpec.ofChange Rows.storeKnownSpec) :=
  OpenClaim.holds_of_wide 3 Tryz.f3 rfl rfl rfl rfl rfl rfl rfl ⟨rfl, rfl, rfl, rfl, rfl⟩ rfl rfl rfl rfl rfl (by kernel_rfl) Tryz.func3 (by kernel_rfl)
    (of_decide_eq_true (by kernel_rfl)) (by unfold Func.isWrapper; first | (rw [if_pos (by decide +kernel)]; kernel_rfl) | (rw [if_neg (by decide +kernel)]; exact ⟨rfl, rfl⟩))
    (fun os started H enc _ => storeKnown_lifted os started H enc)

/-- ████ THE STATEMENT ████ -/
theorem storeKnown_proved : Rows.StoreKnownCardSaid :=
  Claim7.holds_tied_plain_at .later [] Rows.storeKnownCard.laidKinds true Rows.storeKnownCard.stood.harness false storeKnown_over (fun _ h => by cases h) (by kernel_rfl) (fun _ h => by cases h) storeKnown_row_tie rfl ⟨rfl, rfl⟩ (by kernel_rfl) rfl
    (fun f fn hf hfn => by
      obtain rfl : f = 3 := Option.some.inj ((show Tryz.prog.funcNamed Rows.storeKnownRow.func = some 3 by kernel_rfl).symm.trans hf) |>.symm
      obtain rfl : fn = Tryz.f3 := (Option.some.inj (Tryz.func3.symm.trans hfn)).symm
      exact ⟨by kernel_rfl, fun j t ht => by
        rw [Tryz.params3] at ht
        simp at ht⟩)
    (by kernel_rfl)
#print axioms storeKnown_proved
end Go.Proofs.YtckbdegpiffegaaGreatDoor
