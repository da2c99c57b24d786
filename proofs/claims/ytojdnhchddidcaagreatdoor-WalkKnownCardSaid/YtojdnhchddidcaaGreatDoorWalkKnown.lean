/- The statement 'WalkKnownCard' of 'YtojdnhchddidcaaGreatDoor' is proved: the law's call returns true. No condition of ours: by runs of the abstract machine in the kernel, which is proved to carry out what the model does; strings.Index by the library's contract. -/
import Derived.Test.YtojdnhchddidcaaGreatDoorTie
import Derived.Test.YtojdnhchddidcaaGreatDoorCards
import Derived.Test.YtojdnhchddidcaaGreatDoorAbs5
import Derived.WalkKit
import Derived.ProofKit
import Derived.OpenShut
import Derived.SevenTiedAt
import Derived.Shelf.Strings.Search3
import Derived.Shelf.Vars
import Derived.Test.YtojdnhchddidcaaGreatDoorWalkKnownRun1
namespace Go.Proofs.YtojdnhchddidcaaGreatDoor
open Go.ChangeShapes Go.WideShapes Go.ChangeAt Go.RowKit

theorem walkKnown_own : ownKnob Tryz.prog.godebug = none := by kernel_rfl

/-! ### the walk: a run in the kernel -/
noncomputable def walkKnown_M : List (FuncId × Abs.Memo) := [(12, walkKnown_m2), (10, walkKnown_m1)]
noncomputable def walkKnown_C : Abs.Ctx := Abs.mkCtx Tryz.prog (fun _ => false) walkKnown_absX walkKnown_M
theorem walkKnown_good : Abs.Good walkKnown_C := Abs.good_ofM (Abs.memos_of (M := walkKnown_M) ⟨walkKnown_ok2, walkKnown_ok1, trivial⟩) walkKnown_absValid walkKnown_absNum (Abs.ext_of walkKnown_absExt)
set_option maxRecDepth 100000 in
theorem walkKnown_absRun : Abs.R.chk Abs.retTrue (Abs.enterA walkKnown_C (Abs.runF walkKnown_C 1000000) 4 [] .normal none (Abs.S1 walkKnown_C.nG 0 3)) = true := by kernel_rfl
theorem walkKnown_walk (w : World) {m : Int} {vs : Array Value} (hw : w.heap[(0 : Nat)]? = some (.cells vs 3 (0, 0))) (hv : vs[0]? = some (.int .i64 m)) :
    Calls Tryz.prog 4 #[] w fun e w' => e = .returned (.bool true) ∧ w.keptBut w' (fun _ => False) :=
  Abs.walk_closed1 walkKnown_good walkKnown_absMixed 1000000 (by kernel_rfl) (by kernel_rfl) walkKnown_absRun w hw hv

set_option maxRecDepth 100000 in
theorem walkKnown_lifted (os : Os) (started : os.Started) (H : Type) (enc : TypeId × Value → H) :
    ReturnsInHanded {} Tryz.checked os 4 .any (fun w args => (Rows.walkKnownSpec.pre enc Tryz.prog Tryz.f4 Rows.walkKnownRow.domain false w args ∧ laidMetH Tryz.prog Rows.walkKnownRow.laid w) ∧ sizedMet enc Tryz.prog Tryz.f4 (OpenSpec.ofChange Rows.walkKnownSpec) false w args)
      (Rows.walkKnownSpec.post enc Tryz.prog Tryz.f4 false true false false) := by
  refine Abs.handed_and_shaped (C := Tryz.checked) (X := fun w _ => laidMetH Tryz.prog Rows.walkKnownRow.laid w) (fun _ _ _ hh h => h.of_heap hh) walkKnown_own started (by kernel_rfl) Tryz.func4
    (ChangeSpec.witness_shaped (enc := enc) (C := Tryz.checked) (os := os) (X := fun w _ => laidMetH Tryz.prog Rows.walkKnownRow.laid w) false (World.laidAll Tryz.prog os Rows.walkKnownRow.laid) #[] 8 (World.laidAll_os _ _ _)
      (World.shaped_of_ZipB (by kernel_rfl) (by kernel_rfl)) (by kernel_rfl) (by kernel_rfl) (by kernel_rfl)
      (by rw [MakeChecks.laidMetH_plain _ _ _ (by kernel_rfl)]; exact laidMet_laidAll _ (by kernel_rfl) (by kernel_rfl))) ?_
  intro W base args ds gs before hval0 hW hcnd hsh _
  have hval : ∀ (j : Nat) t v, Tryz.f4.params[j]? = some t → args[j]? = some v → Value.okWide Tryz.prog W .any base t v := hval0
  have hW' := hW
  obtain ⟨p, q, hA0, hV, rfl, hfz, hnd⟩ := hW
  have hA : DataW.TrodAll enc Tryz.prog W 0 (fun _ => true) true Tryz.f4.params.toList args.toList ds p := hA0
  rw [Tryz.params4] at hA hval
  obtain ⟨rfl, rfl, rfl⟩ := trodAll_none hA
  obtain ⟨rfl, rfl⟩ := trodVars_none hV
  clear hA0 hval0
  simp only [List.append_nil] at hW'
  obtain ⟨vs, m, hw, hv⟩ := Abs.int_of_shape (g := 0) (t := 3) hsh (by kernel_rfl) (by kernel_rfl)
    (Go.Proofs.cell_of_shapedOpen_int (zero := #[.int .i64 0]) (t := 3) hsh (of_decide_eq_true (by kernel_rfl)) (by kernel_rfl) rfl (by kernel_rfl) (by kernel_rfl) Tryz.underlying3)
  refine (walkKnown_walk W hw hv).mono fun e W' ⟨he, hg⟩ => ?_
  subst he
  exact ⟨_, rfl, Abs.post_old (pa := []) (pv := []) hW' (fun _ _ _ => (trodAll_cons_mk (shut_bool Tryz.underlying4 _) trodAll_mk0)) (fun sp _ => rfl) (fun _ _ => rfl) rfl
    (Abs.kept_mono hg)⟩

theorem walkKnown_over : Rows.walkKnownRow.holds Tryz.pinned (OpenSpec.ofChange Rows.walkKnownSpec) :=
  OpenClaim.holds_of_wide 4 Tryz.f4 rfl rfl rfl rfl rfl rfl rfl ⟨rfl, rfl, rfl, rfl, rfl⟩ rfl rfl rfl rfl rfl (by kernel_rfl) Tryz.func4 (by kernel_rfl)
    (of_decide_eq_true (by kernel_rfl)) (by unfold Func.isWrapper; first | (rw [if_pos (by decide +kernel)]; kernel_rfl) | (rw [if_neg (by decide +kernel)]; exact ⟨rfl, rfl⟩))
    (fun os started H enc _ => walkKnown_lifted os started H enc)

/-- ████ THE STATEMENT ████ -/
theorem walkKnown_proved : Rows.WalkKnownCardSaid :=
  Claim7.holds_tied_plain_at .later [] Rows.walkKnownCard.laidKinds true Rows.walkKnownCard.stood.harness false walkKnown_over (fun _ h => by cases h) (by kernel_rfl) (fun _ h => by cases h) walkKnown_row_tie rfl ⟨rfl, rfl⟩ (by kernel_rfl) rfl
    (fun f fn hf hfn => by
      obtain rfl : f = 4 := Option.some.inj ((show Tryz.prog.funcNamed Rows.walkKnownRow.func = some 4 by kernel_rfl).symm.trans hf) |>.symm
      obtain rfl : fn = Tryz.f4 := (Option.some.inj (Tryz.func4.symm.trans hfn)).symm
      exact ⟨by kernel_rfl, fun j t ht => by
        rw [Tryz.params4] at ht
        simp at ht⟩)
    (by kernel_rfl)
#print axioms walkKnown_proved
end Go.Proofs.YtojdnhchddidcaaGreatDoor
