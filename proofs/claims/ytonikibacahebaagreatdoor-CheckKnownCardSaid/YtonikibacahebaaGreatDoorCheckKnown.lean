/- The statement 'CheckKnownCard' of 'YtonikibacahebaaGreatDoor' is proved: the law's call returns true. No condition of ours: by runs of the abstract machine in the kernel, which is proved to carry out what the model does; strings.Index by the library's contract. -/
import Derived.Test.YtonikibacahebaaGreatDoorTie
import Derived.Test.YtonikibacahebaaGreatDoorCards
import Derived.Test.YtonikibacahebaaGreatDoorAbs5
import Derived.WalkKit
import Derived.ProofKit
import Derived.OpenShut
import Derived.SevenTiedAt
import Derived.ChangeCalls
import Derived.Shelf.Strings.Search3
import Derived.Shelf.Vars
import Derived.Test.YtonikibacahebaaGreatDoorCheckKnownRun3
namespace Go.Proofs.YtonikibacahebaaGreatDoor
open Go.ChangeShapes Go.WideShapes Go.ChangeAt Go.RowKit

theorem checkKnown_own : ownKnob Tryz.prog.godebug = none := by kernel_rfl

/-! ### the walk: a run in the kernel -/
noncomputable def checkKnown_M : List (FuncId × Abs.Memo) := [(7, checkKnown_m14), (20, checkKnown_m10), (18, checkKnown_m9), (20, checkKnown_m7), (22, checkKnown_m6), (20, checkKnown_m5), (22, checkKnown_m4), (20, checkKnown_m3), (22, checkKnown_m2), (20, checkKnown_m1), (22, checkKnown_m0)]
noncomputable def checkKnown_C : Abs.Ctx := Abs.mkCtx Tryz.prog (fun _ => false) checkKnown_absX checkKnown_M
theorem checkKnown_good : Abs.Good checkKnown_C := Abs.good_ofM (Abs.memos_of (M := checkKnown_M) ⟨checkKnown_ok14, checkKnown_ok10, checkKnown_ok9, checkKnown_ok7, checkKnown_ok6, checkKnown_ok5, checkKnown_ok4, checkKnown_ok3, checkKnown_ok2, checkKnown_ok1, checkKnown_ok0, trivial⟩) checkKnown_absValid checkKnown_absNum (Abs.ext_of checkKnown_absExt)
set_option maxRecDepth 100000 in
theorem checkKnown_absRun : Abs.R.chk Abs.retTrue (Abs.enterA checkKnown_C (Abs.runF checkKnown_C 1000000) 4 [] .normal none (Abs.S1 checkKnown_C.nG 1 3)) = true := by kernel_rfl
theorem checkKnown_walk (w : World) {m : Int} {vs : Array Value} (hw : w.heap[(1 : Nat)]? = some (.cells vs 3 (0, 0))) (hv : vs[0]? = some (.int .i64 m)) :
    Calls Tryz.prog 4 #[] w fun e w' => e = .returned (.bool true) ∧ w.keptBut w' (fun _ => False) :=
  Abs.walk_closed1 checkKnown_good checkKnown_absMixed 1000000 (by kernel_rfl) (by kernel_rfl) checkKnown_absRun w hw hv

set_option maxRecDepth 100000 in
theorem checkKnown_door (os : Os) (args : Array Value) : laidMetH Tryz.prog Rows.checkKnownRow.laid ((World.doorLaid Tryz.prog 400 os).forCall (fun _ _ => 0) ⟨#[], args, []⟩).memory :=
  laidMetH_of_parts3 (fuel := 8) (laidMet_of_run' 8 (by kernel_rfl) (by kernel_rfl)) (by kernel_rfl) (by kernel_rfl)
set_option maxRecDepth 100000 in
theorem checkKnown_lifted (os : Os) (started : os.Started) (H : Type) (enc : TypeId × Value → H) :
    ReturnsInHanded {} Tryz.checked os 4 .any (fun w args => (Rows.checkKnownSpec.pre enc Tryz.prog Tryz.f4 Rows.checkKnownRow.domain false w args ∧ laidMetH Tryz.prog Rows.checkKnownRow.laid w) ∧ sizedMet enc Tryz.prog Tryz.f4 (OpenSpec.ofChange Rows.checkKnownSpec) false w args)
      (Rows.checkKnownSpec.post enc Tryz.prog Tryz.f4 false true false false) := by
  refine Abs.handed_and_shaped (C := Tryz.checked) (X := fun w _ => laidMetH Tryz.prog Rows.checkKnownRow.laid w) (fun _ _ _ hh h => h.of_heap hh) checkKnown_own started (by kernel_rfl) Tryz.func4
    (ChangeSpec.witness_shaped (enc := enc) (C := Tryz.checked) (os := os) (X := fun w _ => laidMetH Tryz.prog Rows.checkKnownRow.laid w) false (World.doorLaid Tryz.prog 400 os) #[] 8 rfl (World.shaped_of_RefB (by kernel_rfl) (by kernel_rfl)) (by kernel_rfl) (by kernel_rfl) (by kernel_rfl) (checkKnown_door os _)) ?_
  intro W base args ds gs before hval0 hW hcnd hsh hlaid
  have hval : ∀ (j : Nat) t v, Tryz.f4.params[j]? = some t → args[j]? = some v → Value.okWide Tryz.prog W .any base t v := hval0
  have hW' := hW
  obtain ⟨p, q, hA0, hV, rfl, hfz, hnd⟩ := hW
  have hA : DataW.TrodAll enc Tryz.prog W 0 (fun _ => true) true Tryz.f4.params.toList args.toList ds p := hA0
  rw [Tryz.params4] at hA hval
  obtain ⟨rfl, rfl, rfl⟩ := trodAll_none hA
  obtain ⟨rfl, rfl⟩ := trodVars_none hV
  clear hA0 hval0
  simp only [List.append_nil] at hW'
  obtain ⟨vs, m, hw, hv⟩ := Abs.int_of_shape (g := 1) (t := 3) hsh (by kernel_rfl) (by kernel_rfl)
    (Go.Proofs.cell_of_shapedOpen_int (zero := #[.int .i64 0]) (t := 3) hsh (of_decide_eq_true (by kernel_rfl)) (by kernel_rfl) rfl (by kernel_rfl) (by kernel_rfl) Tryz.underlying3)
  refine (checkKnown_walk W hw hv).mono fun e W' ⟨he, hg⟩ => ?_
  subst he
  exact ⟨_, rfl, Abs.post_old (pa := []) (pv := []) hW' (fun _ _ _ => (trodAll_cons_mk (shut_bool Tryz.underlying4 _) trodAll_mk0)) (fun sp _ => rfl) (fun _ _ => rfl) rfl
    (Abs.kept_mono hg)⟩

theorem checkKnown_over : Rows.checkKnownRow.holds Tryz.pinned (OpenSpec.ofChange Rows.checkKnownSpec) :=
  OpenClaim.holds_of_wide 4 Tryz.f4 rfl rfl rfl rfl rfl rfl rfl ⟨rfl, rfl, rfl, rfl, rfl⟩ rfl rfl rfl rfl rfl (by kernel_rfl) Tryz.func4 (by kernel_rfl)
    (of_decide_eq_true (by kernel_rfl)) (by unfold Func.isWrapper; first | (rw [if_pos (by decide +kernel)]; kernel_rfl) | (rw [if_neg (by decide +kernel)]; exact ⟨rfl, rfl⟩))
    (fun os started H enc _ => checkKnown_lifted os started H enc)

/-- ████ THE STATEMENT ████ -/
theorem checkKnown_proved : Rows.CheckKnownCardSaid :=
  Claim7.holds_tied_plain_at .later [] Rows.checkKnownCard.laidKinds true Rows.checkKnownCard.stood.harness Rows.checkKnownCard.stood.looks checkKnown_over (fun _ h => by cases h) (by kernel_rfl) (fun _ h => by cases h) checkKnown_row_tie rfl ⟨rfl, rfl⟩ (by kernel_rfl) rfl
    (fun f fn hf hfn => by
      obtain rfl : f = 4 := Option.some.inj ((show Tryz.prog.funcNamed Rows.checkKnownRow.func = some 4 by kernel_rfl).symm.trans hf) |>.symm
      obtain rfl : fn = Tryz.f4 := (Option.some.inj (Tryz.func4.symm.trans hfn)).symm
      exact ⟨by kernel_rfl, fun j t ht => by
        rw [Tryz.params4] at ht
        simp at ht⟩)
    (by kernel_rfl)
#print axioms checkKnown_proved
end Go.Proofs.YtonikibacahebaaGreatDoor
