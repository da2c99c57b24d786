/- The statement 'EvalKnownCard' of 'YtfinfkndamhpdaaGreatDoor' is proved: the law's call returns true. No condition of ours: by runs of the abstract machine in the kernel, which is proved to carry out what the model does; strings.Index by the library's contract. -/
import Derived.Test.YtfinfkndamhpdaaGreatDoorTie
import Derived.Test.YtfinfkndamhpdaaGreatDoorCards
import Derived.Test.YtfinfkndamhpdaaGreatDoorAbs5
import Derived.WalkKit
import Derived.ProofKit
import Derived.OpenShut
import Derived.SevenTiedAt
import Derived.ChangeCalls
import Derived.Shelf.Strings.Search3
import Derived.Shelf.Vars
import Derived.Test.YtfinfkndamhpdaaGreatDoorEvalKnownRun3
namespace Go.Proofs.YtfinfkndamhpdaaGreatDoor
open Go.ChangeShapes Go.WideShapes Go.ChangeAt Go.RowKit

theorem evalKnown_own : ownKnob Tryz.prog.godebug = none := by kernel_rfl

/-! ### the walk: a run in the kernel -/
noncomputable def evalKnown_M : List (FuncId × Abs.Memo) := [(5, evalKnown_m11), (5, evalKnown_m5)]
noncomputable def evalKnown_C : Abs.Ctx := Abs.mkCtx Tryz.prog (fun _ => false) evalKnown_absX evalKnown_M
theorem evalKnown_good : Abs.Good evalKnown_C := Abs.good_ofM (Abs.memos_of (M := evalKnown_M) ⟨evalKnown_ok11, evalKnown_ok5, trivial⟩) evalKnown_absValid evalKnown_absNum (Abs.ext_of evalKnown_absExt)
set_option maxRecDepth 100000 in
theorem evalKnown_absRun : Abs.R.chk Abs.retTrue (Abs.enterA evalKnown_C (Abs.runF evalKnown_C 1000000) 3 [] .normal none (Abs.S1 evalKnown_C.nG 1 3)) = true := by kernel_rfl
theorem evalKnown_walk (w : World) {m : Int} {vs : Array Value} (hw : w.heap[(1 : Nat)]? = some (.cells vs 3 (0, 0))) (hv : vs[0]? = some (.int .i64 m)) :
    Calls Tryz.prog 3 #[] w fun e w' => e = .returned (.bool true) ∧ w.keptBut w' (fun _ => False) :=
  Abs.walk_closed1 evalKnown_good evalKnown_absMixed 1000000 (by kernel_rfl) (by kernel_rfl) evalKnown_absRun w hw hv

set_option maxRecDepth 100000 in
theorem evalKnown_door (os : Os) (args : Array Value) : laidMetH Tryz.prog Rows.evalKnownRow.laid ((World.doorLaid Tryz.prog 400 os).forCall (fun _ _ => 0) ⟨#[], args, []⟩).memory :=
  laidMetH_of_parts3 (fuel := 8) (laidMet_of_run' 8 (by kernel_rfl) (by kernel_rfl)) (by kernel_rfl) (by kernel_rfl)
set_option maxRecDepth 100000 in
theorem evalKnown_lifted (os : Os) (started : os.Started) (H : Type) (enc : TypeId × Value → H) :
    ReturnsInHanded {} Tryz.checked os 3 .any (fun w args => (Rows.evalKnownSpec.pre enc Tryz.prog Tryz.f3 Rows.evalKnownRow.domain false w args ∧ laidMetH Tryz.prog Rows.evalKnownRow.laid w) ∧ sizedMet enc Tryz.prog Tryz.f3 (OpenSpec.ofChange Rows.evalKnownSpec) false w args)
      (Rows.evalKnownSpec.post enc Tryz.prog Tryz.f3 false true false false) := by
  refine Abs.handed_and_shaped (C := Tryz.checked) (X := fun w _ => laidMetH Tryz.prog Rows.evalKnownRow.laid w) (fun _ _ _ hh h => h.of_heap hh) evalKnown_own started (by kernel_rfl) Tryz.func3
    (ChangeSpec.witness_shaped (enc := enc) (C := Tryz.checked) (os := os) (X := fun w _ => laidMetH Tryz.prog Rows.evalKnownRow.laid w) false (World.doorLaid Tryz.prog 400 os) #[] 8 rfl (World.shaped_of_RefB (by kernel_rfl) (by kernel_rfl)) (by kernel_rfl) (by kernel_rfl) (by kernel_rfl) (evalKnown_door os _)) ?_
  intro W base args ds gs before hval0 hW hcnd hsh hlaid
  have hval : ∀ (j : Nat) t v, Tryz.f3.params[j]? = some t → args[j]? = some v → Value.okWide Tryz.prog W .any base t v := hval0
  have hW' := hW
  obtain ⟨p, q, hA0, hV, rfl, hfz, hnd⟩ := hW
  have hA : DataW.TrodAll enc Tryz.prog W 0 (fun _ => true) true Tryz.f3.params.toList args.toList ds p := hA0
  rw [Tryz.params3] at hA hval
  obtain ⟨rfl, rfl, rfl⟩ := trodAll_none hA
  obtain ⟨rfl, rfl⟩ := trodVars_none hV
  clear hA0 hval0
  simp only [List.append_nil] at hW'
  obtain ⟨vs, m, hw, hv⟩ := Abs.int_of_shape (g := 1) (t := 3) hsh (by kernel_rfl) (by kernel_rfl)
    (Go.Proofs.cell_of_shapedOpen_int (zero := #[.int .i64 0]) (t := 3) hsh (of_decide_eq_true (by kernel_rfl)) (by kernel_rfl) rfl (by kernel_rfl) (by kernel_rfl) Tryz.underlying3)
  refine (evalKnown_walk W hw hv).mono fun e W' ⟨he, hg⟩ => ?_
  subst he
  exact ⟨_, rfl, Abs.post_old (pa := []) (pv := []) hW' (fun _ _ _ => (trodAll_cons_mk (shut_bool Tryz.underlying4 _) trodAll_mk0)) (fun sp _ => rfl) (fun _ _ => rfl) rfl
    (Abs.kept_mono hg)⟩

set_option maxHeartbeats 40000000 in
set_option maxRecDepth 100000 in
theorem evalKnown_facts : joinedFacts Tryz.pinned.checked.prog 3 Tryz.f3 Rows.evalKnownSpec Rows.evalKnownRow = true := by
  unfold joinedFacts
  simp only [Bool.and_eq_true]
  repeat' apply And.intro
  all_goals as_aux_lemma => kernel_rfl
theorem evalKnown_over : Rows.evalKnownRow.holds Tryz.pinned (OpenSpec.ofChange Rows.evalKnownSpec) :=
  OpenClaim.holds_of_wide 3 Tryz.f3 rfl rfl rfl rfl rfl rfl rfl ⟨rfl, rfl, rfl, rfl, rfl⟩ rfl rfl rfl rfl rfl (by kernel_rfl) Tryz.func3 evalKnown_facts
    (of_decide_eq_true (by kernel_rfl)) (by unfold Func.isWrapper; first | (rw [if_pos (by decide +kernel)]; kernel_rfl) | (rw [if_neg (by decide +kernel)]; exact ⟨rfl, rfl⟩))
    (fun os started H enc _ => evalKnown_lifted os started H enc)

/-- ████ THE STATEMENT ████ -/
theorem evalKnown_proved : Rows.EvalKnownCardSaid :=
  Claim7.holds_tied_plain_at .later [] Rows.evalKnownCard.laidKinds true Rows.evalKnownCard.stood.harness Rows.evalKnownCard.stood.looks evalKnown_over (fun _ h => by cases h) (by kernel_rfl) (fun _ h => by cases h) evalKnown_row_tie rfl ⟨rfl, rfl⟩ (by kernel_rfl) rfl
    (fun f fn hf hfn => by
      obtain rfl : f = 3 := Option.some.inj ((show Tryz.prog.funcNamed Rows.evalKnownRow.func = some 3 by kernel_rfl).symm.trans hf) |>.symm
      obtain rfl : fn = Tryz.f3 := (Option.some.inj (Tryz.func3.symm.trans hfn)).symm
      exact ⟨by kernel_rfl, fun j t ht => by
        rw [Tryz.params3] at ht
        simp at ht⟩)
    (by kernel_rfl)
#print axioms evalKnown_proved
end Go.Proofs.YtfinfkndamhpdaaGreatDoor
