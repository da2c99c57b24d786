/- The statement 'EvalNoneCard' of 'YtfinfkndamhpdaaGreatDoor' is proved: the law's call returns true. No condition of ours: by runs of the abstract machine in the kernel, which is proved to carry out what the model does; strings.Index by the library's contract. -/
import Derived.Test.YtfinfkndamhpdaaGreatDoorTie
import Derived.Test.YtfinfkndamhpdaaGreatDoorCards
import Derived.Test.YtfinfkndamhpdaaGreatDoorAbs5
import Derived.WalkKit
import Derived.ProofKit
import Derived.OpenShut
import Derived.SevenTiedAt
import Derived.ChangeCalls
import Derived.Shelf.Strings.Search3
import Derived.Shelf.Vars
import Derived.Test.YtfinfkndamhpdaaGreatDoorEvalNoneRun2
namespace Go.Proofs.YtfinfkndamhpdaaGreatDoor
open Go.ChangeShapes Go.WideShapes Go.ChangeAt Go.RowKit

theorem evalNone_own : ownKnob Tryz.prog.godebug = none := by kernel_rfl

/-! ### the walk: a run in the kernel -/
noncomputable def evalNone_M : List (FuncId × Abs.Memo) := [(5, evalNone_m5)]
noncomputable def evalNone_C : Abs.Ctx := Abs.mkCtx Tryz.prog (fun _ => false) evalNone_absX evalNone_M
theorem evalNone_good : Abs.Good evalNone_C := Abs.good_ofM (Abs.memos_of (M := evalNone_M) ⟨evalNone_ok5, trivial⟩) evalNone_absValid evalNone_absNum (Abs.ext_of evalNone_absExt)
set_option maxRecDepth 100000 in
noncomputable def evalNone_shs : List Abs.Sh := [.str [Abs.kInt, Abs.kInt, Abs.kAny, Abs.kAny]]
set_option maxRecDepth 100000 in
theorem evalNone_absRun : Abs.R.chk Abs.retTrue (Abs.enterA evalNone_C (Abs.runF evalNone_C 1000000) 4 (Abs.absArgs evalNone_shs evalNone_C.nG) .normal none (Abs.S1a evalNone_C.nG (Abs.shN evalNone_shs) 1 3)) = true := by kernel_rfl
theorem evalNone_walk (w : World) {m : Int} {vs : Array Value} (hw : w.heap[(1 : Nat)]? = some (.cells vs 3 (0, 0))) (hv : vs[0]? = some (.int .i64 m)) {args : Array Value} (hargs : Abs.shsOk evalNone_shs args.toList) :
    Calls Tryz.prog 4 args w fun e w' => e = .returned (.bool true) ∧ w.keptBut w' (fun _ => False) :=
  Abs.walk_args1 evalNone_good evalNone_absMixed 1000000 evalNone_shs (by kernel_rfl) (by kernel_rfl) evalNone_absRun w hw hv hargs

set_option maxRecDepth 100000 in
theorem evalNone_door (os : Os) (args : Array Value) : laidMetH Tryz.prog Rows.evalNoneRow.laid ((World.doorLaid Tryz.prog 400 os).forCall (fun _ _ => 0) ⟨#[], args, []⟩).memory :=
  laidMetH_of_parts3 (fuel := 8) (laidMet_of_run' 8 (by kernel_rfl) (by kernel_rfl)) (by kernel_rfl) (by kernel_rfl)
set_option maxRecDepth 100000 in
theorem evalNone_lifted (os : Os) (started : os.Started) (H : Type) (enc : TypeId × Value → H) :
    ReturnsInHanded {} Tryz.checked os 4 .any (fun w args => (Rows.evalNoneSpec.pre enc Tryz.prog Tryz.f4 Rows.evalNoneRow.domain false w args ∧ laidMetH Tryz.prog Rows.evalNoneRow.laid w) ∧ sizedMet enc Tryz.prog Tryz.f4 (OpenSpec.ofChange Rows.evalNoneSpec) false w args)
      (Rows.evalNoneSpec.post enc Tryz.prog Tryz.f4 false true false false) := by
  refine Abs.handed_and_shaped (C := Tryz.checked) (X := fun w _ => laidMetH Tryz.prog Rows.evalNoneRow.laid w) (fun _ _ _ hh h => h.of_heap hh) evalNone_own started (by kernel_rfl) Tryz.func4
    (ChangeSpec.witness_shaped (enc := enc) (C := Tryz.checked) (os := os) (X := fun w _ => laidMetH Tryz.prog Rows.evalNoneRow.laid w) false (World.doorLaid Tryz.prog 400 os) #[.agg #[.int .i64 0, .int .i64 0, .string ⟨#[]⟩, .slice none 0 0]] 8 rfl (World.shaped_of_RefB (by kernel_rfl) (by kernel_rfl)) (by kernel_rfl) (by kernel_rfl) (by kernel_rfl) (evalNone_door os _)) ?_
  intro W base args ds gs before hval0 hW hcnd hsh hlaid
  have hval : ∀ (j : Nat) t v, Tryz.f4.params[j]? = some t → args[j]? = some v → Value.okWide Tryz.prog W .any base t v := hval0
  have hW' := hW
  obtain ⟨p, q, hA0, hV, rfl, hfz, hnd⟩ := hW
  have hA : DataW.TrodAll enc Tryz.prog W 0 (fun _ => true) true Tryz.f4.params.toList args.toList ds p := hA0
  rw [Tryz.params4] at hA hval
  have hsh0 := Abs.shs_of (l := evalNone_shs) (ts := [26]) (by kernel_rfl) (Go.trodAll_length hA).1 fun j t v h1 h2 => hval j t v (by rw [← Array.getElem?_toList]; exact h1) (by rw [← Array.getElem?_toList]; exact h2)
  have hA2 := hA
  obtain ⟨v1, d1, rfl, rfl, -⟩ := trodAll_one hA2
  obtain ⟨rfl, rfl⟩ := trodVars_none hV
  clear hA0 hval0
  simp only [List.append_nil] at hW'
  obtain ⟨vs, m, hw, hv⟩ := Abs.int_of_shape (g := 1) (t := 3) hsh (by kernel_rfl) (by kernel_rfl)
    (Go.Proofs.cell_of_shapedOpen_int (zero := #[.int .i64 0]) (t := 3) hsh (of_decide_eq_true (by kernel_rfl)) (by kernel_rfl) rfl (by kernel_rfl) (by kernel_rfl) Tryz.underlying3)
  refine (evalNone_walk W hw hv hsh0).mono fun e W' ⟨he, hg⟩ => ?_
  subst he
  exact ⟨_, rfl, Abs.post_old (pa := p) (pv := []) hW' (fun _ _ _ => (trodAll_cons_mk (shut_bool Tryz.underlying4 _) trodAll_mk0)) (fun sp hsp => by rw [Tryz.params4]; exact Abs.args_stay (by kernel_rfl) hg (by kernel_rfl) hA (fun x hx => hW'.lt x hx) hsp) (fun _ _ => rfl) (List.append_nil p).symm
    (Abs.kept_mono hg)⟩

set_option maxHeartbeats 40000000 in
set_option maxRecDepth 100000 in
theorem evalNone_facts : joinedFacts Tryz.pinned.checked.prog 4 Tryz.f4 Rows.evalNoneSpec Rows.evalNoneRow = true := by
  unfold joinedFacts
  simp only [Bool.and_eq_true]
  repeat' apply And.intro
  all_goals as_aux_lemma => kernel_rfl
theorem evalNone_over : Rows.evalNoneRow.holds Tryz.pinned (OpenSpec.ofChange Rows.evalNoneSpec) :=
  OpenClaim.holds_of_wide 4 Tryz.f4 rfl rfl rfl rfl rfl rfl rfl ⟨rfl, rfl, rfl, rfl, rfl⟩ rfl rfl rfl rfl rfl (by kernel_rfl) Tryz.func4 evalNone_facts
    (of_decide_eq_true (by kernel_rfl)) (by unfold Func.isWrapper; first | (rw [if_pos (by decide +kernel)]; kernel_rfl) | (rw [if_neg (by decide +kernel)]; exact ⟨rfl, rfl⟩))
    (fun os started H enc _ => evalNone_lifted os started H enc)

/-- ████ THE STATEMENT ████ -/
theorem evalNone_proved : Rows.EvalNoneCardSaid :=
  Claim7.holds_tied_plain_at .later [] Rows.evalNoneCard.laidKinds true Rows.evalNoneCard.stood.harness Rows.evalNoneCard.stood.looks evalNone_over (fun _ h => by cases h) (by kernel_rfl) (fun _ h => by cases h) evalNone_row_tie rfl ⟨rfl, rfl⟩ (by kernel_rfl) rfl
    (fun f fn hf hfn => by
      obtain rfl : f = 4 := Option.some.inj ((show Tryz.prog.funcNamed Rows.evalNoneRow.func = some 4 by kernel_rfl).symm.trans hf) |>.symm
      obtain rfl : fn = Tryz.f4 := (Option.some.inj (Tryz.func4.symm.trans hfn)).symm
      exact ⟨by kernel_rfl, fun j t ht => by
        rw [Tryz.params4] at ht
        exact Abs.noStand (ts := [26]) (by kernel_rfl) j t (by rw [← Array.getElem?_toList] at ht; exact ht)⟩)
    (by kernel_rfl)
#print axioms evalNone_proved
end Go.Proofs.YtfinfkndamhpdaaGreatDoor
