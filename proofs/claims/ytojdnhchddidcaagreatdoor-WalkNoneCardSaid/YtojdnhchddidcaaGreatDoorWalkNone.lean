/- The statement 'WalkNoneCard' of 'YtojdnhchddidcaaGreatDoor' is proved: the law's call returns true. No condition of ours: by runs of the abstract machine in the kernel, which is proved to carry out what the model does; strings.Index by the library's contract. -/
import Derived.Test.YtojdnhchddidcaaGreatDoorTie
import Derived.Test.YtojdnhchddidcaaGreatDoorCards
import Derived.Test.YtojdnhchddidcaaGreatDoorAbs5
import Derived.WalkKit
import Derived.ProofKit
import Derived.OpenShut
import Derived.SevenTiedAt
import Derived.ChangeCalls
import Derived.Shelf.Strings.Search3
import Derived.Shelf.Vars
import Derived.Test.YtojdnhchddidcaaGreatDoorWalkNoneRun1
namespace Go.Proofs.YtojdnhchddidcaaGreatDoor
open Go.ChangeShapes Go.WideShapes Go.ChangeAt Go.RowKit

theorem walkNone_own : ownKnob Tryz.prog.godebug = none := by kernel_rfl

/-! ### the walk: a run in the kernel -/
noncomputable def walkNone_M : List (FuncId × Abs.Memo) := [(10, walkNone_m2)]
noncomputable def walkNone_C : Abs.Ctx := Abs.mkCtx Tryz.prog (fun _ => false) walkNone_absX walkNone_M
theorem walkNone_good : Abs.Good walkNone_C := Abs.good_ofM (Abs.memos_of (M := walkNone_M) ⟨walkNone_ok2, trivial⟩) walkNone_absValid walkNone_absNum (Abs.ext_of walkNone_absExt)
set_option maxRecDepth 100000 in
noncomputable def walkNone_shs : List Abs.Sh := [.str [true, true, false, false]]
set_option maxRecDepth 100000 in
theorem walkNone_absRun : Abs.R.chk Abs.retTrue (Abs.enterA walkNone_C (Abs.runF walkNone_C 1000000) 3 (Abs.absArgs walkNone_shs walkNone_C.nG) .normal none (Abs.S1a walkNone_C.nG (Abs.shN walkNone_shs) 0 3)) = true := by kernel_rfl
theorem walkNone_walk (w : World) {m : Int} {vs : Array Value} (hw : w.heap[(0 : Nat)]? = some (.cells vs 3 (0, 0))) (hv : vs[0]? = some (.int .i64 m)) {args : Array Value} (hargs : Abs.shsOk walkNone_shs args.toList) :
    Calls Tryz.prog 3 args w fun e w' => e = .returned (.bool true) ∧ w.keptBut w' (fun _ => False) :=
  Abs.walk_args1 walkNone_good walkNone_absMixed 1000000 walkNone_shs (by kernel_rfl) (by kernel_rfl) walkNone_absRun w hw hv hargs

set_option maxRecDepth 100000 in
theorem walkNone_lifted (os : Os) (started : os.Started) (H : Type) (enc : TypeId × Value → H) :
    ReturnsInHanded {} Tryz.checked os 3 .any (fun w args => (Rows.walkNoneSpec.pre enc Tryz.prog Tryz.f3 Rows.walkNoneRow.domain false w args ∧ laidMetH Tryz.prog Rows.walkNoneRow.laid w) ∧ sizedMet enc Tryz.prog Tryz.f3 (OpenSpec.ofChange Rows.walkNoneSpec) false w args)
      (Rows.walkNoneSpec.post enc Tryz.prog Tryz.f3 false true false false) := by
  refine Abs.handed_and_shaped (C := Tryz.checked) (X := fun w _ => laidMetH Tryz.prog Rows.walkNoneRow.laid w) (fun _ _ _ hh h => h.of_heap hh) walkNone_own started (by kernel_rfl) Tryz.func3
    (ChangeSpec.witness_shaped (enc := enc) (C := Tryz.checked) (os := os) (X := fun w _ => laidMetH Tryz.prog Rows.walkNoneRow.laid w) false (World.laidAll Tryz.prog os Rows.walkNoneRow.laid) #[.agg #[.int .i64 0, .int .i64 0, .string ⟨#[]⟩, .slice none 0 0]] 8 (World.laidAll_os _ _ _)
      (World.shaped_of_ZipB (by kernel_rfl) (by kernel_rfl)) (by kernel_rfl) (by kernel_rfl) (by kernel_rfl)
      (by rw [MakeChecks.laidMetH_plain _ _ _ (by kernel_rfl)]; exact laidMet_laidAll _ (by kernel_rfl) (by kernel_rfl))) ?_
  intro W base args ds gs before hval0 hW hcnd hsh _
  have hval : ∀ (j : Nat) t v, Tryz.f3.params[j]? = some t → args[j]? = some v → Value.okWide Tryz.prog W .any base t v := hval0
  have hW' := hW
  obtain ⟨p, q, hA0, hV, rfl, hfz, hnd⟩ := hW
  have hA : DataW.TrodAll enc Tryz.prog W 0 (fun _ => true) true Tryz.f3.params.toList args.toList ds p := hA0
  rw [Tryz.params3] at hA hval
  have hsh0 := Abs.shs_of (l := walkNone_shs) (ts := [24]) (by kernel_rfl) (Go.trodAll_length hA).1 fun j t v h1 h2 => hval j t v (by rw [← Array.getElem?_toList]; exact h1) (by rw [← Array.getElem?_toList]; exact h2)
  have hA2 := hA
  obtain ⟨v1, d1, rfl, rfl, -⟩ := trodAll_one hA2
  obtain ⟨rfl, rfl⟩ := trodVars_none hV
  clear hA0 hval0
  simp only [List.append_nil] at hW'
  obtain ⟨vs, m, hw, hv⟩ := Abs.int_of_shape (g := 0) (t := 3) hsh (by kernel_rfl) (by kernel_rfl)
    (Go.Proofs.cell_of_shapedOpen_int (zero := #[.int .i64 0]) (t := 3) hsh (of_decide_eq_true (by kernel_rfl)) (by kernel_rfl) rfl (by kernel_rfl) (by kernel_rfl) Tryz.underlying3)
  refine (walkNone_walk W hw hv hsh0).mono fun e W' ⟨he, hg⟩ => ?_
  subst he
  exact ⟨_, rfl, Abs.post_old (pa := p) (pv := []) hW' (fun _ _ _ => (trodAll_cons_mk (shut_bool Tryz.underlying4 _) trodAll_mk0)) (fun sp hsp => by rw [Tryz.params3]; exact Abs.args_stay (by kernel_rfl) hg (by kernel_rfl) hA (fun x hx => hW'.lt x hx) hsp) (fun _ _ => rfl) (List.append_nil p).symm
    (Abs.kept_mono hg)⟩

theorem walkNone_over : Rows.walkNoneRow.holds Tryz.pinned (OpenSpec.ofChange Rows.walkNoneSpec) :=
  OpenClaim.holds_of_wide 3 Tryz.f3 rfl rfl rfl rfl rfl rfl rfl ⟨rfl, rfl, rfl, rfl, rfl⟩ rfl rfl rfl rfl rfl (by kernel_rfl) Tryz.func3 (by kernel_rfl)
    (of_decide_eq_true (by kernel_rfl)) (by unfold Func.isWrapper; first | (rw [if_pos (by decide +kernel)]; kernel_rfl) | (rw [if_neg (by decide +kernel)]; exact ⟨rfl, rfl⟩))
    (fun os started H enc _ => walkNone_lifted os started H enc)

/-- ████ THE STATEMENT ████ -/
theorem walkNone_proved : Rows.WalkNoneCardSaid :=
  Claim7.holds_tied_plain_at .later [] Rows.walkNoneCard.laidKinds true Rows.walkNoneCard.stood.harness false walkNone_over (fun _ h => by cases h) (by kernel_rfl) (fun _ h => by cases h) walkNone_row_tie rfl ⟨rfl, rfl⟩ (by kernel_rfl) rfl
    (fun f fn hf hfn => by
      obtain rfl : f = 3 := Option.some.inj ((show Tryz.prog.funcNamed Rows.walkNoneRow.func = some 3 by kernel_rfl).symm.trans hf) |>.symm
      obtain rfl : fn = Tryz.f3 := (Option.some.inj (Tryz.func3.symm.trans hfn)).symm
      exact ⟨by kernel_rfl, fun j t ht => by
        rw [Tryz.params3] at ht
        exact Abs.noStand (ts := [24]) (by kernel_rfl) j t (by rw [← Array.getElem?_toList] at ht; exact ht)⟩)
    (by kernel_rfl)
#print axioms walkNone_proved
end Go.Proofs.YtojdnhchddidcaaGreatDoor
