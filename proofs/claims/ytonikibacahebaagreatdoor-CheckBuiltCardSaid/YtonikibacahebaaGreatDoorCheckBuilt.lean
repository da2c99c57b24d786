/- The statement 'CheckBuiltCard' of 'YtonikibacahebaaGreatDoor' is proved: whatever the names and the number, the law's call returns true; the arguments read as they did. No condition of ours: by runs of the abstract machine in the kernel, which is proved to carry out what the model does; strings.Index by the library's contract. -/
import Derived.Test.YtonikibacahebaaGreatDoorTie
import Derived.Test.YtonikibacahebaaGreatDoorCards
import Derived.Test.YtonikibacahebaaGreatDoorAbs5
import Derived.WalkKit
import Derived.ProofKit
import Derived.OpenShut
import Derived.SevenTiedAt
import Derived.ChangeCalls
import Derived.Shelf.Strings.Search3
import Derived.Shelf.Vars
import Derived.Test.YtonikibacahebaaGreatDoorCheckBuiltCases
namespace Go.Proofs.YtonikibacahebaaGreatDoor
open Go.ChangeShapes Go.WideShapes Go.ChangeAt Go.RowKit

theorem checkBuilt_own : ownKnob Tryz.prog.godebug = none := by kernel_rfl

set_option maxRecDepth 100000 in
theorem checkBuilt_door (os : Os) (args : Array Value) : laidMetH Tryz.prog Rows.checkBuiltRow.laid ((World.doorLaid Tryz.prog 400 os).forCall (fun _ _ => 0) ⟨#[], args, []⟩).memory :=
  laidMetH_of_parts3 (fuel := 8) (laidMet_of_run' 8 (by kernel_rfl) (by kernel_rfl)) (by kernel_rfl) (by kernel_rfl)
set_option maxRecDepth 100000 in
theorem checkBuilt_lifted (os : Os) (started : os.Started) (H : Type) (enc : TypeId × Value → H) :
    ReturnsInHanded {} Tryz.checked os 3 .any (fun w args => (Rows.checkBuiltSpec.pre enc Tryz.prog Tryz.f3 Rows.checkBuiltRow.domain false w args ∧ laidMetH Tryz.prog Rows.checkBuiltRow.laid w) ∧ sizedMet enc Tryz.prog Tryz.f3 (OpenSpec.ofChange Rows.checkBuiltSpec) false w args)
      (Rows.checkBuiltSpec.post enc Tryz.prog Tryz.f3 false true false false) := by
  refine Abs.handed_and_shaped (C := Tryz.checked) (X := fun w _ => laidMetH Tryz.prog Rows.checkBuiltRow.laid w) (fun _ _ _ hh h => h.of_heap hh) checkBuilt_own started (by kernel_rfl) Tryz.func3
    (ChangeSpec.witness_shaped (enc := enc) (C := Tryz.checked) (os := os) (X := fun w _ => laidMetH Tryz.prog Rows.checkBuiltRow.laid w) false (World.doorLaid Tryz.prog 400 os) #[.string ⟨#[]⟩, .string ⟨#[]⟩, .int .i64 0] 8 rfl (World.shaped_of_RefB (by kernel_rfl) (by kernel_rfl)) (by kernel_rfl) (by kernel_rfl) (by kernel_rfl) (checkBuilt_door os _)) ?_
  intro W base args ds gs before hval0 hW hcnd hsh _
  have hval : ∀ (j : Nat) t v, Tryz.f3.params[j]? = some t → args[j]? = some v → Value.okWide Tryz.prog W .any base t v := hval0
  have hW' := hW
  obtain ⟨p, q, hA0, hV, rfl, hfz, hnd⟩ := hW
  have hA : DataW.TrodAll enc Tryz.prog W 0 (fun _ => true) true Tryz.f3.params.toList args.toList ds p := hA0
  rw [Tryz.params3] at hA hval
  have hA2 := hA
  obtain ⟨v1, v2, v3, d1, d2, d3, p1, p2, p3, rfl, rfl, -, -, -, -⟩ := trodAll_three hA2
  obtain ⟨s1, rfl⟩ := okWide_string Tryz.underlying9 (hval 0 9 v1 rfl rfl)
  obtain ⟨s2, rfl⟩ := okWide_string Tryz.underlying9 (hval 1 9 v2 rfl rfl)
  obtain ⟨n3, rfl⟩ := okWide_int Tryz.underlying3 (hval 2 3 v3 rfl rfl)
  obtain ⟨rfl, rfl⟩ := trodVars_none hV
  clear hA0 hval0
  simp only [List.append_nil] at hW'
  obtain ⟨vs, m, hw, hv⟩ := Abs.int_of_shape (g := 1) (t := 3) hsh (by kernel_rfl) (by kernel_rfl)
    (Go.Proofs.cell_of_shapedOpen_int (zero := #[.int .i64 0]) (t := 3) hsh (of_decide_eq_true (by kernel_rfl)) (by kernel_rfl) rfl (by kernel_rfl) (by kernel_rfl) Tryz.underlying3)
  refine (checkBuilt_walk W hw hv s1 s2 n3).mono fun e W' ⟨he, hg⟩ => ?_
  subst he
  exact ⟨_, rfl, Abs.post_old (pa := p) (pv := []) hW' (fun _ _ _ => (trodAll_cons_mk (shut_bool Tryz.underlying4 _) trodAll_mk0)) (fun sp hsp => by rw [Tryz.params3]; exact Abs.args_stay (by kernel_rfl) hg (by kernel_rfl) hA (fun x hx => hW'.lt x hx) hsp) (fun _ _ => rfl) (List.append_nil p).symm
    (Abs.kept_mono hg)⟩

theorem checkBuilt_over : Rows.checkBuiltRow.holds Tryz.pinned (OpenSpec.ofChange Rows.checkBuiltSpec) :=
  OpenClaim.holds_of_wide 3 Tryz.f3 rfl rfl rfl rfl rfl rfl rfl ⟨rfl, rfl, rfl, rfl, rfl⟩ rfl rfl rfl rfl rfl (by kernel_rfl) Tryz.func3 (by kernel_rfl)
    (of_decide_eq_true (by kernel_rfl)) (by unfold Func.isWrapper; first | (rw [if_pos (by decide +kernel)]; kernel_rfl) | (rw [if_neg (by decide +kernel)]; exact ⟨rfl, rfl⟩))
    (fun os started H enc _ => checkBuilt_lifted os started H enc)

/-- ████ THE STATEMENT ████ -/
theorem checkBuilt_proved : Rows.CheckBuiltCardSaid :=
  Claim7.holds_tied_plain_at .later [] Rows.checkBuiltCard.laidKinds true Rows.checkBuiltCard.stood.harness Rows.checkBuiltCard.stood.looks checkBuilt_over (fun _ h => by cases h) (by kernel_rfl) (fun _ h => by cases h) checkBuilt_row_tie rfl ⟨rfl, rfl⟩ (by kernel_rfl) rfl
    (fun f fn hf hfn => by
      obtain rfl : f = 3 := Option.some.inj ((show Tryz.prog.funcNamed Rows.checkBuiltRow.func = some 3 by kernel_rfl).symm.trans hf) |>.symm
      obtain rfl : fn = Tryz.f3 := (Option.some.inj (Tryz.func3.symm.trans hfn)).symm
      exact ⟨by kernel_rfl, fun j t ht => by
        rw [Tryz.params3] at ht
        exact Abs.noStand (ts := [9, 9, 3]) (by kernel_rfl) j t (by rw [← Array.getElem?_toList] at ht; exact ht)⟩)
    (by kernel_rfl)
#print axioms checkBuilt_proved
end Go.Proofs.YtonikibacahebaaGreatDoor
