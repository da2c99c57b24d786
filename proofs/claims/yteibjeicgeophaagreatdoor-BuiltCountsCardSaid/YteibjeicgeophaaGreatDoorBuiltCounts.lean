/- The statement 'BuiltCountsCard' of 'YteibjeicgeophaaGreatDoor' is proved: the law's call returns true. No condition of ours: by runs of the abstract machine in the kernel, which is proved to carry out what the model does; strings.Index by the library's contract. -/
import Derived.Test.YteibjeicgeophaaGreatDoorTie
import Derived.Test.YteibjeicgeophaaGreatDoorCards
import Derived.Test.YteibjeicgeophaaGreatDoorAbs7
import Derived.WalkKit
import Derived.ProofKit
import Derived.OpenShut
import Derived.SevenTiedAt
import Derived.ChangeCalls
import Derived.Shelf.Strings.Search3
import Derived.Shelf.Vars
import Derived.Test.YteibjeicgeophaaGreatDoorBuiltCountsWalk
import Derived.Test.YteibjeicgeophaaGreatDoorBuiltCountsFacts5
import Derived.Test.YteibjeicgeophaaGreatDoorBuiltCountsFacts6
import Derived.Test.YteibjeicgeophaaGreatDoorBuiltCountsFacts7
namespace Go.Proofs.YteibjeicgeophaaGreatDoor
open Go.ChangeShapes Go.WideShapes Go.ChangeAt Go.RowKit
theorem builtCounts_over : Rows.builtCountsRow.holds Tryz.pinned (OpenSpec.ofChange Rows.builtCountsSpec) :=
  OpenClaim.holds_of_wide 3 Tryz.f3 rfl rfl rfl rfl rfl rfl rfl ⟨rfl, rfl, rfl, rfl, rfl⟩ rfl rfl rfl rfl rfl (by kernel_rfl) Tryz.func3 builtCounts_facts
    (of_decide_eq_true (by kernel_rfl)) (by unfold Func.isWrapper; first | (rw [if_pos (by decide +kernel)]; kernel_rfl) | (rw [if_neg (by decide +kernel)]; exact ⟨rfl, rfl⟩))
    (fun os started H enc _ => builtCounts_lifted os started H enc)

/-- ████ THE STATEMENT ████ -/
theorem builtCounts_proved : Rows.BuiltCountsCardSaid :=
  Claim7.holds_tied_plain_at .later [] Rows.builtCountsCard.laidKinds true Rows.builtCountsCard.stood.harness Rows.builtCountsCard.stood.looks builtCounts_over (fun _ h => by cases h) builtCounts_hw (fun _ h => by cases h) builtCounts_row_tie rfl ⟨rfl, rfl⟩ builtCounts_hm rfl
    (fun f fn hf hfn => by
      obtain rfl : f = 3 := Option.some.inj ((show Tryz.prog.funcNamed Rows.builtCountsRow.func = some 3 by kernel_rfl).symm.trans hf) |>.symm
      obtain rfl : fn = Tryz.f3 := (Option.some.inj (Tryz.func3.symm.trans hfn)).symm
      exact ⟨builtCounts_lk, fun j t ht => by
        rw [Tryz.params3] at ht
        exact Abs.noStand (ts := [22]) (by kernel_rfl) j t (by rw [← Array.getElem?_toList] at ht; exact ht)⟩)
    builtCounts_gb
#print axioms builtCounts_proved
end Go.Proofs.YteibjeicgeophaaGreatDoor
