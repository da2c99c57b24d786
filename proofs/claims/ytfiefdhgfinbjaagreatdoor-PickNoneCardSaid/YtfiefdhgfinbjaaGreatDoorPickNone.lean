/- The statement 'PickNoneCard' of 'YtfiefdhgfinbjaaGreatDoor' is proved: the law's call returns true. No condition of ours: by runs of the abstract machine in the kernel, which is proved to carry out what the model does; strings.Index by the library's contract. -/
import Derived.Test.YtfiefdhgfinbjaaGreatDoorTie
import Derived.Test.YtfiefdhgfinbjaaGreatDoorCards
import Derived.Test.YtfiefdhgfinbjaaGreatDoorAbs5
import Derived.WalkKit
import Derived.ProofKit
import Derived.OpenShut
import Derived.SevenTiedAt
import Derived.ChangeCalls
import Derived.Shelf.Strings.Search3
import Derived.Shelf.Vars
import Derived.Test.YtfiefdhgfinbjaaGreatDoorPickNoneWalk
import Derived.Test.YtfiefdhgfinbjaaGreatDoorPickNoneFacts5
import Derived.Test.YtfiefdhgfinbjaaGreatDoorPickNoneFacts6
import Derived.Test.YtfiefdhgfinbjaaGreatDoorPickNoneFacts7
namespace Go.Proofs.YtfiefdhgfinbjaaGreatDoor
open Go.ChangeShapes Go.WideShapes Go.ChangeAt Go.RowKit
theorem pickNone_over : Rows.pickNoneRow.holds Tryz.pinned (OpenSpec.ofChange Rows.pickNoneSpec) :=
  OpenClaim.holds_of_wide 3 Tryz.f3 rfl rfl rfl rfl rfl rfl rfl ⟨rfl, rfl, rfl, rfl, rfl⟩ rfl rfl rfl rfl rfl (by kernel_rfl) Tryz.func3 pickNone_facts
    (of_decide_eq_true (by kernel_rfl)) (by unfold Func.isWrapper; first | (rw [if_pos (by decide +kernel)]; kernel_rfl) | (rw [if_neg (by decide +kernel)]; exact ⟨rfl, rfl⟩))
    (fun os started H enc _ => pickNone_lifted os started H enc)

/-- ████ THE STATEMENT ████ -/
theorem pickNone_proved : Rows.PickNoneCardSaid :=
  Claim7.holds_tied_plain_at .later [] Rows.pickNoneCard.laidKinds true Rows.pickNoneCard.stood.harness Rows.pickNoneCard.stood.looks pickNone_over (fun _ h => by cases h) pickNone_hw (fun _ h => by cases h) pickNone_row_tie rfl ⟨rfl, rfl⟩ pickNone_hm rfl
    (fun f fn hf hfn => by
      obtain rfl : f = 3 := Option.some.inj ((show Tryz.prog.funcNamed Rows.pickNoneRow.func = some 3 by kernel_rfl).symm.trans hf) |>.symm
      obtain rfl : fn = Tryz.f3 := (Option.some.inj (Tryz.func3.symm.trans hfn)).symm
      exact ⟨pickNone_lk, fun j t ht => by
        rw [Tryz.params3] at ht
        exact Abs.noStand (ts := [24]) (by kernel_rfl) j t (by rw [← Array.getElem?_toList] at ht; exact ht)⟩)
    pickNone_gb
#print axioms pickNone_proved
end Go.Proofs.YtfiefdhgfinbjaaGreatDoor
