/- The statement 'PickKnownCard' of 'YtfiefdhgfinbjaaGreatDoor' is proved: the law's call returns true. No condition of ours: by runs of the abstract machine in the kernel, which is proved to carry out what the model does; strings.Index by the library's contract. -/
import Derived.Test.YtfiefdhgfinbjaaGreatDoorTie
import Derived.Test.YtfiefdhgfinbjaaGreatDoorCards
import Derived.Test.YtfiefdhgfinbjaaGreatDoorAbs5
import Derived.WalkKit
import Derived.ProofKit
import Derived.OpenShut
import Derived.SevenTiedAt
import Derived.ChangeCalls
import Derived.Shelf.Strings.Search3
import Derived.Shelf.Vars
import Derived.Test.YtfiefdhgfinbjaaGreatDoorPickKnownWalk
import Derived.Test.YtfiefdhgfinbjaaGreatDoorPickKnownFacts5
import Derived.Test.YtfiefdhgfinbjaaGreatDoorPickKnownFacts6
import Derived.Test.YtfiefdhgfinbjaaGreatDoorPickKnownFacts7
namespace Go.Proofs.YtfiefdhgfinbjaaGreatDoor
open Go.ChangeShapes Go.WideShapes Go.ChangeAt Go.RowKit
theorem pickKnown_over : Rows.pickKnownRow.holds Tryz.pinned (OpenSpec.ofChange Rows.pickKnownSpec) :=
  OpenClaim.holds_of_wide 4 Tryz.f4 rfl rfl rfl rfl rfl rfl rfl ⟨rfl, rfl, rfl, rfl, rfl⟩ rfl rfl rfl rfl rfl (by kernel_rfl) Tryz.func4 pickKnown_facts
    (of_decide_eq_true (by kernel_rfl)) (by unfold Func.isWrapper; first | (rw [if_pos (by decide +kernel)]; kernel_rfl) | (rw [if_neg (by decide +kernel)]; exact ⟨rfl, rfl⟩))
    (fun os started H enc _ => pickKnown_lifted os started H enc)

/-- ████ THE STATEMENT ████ -/
theorem pickKnown_proved : Rows.PickKnownCardSaid :=
  Claim7.holds_tied_plain_at .later [] Rows.pickKnownCard.laidKinds true Rows.pickKnownCard.stood.harness Rows.pickKnownCard.stood.looks pickKnown_over (fun _ h => by cases h) pickKnown_hw (fun _ h => by cases h) pickKnown_row_tie rfl ⟨rfl, rfl⟩ pickKnown_hm rfl
    (fun f fn hf hfn => by
      obtain rfl : f = 4 := Option.some.inj ((show Tryz.prog.funcNamed Rows.pickKnownRow.func = some 4 by kernel_rfl).symm.trans hf) |>.symm
      obtain rfl : fn = Tryz.f4 := (Option.some.inj (Tryz.func4.symm.trans hfn)).symm
      exact ⟨pickKnown_lk, fun j t ht => by
        rw [Tryz.params4] at ht
        simp at ht⟩)
    pickKnown_gb
#print axioms pickKnown_proved
end Go.Proofs.YtfiefdhgfinbjaaGreatDoor
