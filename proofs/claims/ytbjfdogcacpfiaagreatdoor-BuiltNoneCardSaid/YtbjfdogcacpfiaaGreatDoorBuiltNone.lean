/- The statement 'BuiltNoneCard' of 'YtbjfdogcacpfiaaGreatDoor' is proved: the law's call returns true. No condition of ours: by runs of the abstract machine in the kernel, which is proved to carry out what the model does; strings.Index by the library's contract. -/
import Derived.Test.YtbjfdogcacpfiaaGreatDoorTie
import Derived.Test.YtbjfdogcacpfiaaGreatDoorCards
import Derived.Test.YtbjfdogcacpfiaaGreatDoorAbs5
import Derived.WalkKit
import Derived.ProofKit
import Derived.OpenShut
import Derived.SevenTiedAt
import Derived.ChangeCalls
import Derived.Shelf.Strings.Search3
import Derived.Shelf.Vars
import Derived.Test.YtbjfdogcacpfiaaGreatDoorBuiltNoneWalk
import Derived.Test.YtbjfdogcacpfiaaGreatDoorBuiltNoneFacts5
import Derived.Test.YtbjfdogcacpfiaaGreatDoorBuiltNoneFacts6
import Derived.Test.YtbjfdogcacpfiaaGreatDoorBuiltNoneFacts7
namespace Go.Proofs.YtbjfdogcacpfiaaGreatDoor
open Go.ChangeShapes Go.WideShapes Go.ChangeAt Go.RowKit
theorem builtNone_over : Rows.builtNoneRow.holds Tryz.pinned (OpenSpec.ofChange Rows.builtNoneSpec) :=
  OpenClaim.holds_of_wide 4 Tryz.f4 rfl rfl rfl rfl rfl rfl rfl ⟨rfl, rfl, rfl, rfl, rfl⟩ rfl rfl rfl rfl rfl (by kernel_rfl) Tryz.func4 builtNone_facts
    (of_decide_eq_true (by kernel_rfl)) (by unfold Func.isWrapper; first | (rw [if_pos (by decide +kernel)]; kernel_rfl) | (rw [if_neg (by decide +kernel)]; exact ⟨rfl, rfl⟩))
    (fun os started H enc _ => builtNone_lifted os started H enc)

/-- ████ THE STATEMENT ████ -/
theorem builtNone_proved : Rows.BuiltNoneCardSaid :=
  Claim7.holds_tied_plain_at .later [] Rows.builtNoneCard.laidKinds true Rows.builtNoneCard.stood.harness Rows.builtNoneCard.stood.looks builtNone_over (fun _ h => by cases h) builtNone_hw (fun _ h => by cases h) builtNone_row_tie rfl ⟨rfl, rfl⟩ builtNone_hm rfl
    (fun f fn hf hfn => by
      obtain rfl : f = 4 := Option.some.inj ((show Tryz.prog.funcNamed Rows.builtNoneRow.func = some 4 by kernel_rfl).symm.trans hf) |>.symm
      obtain rfl : fn = Tryz.f4 := (Option.some.inj (Tryz.func4.symm.trans hfn)).symm
      exact ⟨builtNone_lk, fun j t ht => by
        rw [Tryz.params4] at ht
        exact Abs.noStand (ts := [9, 24]) (by kernel_rfl) j t (by rw [← Array.getElem?_toList] at ht; exact ht)⟩)
    builtNone_gb
#print axioms builtNone_proved
end Go.Proofs.YtbjfdogcacpfiaaGreatDoor
