/- The statement 'BuiltKnownCard' of 'YtbjfdogcacpfiaaGreatDoor' is proved: the law's call returns true. No condition of ours: by runs of the abstract machine in the kernel, which is proved to carry out what the model does; strings.Index by the library's contract. -/
import Derived.Test.YtbjfdogcacpfiaaGreatDoorTie
import Derived.Test.YtbjfdogcacpfiaaGreatDoorCards
import Derived.Test.YtbjfdogcacpfiaaGreatDoorAbs5
import Derived.WalkKit
import Derived.ProofKit
import Derived.OpenShut
import Derived.SevenTiedAt
import Derived.ChangeCalls
import Derived.Shelf.Strings.Search3
import Derived.Shelf.Vars
import Derived.Test.YtbjfdogcacpfiaaGreatDoorBuiltKnownWalk
import Derived.Test.YtbjfdogcacpfiaaGreatDoorBuiltKnownFacts5
import Derived.Test.YtbjfdogcacpfiaaGreatDoorBuiltKnownFacts6
import Derived.Test.YtbjfdogcacpfiaaGreatDoorBuiltKnownFacts7
namespace Go.Proofs.YtbjfdogcacpfiaaGreatDoor
open Go.ChangeShapes Go.WideShapes Go.ChangeAt Go.RowKit
theorem builtKnown_over : Rows.builtKnownRow.holds Tryz.pinned (OpenSpec.ofChange Rows.builtKnownSpec) :=
  OpenClaim.holds_of_wide 3 Tryz.f3 rfl rfl rfl rfl rfl rfl rfl ⟨rfl, rfl, rfl, rfl, rfl⟩ rfl rfl rfl rfl rfl (by kernel_rfl) Tryz.func3 builtKnown_facts
    (of_decide_eq_true (by kernel_rfl)) (by unfold Func.isWrapper; first | (rw [if_pos (by decide +kernel)]; kernel_rfl) | (rw [if_neg (by decide +kernel)]; exact ⟨rfl, rfl⟩))
    (fun os started H enc _ => builtKnown_lifted os started H enc)

/-- ████ THE STATEMENT ████ -/
theorem builtKnown_proved : Rows.BuiltKnownCardSaid :=
  Claim7.holds_tied_plain_at .later [] Rows.builtKnownCard.laidKinds true Rows.builtKnownCard.stood.harness Rows.builtKnownCard.stood.looks builtKnown_over (fun _ h => by cases h) builtKnown_hw (fun _ h => by cases h) builtKnown_row_tie rfl ⟨rfl, rfl⟩ builtKnown_hm rfl
    (fun f fn hf hfn => by
      obtain rfl : f = 3 := Option.some.inj ((show Tryz.prog.funcNamed Rows.builtKnownRow.func = some 3 by kernel_rfl).symm.trans hf) |>.symm
      obtain rfl : fn = Tryz.f3 := (Option.some.inj (Tryz.func3.symm.trans hfn)).symm
      exact ⟨builtKnown_lk, fun j t ht => by
        rw [Tryz.params3] at ht
        simp at ht⟩)
    builtKnown_gb
#print axioms builtKnown_proved
end Go.Proofs.YtbjfdogcacpfiaaGreatDoor
