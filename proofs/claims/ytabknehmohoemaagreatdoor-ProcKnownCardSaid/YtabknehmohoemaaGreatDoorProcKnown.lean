/- The statement 'ProcKnownCard' of 'YtabknehmohoemaaGreatDoor' is proved: the law's call returns true. No condition of ours: by runs of the abstract machine in the kernel, which is proved to carry out what the model does; strings.Index by the library's contract. -/
import Derived.Test.YtabknehmohoemaaGreatDoorTied
import Derived.Test.YtabknehmohoemaaGreatDoorCards
import Derived.Test.YtabknehmohoemaaGreatDoorAbs5
import Derived.Test.YtabknehmohoemaaGreatDoorAs
import Derived.WalkKit
import Derived.ProofKit
import Derived.OpenShut
import Derived.SevenTiedAt
import Derived.ChangeCalls
import Derived.Shelf.Strings.Search3
import Derived.Shelf.Vars
import Derived.Test.YtabknehmohoemaaGreatDoorProcKnownWalk
import Derived.Test.YtabknehmohoemaaGreatDoorProcKnownFacts5
import Derived.Test.YtabknehmohoemaaGreatDoorProcKnownFacts6
import Derived.Test.YtabknehmohoemaaGreatDoorProcKnownFacts7
namespace Go.Proofs.YtabknehmohoemaaGreatDoor
open Go.ChangeShapes Go.WideShapes Go.ChangeAt Go.RowKit
theorem procKnown_over : Rows.procKnownRow.holds Tryz.pinned (OpenSpec.ofChange Rows.procKnownSpec) :=
  OpenClaim.holds_of_wide 3 Tryz.f3 rfl rfl rfl rfl rfl rfl rfl ⟨rfl, rfl, rfl, rfl, rfl⟩ rfl rfl rfl rfl rfl (by kernel_rfl) Tryz.func3 procKnown_facts
    (of_decide_eq_true (by kernel_rfl)) (by unfold Func.isWrapper; first | (rw [if_pos (by decide +kernel)]; kernel_rfl) | (rw [if_neg (by decide +kernel)]; exact ⟨rfl, rfl⟩))
    (fun os started H enc _ => procKnown_lifted os started H enc)

/-- ████ THE STATEMENT ████ -/
theorem procKnown_proved : Rows.ProcKnownCardSaid :=
  Claim7.holds_tied_plain_at .later [] Rows.procKnownCard.laidKinds true Rows.procKnownCard.stood.harness Rows.procKnownCard.stood.looks procKnown_over (fun _ h => by cases h) procKnown_hw (fun _ h => by cases h) procKnown_row_tie rfl ⟨rfl, rfl⟩ procKnown_hm rfl
    (fun f fn hf hfn => by
      obtain rfl : f = 3 := Option.some.inj ((show Tryz.prog.funcNamed Rows.procKnownRow.func = some 3 by kernel_rfl).symm.trans hf) |>.symm
      obtain rfl : fn = Tryz.f3 := (Option.some.inj (Tryz.func3.symm.trans hfn)).symm
      exact ⟨procKnown_lk, fun j t ht => by
        rw [Tryz.params3] at ht
        simp at ht⟩)
    procKnown_gb
#print axioms procKnown_proved
end Go.Proofs.YtabknehmohoemaaGreatDoor
