/- The statement 'ParseKnownCard' of 'YtbgihphpbmhalaaGreatDoor' is proved: the law's call returns true. No condition of ours: by runs of the abstract machine in the kernel, which is proved to carry out what the model does; strings.Index by the library's contract. -/
import Derived.Test.YtbgihphpbmhalaaGreatDoorTie
import Derived.Test.YtbgihphpbmhalaaGreatDoorCards
import Derived.Test.YtbgihphpbmhalaaGreatDoorAbs5
import Derived.Test.YtbgihphpbmhalaaGreatDoorAs
import Derived.WalkKit
import Derived.ProofKit
import Derived.OpenShut
import Derived.SevenTiedAt
import Derived.ChangeCalls
import Derived.Shelf.Strings.Search3
import Derived.Shelf.Vars
import Derived.Test.YtbgihphpbmhalaaGreatDoorParseKnownWalk
import Derived.Test.YtbgihphpbmhalaaGreatDoorParseKnownFacts5
import Derived.Test.YtbgihphpbmhalaaGreatDoorParseKnownFacts6
import Derived.Test.YtbgihphpbmhalaaGreatDoorParseKnownFacts7
namespace Go.Proofs.YtbgihphpbmhalaaGreatDoor
open Go.ChangeShapes Go.WideShapes Go.ChangeAt Go.RowKit
theorem parseKnown_over : Rows.parseKnownRow.holds Tryz.pinned (OpenSpec.ofChange Rows.parseKnownSpec) :=
  OpenClaim.holds_of_wide 3 Tryz.f3 rfl rfl rfl rfl rfl rfl rfl ⟨rfl, rfl, rfl, rfl, rfl⟩ rfl rfl rfl rfl rfl (by kernel_rfl) Tryz.func3 parseKnown_facts
    (of_decide_eq_true (by kernel_rfl)) (by unfold Func.isWrapper; first | (rw [if_pos (by decide +kernel)]; kernel_rfl) | (rw [if_neg (by decide +kernel)]; exact ⟨rfl, rfl⟩))
    (fun os started H enc _ => parseKnown_lifted os started H enc)

/-- ████ THE STATEMENT ████ -/
theorem parseKnown_proved : Rows.ParseKnownCardSaid :=
  Claim7.holds_tied_plain_at .later [] Rows.parseKnownCard.laidKinds true Rows.parseKnownCard.stood.harness Rows.parseKnownCard.stood.looks parseKnown_over (fun _ h => by cases h) parseKnown_hw (fun _ h => by cases h) parseKnown_row_tie rfl ⟨rfl, rfl⟩ parseKnown_hm rfl
    (fun f fn hf hfn => by
      obtain rfl : f = 3 := Option.some.inj ((show Tryz.prog.funcNamed Rows.parseKnownRow.func = some 3 by kernel_rfl).symm.trans hf) |>.symm
      obtain rfl : fn = Tryz.f3 := (Option.some.inj (Tryz.func3.symm.trans hfn)).symm
      exact ⟨parseKnown_lk, fun j t ht => by
        rw [Tryz.params3] at ht
        simp at ht⟩)
    parseKnown_gb
#print axioms parseKnown_proved
end Go.Proofs.YtbgihphpbmhalaaGreatDoor
