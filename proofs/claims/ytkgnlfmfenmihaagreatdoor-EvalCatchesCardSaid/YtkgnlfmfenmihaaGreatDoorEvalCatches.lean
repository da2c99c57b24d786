/- The statement 'EvalCatchesCard' of 'YtkgnlfmfenmihaaGreatDoor' is proved: the law's call returns true. No condition of ours: by runs of the abstract machine in the kernel, which is proved to carry out what the model does; strings.Index by the library's contract. -/
import Derived.Test.YtkgnlfmfenmihaaGreatDoorTie
import Derived.Test.YtkgnlfmfenmihaaGreatDoorCards
import Derived.Test.YtkgnlfmfenmihaaGreatDoorEvalCatchesCon
import Derived.WalkKit
import Derived.ProofKit
import Derived.OpenShut
import Derived.SevenTiedAt
import Derived.ChangeCalls
import Derived.Shelf.Strings.Search3
import Derived.Shelf.Vars
import Derived.Test.YtkgnlfmfenmihaaGreatDoorEvalCatchesWalk
import Derived.Test.YtkgnlfmfenmihaaGreatDoorEvalCatchesFacts5
import Derived.Test.YtkgnlfmfenmihaaGreatDoorEvalCatchesFacts6
import Derived.Test.YtkgnlfmfenmihaaGreatDoorEvalCatchesFacts7
namespace Go.Proofs.YtkgnlfmfenmihaaGreatDoor
open Go.ChangeShapes Go.WideShapes Go.ChangeAt Go.RowKit
theorem evalCatches_over : Rows.evalCatchesRow.holds Tryz.pinned (OpenSpec.ofChange Rows.evalCatchesSpec) :=
  OpenClaim.holds_of_wide 3 Tryz.f3 rfl rfl rfl rfl rfl rfl rfl ⟨rfl, rfl, rfl, rfl, rfl⟩ rfl rfl rfl rfl rfl (by kernel_rfl) Tryz.func3 evalCatches_facts
    (of_decide_eq_true (by kernel_rfl)) (by unfold Func.isWrapper; first | (rw [if_pos (by decide +kernel)]; kernel_rfl) | (rw [if_neg (by decide +kernel)]; exact ⟨rfl, rfl⟩))
    (fun os started H enc _ => evalCatches_lifted os started H enc)

/-- ████ THE STATEMENT ████ -/
theorem evalCatches_proved : Rows.EvalCatchesCardSaid :=
  Claim7.holds_tied_plain_at .later [] Rows.evalCatchesCard.laidKinds true Rows.evalCatchesCard.stood.harness Rows.evalCatchesCard.stood.looks evalCatches_over (fun _ h => by cases h) evalCatches_hw (fun _ h => by cases h) evalCatches_row_tie rfl ⟨rfl, rfl⟩ evalCatches_hm rfl
    (fun f fn hf hfn => by
      obtain rfl : f = 3 := Option.some.inj ((show Tryz.prog.funcNamed Rows.evalCatchesRow.func = some 3 by kernel_rfl).symm.trans hf) |>.symm
      obtain rfl : fn = Tryz.f3 := (Option.some.inj (Tryz.func3.symm.trans hfn)).symm
      exact ⟨evalCatches_lk, fun j t ht => by
        rw [Tryz.params3] at ht
        exact Abs.noStand (ts := [24, 9]) (by kernel_rfl) j t (by rw [← Array.getElem?_toList] at ht; exact ht)⟩)
    evalCatches_gb
#print axioms evalCatches_proved
end Go.Proofs.YtkgnlfmfenmihaaGreatDoor
