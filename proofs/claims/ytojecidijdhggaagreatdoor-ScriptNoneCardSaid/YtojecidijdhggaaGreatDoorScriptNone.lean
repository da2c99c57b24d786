/- The statement 'ScriptNoneCard' of 'YtojecidijdhggaaGreatDoor' is proved: the law's call returns true. No condition of ours: by runs of the abstract machine in the kernel, which is proved to carry out what the model does; strings.Index by the library's contract. -/
import Derived.Test.YtojecidijdhggaaGreatDoorTied
import Derived.Test.YtojecidijdhggaaGreatDoorCards
import Derived.Test.YtojecidijdhggaaGreatDoorAbs5
import Derived.WalkKit
import Derived.ProofKit
import Derived.OpenShut
import Derived.SevenTiedAt
import Derived.ChangeCalls
import Derived.Shelf.Strings.Search3
import Derived.Shelf.Vars
import Derived.Test.YtojecidijdhggaaGreatDoorScriptNoneWalk
import Derived.Test.YtojecidijdhggaaGreatDoorScriptNoneFacts5
import Derived.Test.YtojecidijdhggaaGreatDoorScriptNoneFacts6
import Derived.Test.YtojecidijdhggaaGreatDoorScriptNoneFacts7
namespace Go.Proofs.YtojecidijdhggaaGreatDoor
open Go.ChangeShapes Go.WideShapes Go.ChangeAt Go.RowKit
theorem scriptNone_over : Rows.scriptNoneRow.holds Tryz.pinned (OpenSpec.ofChange Rows.scriptNoneSpec) :=
  OpenClaim.holds_of_wide 3 Tryz.f3 rfl rfl rfl rfl rfl rfl rfl ⟨rfl, rfl, rfl, rfl, rfl⟩ rfl rfl rfl rfl rfl (by kernel_rfl) Tryz.func3 scriptNone_facts
    (of_decide_eq_true (by kernel_rfl)) (by unfold Func.isWrapper; first | (rw [if_pos (by decide +kernel)]; kernel_rfl) | (rw [if_neg (by decide +kernel)]; exact ⟨rfl, rfl⟩))
    (fun os started H enc _ => scriptNone_lifted os started H enc)

/-- ████ THE STATEMENT ████ -/
theorem scriptNone_proved : Rows.ScriptNoneCardSaid :=
  Claim7.holds_tied_plain_at .later [] Rows.scriptNoneCard.laidKinds true Rows.scriptNoneCard.stood.harness Rows.scriptNoneCard.stood.looks scriptNone_over (fun _ h => by cases h) scriptNone_hw (fun _ h => by cases h) scriptNone_row_tie rfl ⟨rfl, rfl⟩ scriptNone_hm rfl
    (fun f fn hf hfn => by
      obtain rfl : f = 3 := Option.some.inj ((show Tryz.prog.funcNamed Rows.scriptNoneRow.func = some 3 by kernel_rfl).symm.trans hf) |>.symm
      obtain rfl : fn = Tryz.f3 := (Option.some.inj (Tryz.func3.symm.trans hfn)).symm
      exact ⟨scriptNone_lk, fun j t ht => by
        rw [Tryz.params3] at ht
        exact Abs.noStand (ts := [26]) (by kernel_rfl) j t (by rw [← Array.getElem?_toList] at ht; exact ht)⟩)
    scriptNone_gb
#print axioms scriptNone_proved
end Go.Proofs.YtojecidijdhggaaGreatDoor
