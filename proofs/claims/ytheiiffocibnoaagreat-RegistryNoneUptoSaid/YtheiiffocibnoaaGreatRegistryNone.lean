/- The statement 'RegistryNoneUpto' of 'YtheiiffocibnoaaGreat' is proved: the law's call returns true where what it reads is of bulk at most 1048576. No condition of ours: by runs of the abstract machine in the kernel, which is proved to carry out what the model does; term.Check by contracts, each proved by induction. -/
import Derived.Test.YtheiiffocibnoaaGreatRows
import Derived.Test.YtheiiffocibnoaaGreatAbs6
import Derived.WalkKit
import Derived.ProofKit
import Derived.OpenShut
import Derived.SevenTiedAt
import Derived.ChangeCalls
import Derived.Shelf.Vars
import Derived.Test.YtheiiffocibnoaaGreatRegistryNoneWalk
namespace Go.Proofs.YtheiiffocibnoaaGreat
open Go.ChangeShapes Go.WideShapes Go.ChangeAt Go.RowKit
theorem registryNone_over : Rows.registryNoneUptoRow.holds Tryz.pinned (Rows.OpenSpec.upto Rows.registryNoneSpec) :=
  OpenClaim.holds_of_cond 3 Tryz.f3 rfl rfl rfl rfl rfl rfl rfl ⟨rfl, rfl, rfl, rfl, rfl⟩ rfl rfl rfl rfl rfl (by kernel_rfl) Tryz.func3 (by kernel_rfl)
    (of_decide_eq_true (by kernel_rfl)) (by unfold Func.isWrapper; first | (rw [if_pos (by decide +kernel)]; kernel_rfl) | (rw [if_neg (by decide +kernel)]; exact ⟨rfl, rfl⟩))
    (fun os started H enc _ F => by rw [OpenClaim.pre_eq_preRow]; exact registryNone_lifted os started H enc F)

/-- ████ THE STATEMENT ████ -/
theorem registryNone_proved : Rows.RegistryNoneUptoSaid := registryNone_over
#print axioms registryNone_proved
end Go.Proofs.YtheiiffocibnoaaGreat
