/- Closed facts of the tie of 'YtabknehmohoemaaGreatDoor', one a theorem, by the kernel. No condition. -/
import Derived.Test.YtabknehmohoemaaGreatDoorTiedg
import Derived.Test.YtabknehmohoemaaGreatDoorTiedc1
import Derived.Test.YtabknehmohoemaaGreatDoorTiedc2
import Derived.Test.YtabknehmohoemaaGreatDoorTiedc3
import Derived.Test.YtabknehmohoemaaGreatDoorTiedc4
namespace Go.Proofs.YtabknehmohoemaaGreatDoor
open Go
theorem tie_t7 : ∀ os tape, varsDone Tryz.prog 400 (varsId Tryz.prog) os tape = true := by rw [tie_id]; exact tie_t7_r
theorem tie_t8 : ∀ os tape, (DataW.laidRun Tryz.prog (varsWorld Tryz.prog 400 (varsId Tryz.prog) os tape).memory 8 ((tieLaid.filter fun x => x.2.handleName?.isNone).map (·.1))).map (·.1) = some (tieLaid.filter fun x => x.2.handleName?.isNone) := by rw [tie_id]; exact tie_t8_r
theorem tie_t9 : ∀ os tape, (DataW.laidRun Tryz.prog (varsWorld Tryz.prog 400 (varsId Tryz.prog) os tape).memory 8 ((tieLaid.filter fun x => x.2.handleName?.isNone).map (·.1))).map (fun x => decide x.2.Nodup && laidRowsB Tryz.prog (varsWorld Tryz.prog 400 (varsId Tryz.prog) os tape).memory x.2) = some true := by rw [tie_id]; exact tie_t9_r
theorem tie_th : ∀ os tape, (tieLaid.filter fun x => x.2.handleName?.isSome).all (handleAtB Tryz.prog (varsWorld Tryz.prog 400 (varsId Tryz.prog) os tape).memory) = true := by rw [tie_id]; exact tie_th_r
end Go.Proofs.YtabknehmohoemaaGreatDoor
