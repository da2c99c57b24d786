/- Closed facts of the tie of 'YtojecidijdhggaaGreatDoor', one a theorem, by the kernel. No condition. -/
import Derived.Test.YtojecidijdhggaaGreatDoorTiedd
namespace Go.Proofs.YtojecidijdhggaaGreatDoor
open Go
set_option maxRecDepth 100000 in
theorem tie_t4 : tieLaid.map (fun x => Tryz.prog.kindOfLater x.1) = ([.data, .data, .data, .sentinel, .sentinel] : List LaidKind).map some := by kernel_rfl
set_option maxRecDepth 100000 in
theorem tie_t5 : (Tryz.prog.funcNamed "gosem.cut.vars").isSome = true := by kernel_rfl
set_option maxRecDepth 100000 in
theorem tie_t6 : varsNamedLaterB Tryz.prog (varsId Tryz.prog) tieLaid = true := by kernel_rfl
end Go.Proofs.YtojecidijdhggaaGreatDoor
