/- Closed facts of the tie of 'YtabknehmohoemaaGreatDoor', one a theorem, by the kernel. No condition. -/
import Derived.Test.YtabknehmohoemaaGreatDoorTiedd
namespace Go.Proofs.YtabknehmohoemaaGreatDoor
open Go
set_option maxRecDepth 100000 in
theorem tie_t4 : tieLaid.map (fun x => Tryz.prog.kindOfLater x.1) = ([.sentinel, .sentinel, .data, .data, .data, .handle] : List LaidKind).map some := by kernel_rfl
set_option maxRecDepth 100000 in
theorem tie_t5 : (Tryz.prog.funcNamed "gosem.cut.vars").isSome = true := by kernel_rfl
end Go.Proofs.YtabknehmohoemaaGreatDoor
