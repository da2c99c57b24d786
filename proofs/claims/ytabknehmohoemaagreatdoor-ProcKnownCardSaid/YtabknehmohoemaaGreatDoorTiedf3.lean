/- The sixth closed fact of the tie of 'YtabknehmohoemaaGreatDoor', piece by piece, by the kernel. No condition. -/
import Derived.Test.YtabknehmohoemaaGreatDoorTiede
namespace Go.Proofs.YtabknehmohoemaaGreatDoor
open Go
set_option maxRecDepth 100000 in
theorem tie_d4 : (Tryz.prog.funcNamed "(internal/reflectlite.rtype).Elem").any (fun h => (Tryz.prog.funcs[h]?).any fun fn => fn.body.isNone && !entryCalls fn) = true := by kernel_rfl
end Go.Proofs.YtabknehmohoemaaGreatDoor
