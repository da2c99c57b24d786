/- Closed facts of the witness of the statement 'ProcKnown' of 'YtabknehmohoemaaGreatDoor', by the kernel. No condition. -/
import Derived.Test.YtabknehmohoemaaGreatDoorProcKnownWitA1
import Derived.Test.YtabknehmohoemaaGreatDoorProcKnownWitA2
import Derived.Test.YtabknehmohoemaaGreatDoorProcKnownWitA3
namespace Go.Proofs.YtabknehmohoemaaGreatDoor
end Go.Proofs.YtabknehmohoemaaGreatDoor
