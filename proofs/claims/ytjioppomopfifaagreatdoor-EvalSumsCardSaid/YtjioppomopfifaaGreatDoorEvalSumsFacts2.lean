/- Closed facts of the row of 'EvalSums' of 'YtjioppomopfifaaGreatDoor', by the kernel. No condition. -/
import Derived.Test.YtjioppomopfifaaGreatDoorTie
import Derived.Test.YtjioppomopfifaaGreatDoorCards
import Derived.JoinedOf
namespace Go.Proofs.YtjioppomopfifaaGreatDoor
set_option maxRecDepth 100000 in
theorem QC:((Rows.evalSumsRow.inPlace==Tryz.pinned.checked.prog.inPlace 3))=true:=by kernel_rfl
set_option maxRecDepth 100000 in
theorem NJ:((Rows.evalSumsRow.unfollowed==Tryz.pinned.checked.prog.unfollowed 3))=true:=by kernel_rfl
end Go.Proofs.YtjioppomopfifaaGreatDoor
