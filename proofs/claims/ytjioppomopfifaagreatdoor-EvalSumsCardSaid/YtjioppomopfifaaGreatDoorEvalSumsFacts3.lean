/- Closed facts of the row of 'EvalSums' of 'YtjioppomopfifaaGreatDoor', by the kernel. No condition. -/
import Derived.Test.YtjioppomopfifaaGreatDoorTie
import Derived.Test.YtjioppomopfifaaGreatDoorCards
import Derived.JoinedOf
namespace Go.Proofs.YtjioppomopfifaaGreatDoor
set_option maxRecDepth 100000 in
theorem NI:((Rows.evalSumsRow.recurses==Tryz.pinned.checked.prog.recurses 3))=true:=by kernel_rfl
set_option maxRecDepth 100000 in
theorem NH:((Rows.evalSumsRow.named==Tryz.pinned.checked.prog.varsNamed 3))=true:=by kernel_rfl
end Go.Proofs.YtjioppomopfifaaGreatDoor
