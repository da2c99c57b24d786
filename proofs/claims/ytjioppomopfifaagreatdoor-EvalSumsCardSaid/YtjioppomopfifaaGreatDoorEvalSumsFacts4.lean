/- Closed facts of the row of 'EvalSums' of 'YtjioppomopfifaaGreatDoor', by the kernel. No condition. -/
import Derived.Test.YtjioppomopfifaaGreatDoorTie
import Derived.Test.YtjioppomopfifaaGreatDoorCards
import Derived.JoinedOf
namespace Go.Proofs.YtjioppomopfifaaGreatDoor
set_option maxRecDepth 100000 in
theorem Nr:((Rows.evalSumsRow.plainKeys==Tryz.pinned.checked.prog.plainKeys))=true:=by kernel_rfl
set_option maxRecDepth 100000 in
theorem Np:(Tryz.pinned.checked.prog.stopsHeard)=true:=by kernel_rfl
set_option maxRecDepth 100000 in
theorem Nl:(Tryz.pinned.checked.prog.mayEnter)=true:=by kernel_rfl
end Go.Proofs.YtjioppomopfifaaGreatDoor
