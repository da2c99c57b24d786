/- Closed facts of the card of 'EvalSums' of 'YtjioppomopfifaaGreatDoor', by the kernel. No condition. -/
import Derived.Test.YtjioppomopfifaaGreatDoorTie
import Derived.Test.YtjioppomopfifaaGreatDoorCards
import Derived.SevenTiedAt
namespace Go.Proofs.YtjioppomopfifaaGreatDoor
set_option maxRecDepth 100000 in
theorem Zt:Rows.evalSumsRow.wfByText (OpenSpec.ofChange Rows.evalSumsSpec)=true:=by kernel_rfl
set_option maxRecDepth 100000 in
theorem Zu:Tryz.pinned.checked.prog.mainIs=some (Rows.evalSumsCard.stood.harness.1,Rows.evalSumsCard.stood.harness.2.toList):=by kernel_rfl
set_option maxRecDepth 100000 in
theorem Zr:Rows.evalSumsCard.stood.looks=Tryz.pinned.checked.prog.looks []:=by kernel_rfl
end Go.Proofs.YtjioppomopfifaaGreatDoor
