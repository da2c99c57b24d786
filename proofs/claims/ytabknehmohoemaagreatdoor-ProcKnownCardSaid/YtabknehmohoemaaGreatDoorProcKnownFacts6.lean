/- Closed facts of the card of 'ProcKnown' of 'YtabknehmohoemaaGreatDoor', by the kernel. No condition. -/
import Derived.Test.YtabknehmohoemaaGreatDoorRows
import Derived.Test.YtabknehmohoemaaGreatDoorCards
import Derived.SevenTiedAt
namespace Go.Proofs.YtabknehmohoemaaGreatDoor
set_option maxRecDepth 100000 in
theorem procKnown_hw : Rows.procKnownRow.wfByText (OpenSpec.ofChange Rows.procKnownSpec) = true := by kernel_rfl
set_option maxRecDepth 100000 in
theorem procKnown_hm : Tryz.pinned.checked.prog.mainIs = some (Rows.procKnownCard.stood.harness.1, Rows.procKnownCard.stood.harness.2.toList) := by kernel_rfl
set_option maxRecDepth 100000 in
theorem procKnown_lk : Rows.procKnownCard.stood.looks = Tryz.pinned.checked.prog.looks [] := by kernel_rfl
end Go.Proofs.YtabknehmohoemaaGreatDoor
