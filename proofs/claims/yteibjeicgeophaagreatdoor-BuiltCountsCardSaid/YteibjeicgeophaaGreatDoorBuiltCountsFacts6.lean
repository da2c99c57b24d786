/- Closed facts of the card of 'BuiltCounts' of 'YteibjeicgeophaaGreatDoor', by the kernel. No condition. -/
import Derived.Test.YteibjeicgeophaaGreatDoorTie
import Derived.Test.YteibjeicgeophaaGreatDoorCards
import Derived.SevenTiedAt
namespace Go.Proofs.YteibjeicgeophaaGreatDoor
set_option maxRecDepth 100000 in
theorem builtCounts_hw : Rows.builtCountsRow.wfByText (OpenSpec.ofChange Rows.builtCountsSpec) = true := by kernel_rfl
set_option maxRecDepth 100000 in
theorem builtCounts_hm : Tryz.pinned.checked.prog.mainIs = some (Rows.builtCountsCard.stood.harness.1, Rows.builtCountsCard.stood.harness.2.toList) := by kernel_rfl
set_option maxRecDepth 100000 in
theorem builtCounts_lk : Rows.builtCountsCard.stood.looks = Tryz.pinned.checked.prog.looks [] := by kernel_rfl
end Go.Proofs.YteibjeicgeophaaGreatDoor
