/- Closed facts of the card of 'BuiltNone' of 'YtbjfdogcacpfiaaGreatDoor', by the kernel. No condition. -/
import Derived.Test.YtbjfdogcacpfiaaGreatDoorTie
import Derived.Test.YtbjfdogcacpfiaaGreatDoorCards
import Derived.SevenTiedAt
namespace Go.Proofs.YtbjfdogcacpfiaaGreatDoor
set_option maxRecDepth 100000 in
theorem builtNone_hw : Rows.builtNoneRow.wfByText (OpenSpec.ofChange Rows.builtNoneSpec) = true := by kernel_rfl
set_option maxRecDepth 100000 in
theorem builtNone_hm : Tryz.pinned.checked.prog.mainIs = some (Rows.builtNoneCard.stood.harness.1, Rows.builtNoneCard.stood.harness.2.toList) := by kernel_rfl
set_option maxRecDepth 100000 in
theorem builtNone_lk : Rows.builtNoneCard.stood.looks = Tryz.pinned.checked.prog.looks [] := by kernel_rfl
end Go.Proofs.YtbjfdogcacpfiaaGreatDoor
