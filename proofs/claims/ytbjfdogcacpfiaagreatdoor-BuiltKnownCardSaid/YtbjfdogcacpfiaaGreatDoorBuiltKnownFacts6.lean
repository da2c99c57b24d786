/- Closed facts of the card of 'BuiltKnown' of 'YtbjfdogcacpfiaaGreatDoor', by the kernel. No condition. -/
import Derived.Test.YtbjfdogcacpfiaaGreatDoorTie
import Derived.Test.YtbjfdogcacpfiaaGreatDoorCards
import Derived.SevenTiedAt
namespace Go.Proofs.YtbjfdogcacpfiaaGreatDoor
set_option maxRecDepth 100000 in
theorem builtKnown_hw : Rows.builtKnownRow.wfByText (OpenSpec.ofChange Rows.builtKnownSpec) = true := by kernel_rfl
set_option maxRecDepth 100000 in
theorem builtKnown_hm : Tryz.pinned.checked.prog.mainIs = some (Rows.builtKnownCard.stood.harness.1, Rows.builtKnownCard.stood.harness.2.toList) := by kernel_rfl
set_option maxRecDepth 100000 in
theorem builtKnown_lk : Rows.builtKnownCard.stood.looks = Tryz.pinned.checked.prog.looks [] := by kernel_rfl
end Go.Proofs.YtbjfdogcacpfiaaGreatDoor
