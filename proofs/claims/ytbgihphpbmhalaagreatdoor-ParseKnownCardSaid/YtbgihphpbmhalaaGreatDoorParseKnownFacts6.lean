/- Closed facts of the card of 'ParseKnown' of 'YtbgihphpbmhalaaGreatDoor', by the kernel. No condition. -/
import Derived.Test.YtbgihphpbmhalaaGreatDoorTie
import Derived.Test.YtbgihphpbmhalaaGreatDoorCards
import Derived.SevenTiedAt
namespace Go.Proofs.YtbgihphpbmhalaaGreatDoor
set_option maxRecDepth 100000 in
theorem parseKnown_hw : Rows.parseKnownRow.wfByText (OpenSpec.ofChange Rows.parseKnownSpec) = true := by kernel_rfl
set_option maxRecDepth 100000 in
theorem parseKnown_hm : Tryz.pinned.checked.prog.mainIs = some (Rows.parseKnownCard.stood.harness.1, Rows.parseKnownCard.stood.harness.2.toList) := by kernel_rfl
set_option maxRecDepth 100000 in
theorem parseKnown_lk : Rows.parseKnownCard.stood.looks = Tryz.pinned.checked.prog.looks [] := by kernel_rfl
end Go.Proofs.YtbgihphpbmhalaaGreatDoor
