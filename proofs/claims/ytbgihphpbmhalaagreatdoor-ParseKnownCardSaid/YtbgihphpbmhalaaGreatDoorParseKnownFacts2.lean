/- The closed facts of the row of 'ParseKnown' of 'YtbgihphpbmhalaaGreatDoor' that go over the closure of its function, by the kernel. No condition. -/
import Derived.Test.YtbgihphpbmhalaaGreatDoorCl
import Derived.Test.YtbgihphpbmhalaaGreatDoorTie
import Derived.Test.YtbgihphpbmhalaaGreatDoorCards
import Derived.SevenTiedAt
namespace Go.Proofs.YtbgihphpbmhalaaGreatDoor
def parseKnown_K : List Nat := [3, 4, 9, 14, 29, 55, 56, 57, 89, 112, 30, 58, 59, 63, 90, 113, 129, 130, 114, 131, 143, 132, 133, 21, 41, 70, 96, 97, 123, 122, 124, 98, 99, 125, 126, 138, 139, 144, 134, 60, 91, 61, 62, 33, 36, 64, 38, 37, 68, 95, 119, 120, 121, 137, 65, 40, 92, 115, 12, 25, 26, 47, 48, 49, 50, 81, 82, 83, 27, 51, 84, 107, 85, 53, 86, 52, 54, 88, 111, 128, 140, 147, 141, 148, 150, 151, 153, 154, 155, 156, 142, 157, 110, 109, 159, 87, 108, 158, 160, 161, 162, 152, 116, 5, 6, 7, 10, 15, 16, 18, 19, 32, 66, 93, 94, 117, 118, 135, 136, 145, 149, 17, 31, 146, 11, 20, 34, 67, 35, 39, 69, 23, 22, 42, 71, 100, 101, 127, 72, 73, 43, 46, 79, 105, 74, 102, 103, 104, 75, 76, 44, 77, 78, 24, 45, 80, 106, 13, 28, 8]
set_option maxRecDepth 100000 in
theorem parseKnown_cl : Abs.ClOf Tryz.pinned.checked.prog clT 646 3 parseKnown_K := Abs.clOf cl_tab clT_eq clN_eq (by kernel_rfl)
set_option maxRecDepth 100000 in
theorem parseKnown_fact9 : (Rows.parseKnownRow.inPlace == Tryz.pinned.checked.prog.inPlace 3) = true := Abs.beq_self_of (parseKnown_cl.inPlace (by kernel_rfl))
set_option maxRecDepth 100000 in
theorem parseKnown_fact10 : (Rows.parseKnownRow.unfollowed == Tryz.pinned.checked.prog.unfollowed 3) = true := Abs.beq_self_of (parseKnown_cl.unfollowed (by kernel_rfl))
set_option maxRecDepth 100000 in
theorem parseKnown_fact11 : (Rows.parseKnownRow.recurses == Tryz.pinned.checked.prog.recurses 3) = true := Abs.beq_self_of (parseKnown_cl.recurses (by kernel_rfl))
set_option maxRecDepth 100000 in
theorem parseKnown_fact12 : (Rows.parseKnownRow.named == Tryz.pinned.checked.prog.varsNamed 3) = true := Abs.beq_self_of (parseKnown_cl.varsNamed (gs := [3, 4, 2, 5, 6, 1, 0]) (by kernel_rfl) (by kernel_rfl))
set_option maxRecDepth 100000 in
theorem parseKnown_gb : false = Rows.parseKnownRow.goesBy Tryz.pinned.checked.prog := cl_tab.goesBy (by kernel_rfl) rfl
end Go.Proofs.YtbgihphpbmhalaaGreatDoor
