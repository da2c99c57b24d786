/- Closed facts of the row of 'ParseKnown' of 'YtbgihphpbmhalaaGreatDoor' on the program's types, some at a time, by the kernel. No condition. -/
import Derived.Test.YtbgihphpbmhalaaGreatDoorTie
import Derived.Test.YtbgihphpbmhalaaGreatDoorCards
import Derived.Test.YtbgihphpbmhalaaGreatDoorAbs5
import Derived.JoinedOf
namespace Go.Proofs.YtbgihphpbmhalaaGreatDoor
set_option maxRecDepth 100000 in
theorem parseKnown_lo0 : (List.range' 0 60).all (rowFine Tryz.pinned.checked.prog) = true := by kernel_rfl
set_option maxRecDepth 100000 in
theorem parseKnown_lo60 : (List.range' 60 60).all (rowFine Tryz.pinned.checked.prog) = true := by kernel_rfl
set_option maxRecDepth 100000 in
theorem parseKnown_lo120 : (List.range' 120 60).all (rowFine Tryz.pinned.checked.prog) = true := by kernel_rfl
set_option maxRecDepth 100000 in
theorem parseKnown_lo180 : (List.range' 180 55).all (rowFine Tryz.pinned.checked.prog) = true := by kernel_rfl
set_option maxRecDepth 100000 in
theorem parseKnown_lo : laidOutB Tryz.pinned.checked.prog = true := Abs.laidOutB_of (Abs.range_chunk 0 60 parseKnown_lo0 (Abs.range_chunk 60 60 parseKnown_lo60 (Abs.range_chunk 120 60 parseKnown_lo120 (Abs.range_chunk 180 55 parseKnown_lo180 (Abs.range_end 235 (by kernel_rfl)))))) (by kernel_rfl) (by kernel_rfl)
theorem parseKnown_fact1 : (laidOutB Tryz.pinned.checked.prog) = true := parseKnown_lo
set_option maxRecDepth 100000 in
theorem parseKnown_mr0 : (List.range' 0 60).all (Abs.mapsP Tryz.pinned.checked.prog) = true := by kernel_rfl
set_option maxRecDepth 100000 in
theorem parseKnown_mr60 : (List.range' 60 60).all (Abs.mapsP Tryz.pinned.checked.prog) = true := by kernel_rfl
set_option maxRecDepth 100000 in
theorem parseKnown_mr120 : (List.range' 120 60).all (Abs.mapsP Tryz.pinned.checked.prog) = true := by kernel_rfl
set_option maxRecDepth 100000 in
theorem parseKnown_mr180 : (List.range' 180 55).all (Abs.mapsP Tryz.pinned.checked.prog) = true := by kernel_rfl
theorem parseKnown_fact2 : (mapsRowed Tryz.pinned.checked.prog) = true := Abs.mapsRowed_of (Abs.range_chunk 0 60 parseKnown_mr0 (Abs.range_chunk 60 60 parseKnown_mr60 (Abs.range_chunk 120 60 parseKnown_mr120 (Abs.range_chunk 180 55 parseKnown_mr180 (Abs.range_end 235 (by kernel_rfl))))))
set_option maxRecDepth 100000 in
theorem parseKnown_pk0 : (List.range' 0 60).all (Abs.keysP Tryz.pinned.checked.prog) = true := by kernel_rfl
set_option maxRecDepth 100000 in
theorem parseKnown_pk60 : (List.range' 60 60).all (Abs.keysP Tryz.pinned.checked.prog) = true := by kernel_rfl
set_option maxRecDepth 100000 in
theorem parseKnown_pk120 : (List.range' 120 60).all (Abs.keysP Tryz.pinned.checked.prog) = true := by kernel_rfl
set_option maxRecDepth 100000 in
theorem parseKnown_pk180 : (List.range' 180 55).all (Abs.keysP Tryz.pinned.checked.prog) = true := by kernel_rfl
theorem parseKnown_pk : Tryz.pinned.checked.prog.plainKeys = true := Abs.plainKeys_of (Abs.range_chunk 0 60 parseKnown_pk0 (Abs.range_chunk 60 60 parseKnown_pk60 (Abs.range_chunk 120 60 parseKnown_pk120 (Abs.range_chunk 180 55 parseKnown_pk180 (Abs.range_end 235 (by kernel_rfl))))))
theorem parseKnown_fact22 : ((Rows.parseKnownRow.plainKeys == Tryz.pinned.checked.prog.plainKeys)) = true := by rw [parseKnown_pk]; rfl
end Go.Proofs.YtbgihphpbmhalaaGreatDoor
