/- Closed facts of the row of 'BuiltCounts' of 'YteibjeicgeophaaGreatDoor' on the program's types, some at a time, by the kernel. No condition. -/
import Derived.Test.YteibjeicgeophaaGreatDoorTie
import Derived.Test.YteibjeicgeophaaGreatDoorCards
import Derived.Test.YteibjeicgeophaaGreatDoorAbs7
import Derived.JoinedOf
namespace Go.Proofs.YteibjeicgeophaaGreatDoor
set_option maxRecDepth 100000 in
theorem builtCounts_lo0 : (List.range' 0 60).all (rowFine Tryz.pinned.checked.prog) = true := by kernel_rfl
set_option maxRecDepth 100000 in
theorem builtCounts_lo60 : (List.range' 60 60).all (rowFine Tryz.pinned.checked.prog) = true := by kernel_rfl
set_option maxRecDepth 100000 in
theorem builtCounts_lo120 : (List.range' 120 60).all (rowFine Tryz.pinned.checked.prog) = true := by kernel_rfl
set_option maxRecDepth 100000 in
theorem builtCounts_lo180 : (List.range' 180 60).all (rowFine Tryz.pinned.checked.prog) = true := by kernel_rfl
set_option maxRecDepth 100000 in
theorem builtCounts_lo240 : (List.range' 240 60).all (rowFine Tryz.pinned.checked.prog) = true := by kernel_rfl
set_option maxRecDepth 100000 in
theorem builtCounts_lo300 : (List.range' 300 60).all (rowFine Tryz.pinned.checked.prog) = true := by kernel_rfl
set_option maxRecDepth 100000 in
theorem builtCounts_lo360 : (List.range' 360 60).all (rowFine Tryz.pinned.checked.prog) = true := by kernel_rfl
set_option maxRecDepth 100000 in
theorem builtCounts_lo420 : (List.range' 420 60).all (rowFine Tryz.pinned.checked.prog) = true := by kernel_rfl
set_option maxRecDepth 100000 in
theorem builtCounts_lo480 : (List.range' 480 60).all (rowFine Tryz.pinned.checked.prog) = true := by kernel_rfl
set_option maxRecDepth 100000 in
theorem builtCounts_lo540 : (List.range' 540 39).all (rowFine Tryz.pinned.checked.prog) = true := by kernel_rfl
set_option maxRecDepth 100000 in
theorem builtCounts_lo : laidOutB Tryz.pinned.checked.prog = true := Abs.laidOutB_of (Abs.range_chunk 0 60 builtCounts_lo0 (Abs.range_chunk 60 60 builtCounts_lo60 (Abs.range_chunk 120 60 builtCounts_lo120 (Abs.range_chunk 180 60 builtCounts_lo180 (Abs.range_chunk 240 60 builtCounts_lo240 (Abs.range_chunk 300 60 builtCounts_lo300 (Abs.range_chunk 360 60 builtCounts_lo360 (Abs.range_chunk 420 60 builtCounts_lo420 (Abs.range_chunk 480 60 builtCounts_lo480 (Abs.range_chunk 540 39 builtCounts_lo540 (Abs.range_end 579 (by kernel_rfl)))))))))))) (by kernel_rfl) (by kernel_rfl)
theorem builtCounts_fact1 : (laidOutB Tryz.pinned.checked.prog) = true := builtCounts_lo
set_option maxRecDepth 100000 in
theorem builtCounts_mr0 : (List.range' 0 60).all (Abs.mapsP Tryz.pinned.checked.prog) = true := by kernel_rfl
set_option maxRecDepth 100000 in
theorem builtCounts_mr60 : (List.range' 60 60).all (Abs.mapsP Tryz.pinned.checked.prog) = true := by kernel_rfl
set_option maxRecDepth 100000 in
theorem builtCounts_mr120 : (List.range' 120 60).all (Abs.mapsP Tryz.pinned.checked.prog) = true := by kernel_rfl
set_option maxRecDepth 100000 in
theorem builtCounts_mr180 : (List.range' 180 60).all (Abs.mapsP Tryz.pinned.checked.prog) = true := by kernel_rfl
set_option maxRecDepth 100000 in
theorem builtCounts_mr240 : (List.range' 240 60).all (Abs.mapsP Tryz.pinned.checked.prog) = true := by kernel_rfl
set_option maxRecDepth 100000 in
theorem builtCounts_mr300 : (List.range' 300 60).all (Abs.mapsP Tryz.pinned.checked.prog) = true := by kernel_rfl
set_option maxRecDepth 100000 in
theorem builtCounts_mr360 : (List.range' 360 60).all (Abs.mapsP Tryz.pinned.checked.prog) = true := by kernel_rfl
set_option maxRecDepth 100000 in
theorem builtCounts_mr420 : (List.range' 420 60).all (Abs.mapsP Tryz.pinned.checked.prog) = true := by kernel_rfl
set_option maxRecDepth 100000 in
theorem builtCounts_mr480 : (List.range' 480 60).all (Abs.mapsP Tryz.pinned.checked.prog) = true := by kernel_rfl
set_option maxRecDepth 100000 in
theorem builtCounts_mr540 : (List.range' 540 39).all (Abs.mapsP Tryz.pinned.checked.prog) = true := by kernel_rfl
theorem builtCounts_fact2 : (mapsRowed Tryz.pinned.checked.prog) = true := Abs.mapsRowed_of (Abs.range_chunk 0 60 builtCounts_mr0 (Abs.range_chunk 60 60 builtCounts_mr60 (Abs.range_chunk 120 60 builtCounts_mr120 (Abs.range_chunk 180 60 builtCounts_mr180 (Abs.range_chunk 240 60 builtCounts_mr240 (Abs.range_chunk 300 60 builtCounts_mr300 (Abs.range_chunk 360 60 builtCounts_mr360 (Abs.range_chunk 420 60 builtCounts_mr420 (Abs.range_chunk 480 60 builtCounts_mr480 (Abs.range_chunk 540 39 builtCounts_mr540 (Abs.range_end 579 (by kernel_rfl))))))))))))
set_option maxRecDepth 100000 in
theorem builtCounts_pk0 : (List.range' 0 60).all (Abs.keysP Tryz.pinned.checked.prog) = true := by kernel_rfl
set_option maxRecDepth 100000 in
theorem builtCounts_pk60 : (List.range' 60 60).all (Abs.keysP Tryz.pinned.checked.prog) = true := by kernel_rfl
set_option maxRecDepth 100000 in
theorem builtCounts_pk120 : (List.range' 120 60).all (Abs.keysP Tryz.pinned.checked.prog) = true := by kernel_rfl
set_option maxRecDepth 100000 in
theorem builtCounts_pk180 : (List.range' 180 60).all (Abs.keysP Tryz.pinned.checked.prog) = true := by kernel_rfl
set_option maxRecDepth 100000 in
theorem builtCounts_pk240 : (List.range' 240 60).all (Abs.keysP Tryz.pinned.checked.prog) = true := by kernel_rfl
set_option maxRecDepth 100000 in
theorem builtCounts_pk300 : (List.range' 300 60).all (Abs.keysP Tryz.pinned.checked.prog) = true := by kernel_rfl
set_option maxRecDepth 100000 in
theorem builtCounts_pk360 : (List.range' 360 60).all (Abs.keysP Tryz.pinned.checked.prog) = true := by kernel_rfl
set_option maxRecDepth 100000 in
theorem builtCounts_pk420 : (List.range' 420 60).all (Abs.keysP Tryz.pinned.checked.prog) = true := by kernel_rfl
set_option maxRecDepth 100000 in
theorem builtCounts_pk480 : (List.range' 480 60).all (Abs.keysP Tryz.pinned.checked.prog) = true := by kernel_rfl
set_option maxRecDepth 100000 in
theorem builtCounts_pk540 : (List.range' 540 39).all (Abs.keysP Tryz.pinned.checked.prog) = true := by kernel_rfl
theorem builtCounts_pk : Tryz.pinned.checked.prog.plainKeys = true := Abs.plainKeys_of (Abs.range_chunk 0 60 builtCounts_pk0 (Abs.range_chunk 60 60 builtCounts_pk60 (Abs.range_chunk 120 60 builtCounts_pk120 (Abs.range_chunk 180 60 builtCounts_pk180 (Abs.range_chunk 240 60 builtCounts_pk240 (Abs.range_chunk 300 60 builtCounts_pk300 (Abs.range_chunk 360 60 builtCounts_pk360 (Abs.range_chunk 420 60 builtCounts_pk420 (Abs.range_chunk 480 60 builtCounts_pk480 (Abs.range_chunk 540 39 builtCounts_pk540 (Abs.range_end 579 (by kernel_rfl))))))))))))
theorem builtCounts_fact22 : ((Rows.builtCountsRow.plainKeys == Tryz.pinned.checked.prog.plainKeys)) = true := by rw [builtCounts_pk]; rfl
end Go.Proofs.YteibjeicgeophaaGreatDoor
