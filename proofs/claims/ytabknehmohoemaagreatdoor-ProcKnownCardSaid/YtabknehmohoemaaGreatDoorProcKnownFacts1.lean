/- Closed facts of the row of 'ProcKnown' of 'YtabknehmohoemaaGreatDoor' on the program's types, some at a time, by the kernel. No condition. -/
import Derived.Test.YtabknehmohoemaaGreatDoorRows
import Derived.Test.YtabknehmohoemaaGreatDoorCards
import Derived.Test.YtabknehmohoemaaGreatDoorAbs5
import Derived.JoinedOf
namespace Go.Proofs.YtabknehmohoemaaGreatDoor
set_option maxRecDepth 100000 in
theorem procKnown_lo0 : (List.range' 0 60).all (rowFine Tryz.pinned.checked.prog) = true := by kernel_rfl
set_option maxRecDepth 100000 in
theorem procKnown_lo60 : (List.range' 60 60).all (rowFine Tryz.pinned.checked.prog) = true := by kernel_rfl
set_option maxRecDepth 100000 in
theorem procKnown_lo120 : (List.range' 120 60).all (rowFine Tryz.pinned.checked.prog) = true := by kernel_rfl
set_option maxRecDepth 100000 in
theorem procKnown_lo180 : (List.range' 180 60).all (rowFine Tryz.pinned.checked.prog) = true := by kernel_rfl
set_option maxRecDepth 100000 in
theorem procKnown_lo240 : (List.range' 240 60).all (rowFine Tryz.pinned.checked.prog) = true := by kernel_rfl
set_option maxRecDepth 100000 in
theorem procKnown_lo300 : (List.range' 300 60).all (rowFine Tryz.pinned.checked.prog) = true := by kernel_rfl
set_option maxRecDepth 100000 in
theorem procKnown_lo360 : (List.range' 360 60).all (rowFine Tryz.pinned.checked.prog) = true := by kernel_rfl
set_option maxRecDepth 100000 in
theorem procKnown_lo420 : (List.range' 420 60).all (rowFine Tryz.pinned.checked.prog) = true := by kernel_rfl
set_option maxRecDepth 100000 in
theorem procKnown_lo480 : (List.range' 480 60).all (rowFine Tryz.pinned.checked.prog) = true := by kernel_rfl
set_option maxRecDepth 100000 in
theorem procKnown_lo540 : (List.range' 540 60).all (rowFine Tryz.pinned.checked.prog) = true := by kernel_rfl
set_option maxRecDepth 100000 in
theorem procKnown_lo600 : (List.range' 600 60).all (rowFine Tryz.pinned.checked.prog) = true := by kernel_rfl
set_option maxRecDepth 100000 in
theorem procKnown_lo660 : (List.range' 660 60).all (rowFine Tryz.pinned.checked.prog) = true := by kernel_rfl
set_option maxRecDepth 100000 in
theorem procKnown_lo720 : (List.range' 720 60).all (rowFine Tryz.pinned.checked.prog) = true := by kernel_rfl
set_option maxRecDepth 100000 in
theorem procKnown_lo780 : (List.range' 780 44).all (rowFine Tryz.pinned.checked.prog) = true := by kernel_rfl
set_option maxRecDepth 100000 in
theorem procKnown_lo : laidOutB Tryz.pinned.checked.prog = true := Abs.laidOutB_of (Abs.range_chunk 0 60 procKnown_lo0 (Abs.range_chunk 60 60 procKnown_lo60 (Abs.range_chunk 120 60 procKnown_lo120 (Abs.range_chunk 180 60 procKnown_lo180 (Abs.range_chunk 240 60 procKnown_lo240 (Abs.range_chunk 300 60 procKnown_lo300 (Abs.range_chunk 360 60 procKnown_lo360 (Abs.range_chunk 420 60 procKnown_lo420 (Abs.range_chunk 480 60 procKnown_lo480 (Abs.range_chunk 540 60 procKnown_lo540 (Abs.range_chunk 600 60 procKnown_lo600 (Abs.range_chunk 660 60 procKnown_lo660 (Abs.range_chunk 720 60 procKnown_lo720 (Abs.range_chunk 780 44 procKnown_lo780 (Abs.range_end 824 (by kernel_rfl)))))))))))))))) (by kernel_rfl) (by kernel_rfl)
theorem procKnown_fact1 : (laidOutB Tryz.pinned.checked.prog) = true := procKnown_lo
set_option maxRecDepth 100000 in
theorem procKnown_mr0 : (List.range' 0 60).all (Abs.mapsP Tryz.pinned.checked.prog) = true := by kernel_rfl
set_option maxRecDepth 100000 in
theorem procKnown_mr60 : (List.range' 60 60).all (Abs.mapsP Tryz.pinned.checked.prog) = true := by kernel_rfl
set_option maxRecDepth 100000 in
theorem procKnown_mr120 : (List.range' 120 60).all (Abs.mapsP Tryz.pinned.checked.prog) = true := by kernel_rfl
set_option maxRecDepth 100000 in
theorem procKnown_mr180 : (List.range' 180 60).all (Abs.mapsP Tryz.pinned.checked.prog) = true := by kernel_rfl
set_option maxRecDepth 100000 in
theorem procKnown_mr240 : (List.range' 240 60).all (Abs.mapsP Tryz.pinned.checked.prog) = true := by kernel_rfl
set_option maxRecDepth 100000 in
theorem procKnown_mr300 : (List.range' 300 60).all (Abs.mapsP Tryz.pinned.checked.prog) = true := by kernel_rfl
set_option maxRecDepth 100000 in
theorem procKnown_mr360 : (List.range' 360 60).all (Abs.mapsP Tryz.pinned.checked.prog) = true := by kernel_rfl
set_option maxRecDepth 100000 in
theorem procKnown_mr420 : (List.range' 420 60).all (Abs.mapsP Tryz.pinned.checked.prog) = true := by kernel_rfl
set_option maxRecDepth 100000 in
theorem procKnown_mr480 : (List.range' 480 60).all (Abs.mapsP Tryz.pinned.checked.prog) = true := by kernel_rfl
set_option maxRecDepth 100000 in
theorem procKnown_mr540 : (List.range' 540 60).all (Abs.mapsP Tryz.pinned.checked.prog) = true := by kernel_rfl
set_option maxRecDepth 100000 in
theorem procKnown_mr600 : (List.range' 600 60).all (Abs.mapsP Tryz.pinned.checked.prog) = true := by kernel_rfl
set_option maxRecDepth 100000 in
theorem procKnown_mr660 : (List.range' 660 60).all (Abs.mapsP Tryz.pinned.checked.prog) = true := by kernel_rfl
set_option maxRecDepth 100000 in
theorem procKnown_mr720 : (List.range' 720 60).all (Abs.mapsP Tryz.pinned.checked.prog) = true := by kernel_rfl
set_option maxRecDepth 100000 in
theorem procKnown_mr780 : (List.range' 780 44).all (Abs.mapsP Tryz.pinned.checked.prog) = true := by kernel_rfl
theorem procKnown_fact2 : (mapsRowed Tryz.pinned.checked.prog) = true := Abs.mapsRowed_of (Abs.range_chunk 0 60 procKnown_mr0 (Abs.range_chunk 60 60 procKnown_mr60 (Abs.range_chunk 120 60 procKnown_mr120 (Abs.range_chunk 180 60 procKnown_mr180 (Abs.range_chunk 240 60 procKnown_mr240 (Abs.range_chunk 300 60 procKnown_mr300 (Abs.range_chunk 360 60 procKnown_mr360 (Abs.range_chunk 420 60 procKnown_mr420 (Abs.range_chunk 480 60 procKnown_mr480 (Abs.range_chunk 540 60 procKnown_mr540 (Abs.range_chunk 600 60 procKnown_mr600 (Abs.range_chunk 660 60 procKnown_mr660 (Abs.range_chunk 720 60 procKnown_mr720 (Abs.range_chunk 780 44 procKnown_mr780 (Abs.range_end 824 (by kernel_rfl))))))))))))))))
set_option maxRecDepth 100000 in
theorem procKnown_pk0 : (List.range' 0 60).all (Abs.keysP Tryz.pinned.checked.prog) = true := by kernel_rfl
set_option maxRecDepth 100000 in
theorem procKnown_pk60 : (List.range' 60 60).all (Abs.keysP Tryz.pinned.checked.prog) = true := by kernel_rfl
set_option maxRecDepth 100000 in
theorem procKnown_pk120 : (List.range' 120 60).all (Abs.keysP Tryz.pinned.checked.prog) = true := by kernel_rfl
set_option maxRecDepth 100000 in
theorem procKnown_pk180 : (List.range' 180 60).all (Abs.keysP Tryz.pinned.checked.prog) = true := by kernel_rfl
set_option maxRecDepth 100000 in
theorem procKnown_pk240 : (List.range' 240 60).all (Abs.keysP Tryz.pinned.checked.prog) = true := by kernel_rfl
set_option maxRecDepth 100000 in
theorem procKnown_pk300 : (List.range' 300 60).all (Abs.keysP Tryz.pinned.checked.prog) = true := by kernel_rfl
set_option maxRecDepth 100000 in
theorem procKnown_pk360 : (List.range' 360 60).all (Abs.keysP Tryz.pinned.checked.prog) = true := by kernel_rfl
set_option maxRecDepth 100000 in
theorem procKnown_pk420 : (List.range' 420 60).all (Abs.keysP Tryz.pinned.checked.prog) = true := by kernel_rfl
set_option maxRecDepth 100000 in
theorem procKnown_pk480 : (List.range' 480 60).all (Abs.keysP Tryz.pinned.checked.prog) = true := by kernel_rfl
set_option maxRecDepth 100000 in
theorem procKnown_pk540 : (List.range' 540 60).all (Abs.keysP Tryz.pinned.checked.prog) = true := by kernel_rfl
set_option maxRecDepth 100000 in
theorem procKnown_pk600 : (List.range' 600 60).all (Abs.keysP Tryz.pinned.checked.prog) = true := by kernel_rfl
set_option maxRecDepth 100000 in
theorem procKnown_pk660 : (List.range' 660 60).all (Abs.keysP Tryz.pinned.checked.prog) = true := by kernel_rfl
set_option maxRecDepth 100000 in
theorem procKnown_pk720 : (List.range' 720 60).all (Abs.keysP Tryz.pinned.checked.prog) = true := by kernel_rfl
set_option maxRecDepth 100000 in
theorem procKnown_pk780 : (List.range' 780 44).all (Abs.keysP Tryz.pinned.checked.prog) = true := by kernel_rfl
theorem procKnown_pk : Tryz.pinned.checked.prog.plainKeys = true := Abs.plainKeys_of (Abs.range_chunk 0 60 procKnown_pk0 (Abs.range_chunk 60 60 procKnown_pk60 (Abs.range_chunk 120 60 procKnown_pk120 (Abs.range_chunk 180 60 procKnown_pk180 (Abs.range_chunk 240 60 procKnown_pk240 (Abs.range_chunk 300 60 procKnown_pk300 (Abs.range_chunk 360 60 procKnown_pk360 (Abs.range_chunk 420 60 procKnown_pk420 (Abs.range_chunk 480 60 procKnown_pk480 (Abs.range_chunk 540 60 procKnown_pk540 (Abs.range_chunk 600 60 procKnown_pk600 (Abs.range_chunk 660 60 procKnown_pk660 (Abs.range_chunk 720 60 procKnown_pk720 (Abs.range_chunk 780 44 procKnown_pk780 (Abs.range_end 824 (by kernel_rfl))))))))))))))))
theorem procKnown_fact22 : ((Rows.procKnownRow.plainKeys == Tryz.pinned.checked.prog.plainKeys)) = true := by rw [procKnown_pk]; rfl
end Go.Proofs.YtabknehmohoemaaGreatDoor
