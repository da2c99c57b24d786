/- Closed facts of the row of 'ScriptNone' of 'YtojecidijdhggaaGreatDoor' on the program's types, some at a time, by the kernel. No condition. -/
import Derived.Test.YtojecidijdhggaaGreatDoorRows
import Derived.Test.YtojecidijdhggaaGreatDoorCards
import Derived.Test.YtojecidijdhggaaGreatDoorAbs5
import Derived.JoinedOf
namespace Go.Proofs.YtojecidijdhggaaGreatDoor
set_option maxRecDepth 100000 in
theorem scriptNone_lo0 : (List.range' 0 60).all (rowFine Tryz.pinned.checked.prog) = true := by kernel_rfl
set_option maxRecDepth 100000 in
theorem scriptNone_lo60 : (List.range' 60 60).all (rowFine Tryz.pinned.checked.prog) = true := by kernel_rfl
set_option maxRecDepth 100000 in
theorem scriptNone_lo120 : (List.range' 120 60).all (rowFine Tryz.pinned.checked.prog) = true := by kernel_rfl
set_option maxRecDepth 100000 in
theorem scriptNone_lo180 : (List.range' 180 60).all (rowFine Tryz.pinned.checked.prog) = true := by kernel_rfl
set_option maxRecDepth 100000 in
theorem scriptNone_lo240 : (List.range' 240 60).all (rowFine Tryz.pinned.checked.prog) = true := by kernel_rfl
set_option maxRecDepth 100000 in
theorem scriptNone_lo300 : (List.range' 300 60).all (rowFine Tryz.pinned.checked.prog) = true := by kernel_rfl
set_option maxRecDepth 100000 in
theorem scriptNone_lo360 : (List.range' 360 60).all (rowFine Tryz.pinned.checked.prog) = true := by kernel_rfl
set_option maxRecDepth 100000 in
theorem scriptNone_lo420 : (List.range' 420 60).all (rowFine Tryz.pinned.checked.prog) = true := by kernel_rfl
set_option maxRecDepth 100000 in
theorem scriptNone_lo480 : (List.range' 480 60).all (rowFine Tryz.pinned.checked.prog) = true := by kernel_rfl
set_option maxRecDepth 100000 in
theorem scriptNone_lo540 : (List.range' 540 60).all (rowFine Tryz.pinned.checked.prog) = true := by kernel_rfl
set_option maxRecDepth 100000 in
theorem scriptNone_lo600 : (List.range' 600 60).all (rowFine Tryz.pinned.checked.prog) = true := by kernel_rfl
set_option maxRecDepth 100000 in
theorem scriptNone_lo660 : (List.range' 660 60).all (rowFine Tryz.pinned.checked.prog) = true := by kernel_rfl
set_option maxRecDepth 100000 in
theorem scriptNone_lo : laidOutB Tryz.pinned.checked.prog = true := Abs.laidOutB_of (Abs.range_chunk 0 60 scriptNone_lo0 (Abs.range_chunk 60 60 scriptNone_lo60 (Abs.range_chunk 120 60 scriptNone_lo120 (Abs.range_chunk 180 60 scriptNone_lo180 (Abs.range_chunk 240 60 scriptNone_lo240 (Abs.range_chunk 300 60 scriptNone_lo300 (Abs.range_chunk 360 60 scriptNone_lo360 (Abs.range_chunk 420 60 scriptNone_lo420 (Abs.range_chunk 480 60 scriptNone_lo480 (Abs.range_chunk 540 60 scriptNone_lo540 (Abs.range_chunk 600 60 scriptNone_lo600 (Abs.range_chunk 660 60 scriptNone_lo660 (Abs.range_end 720 (by kernel_rfl)))))))))))))) (by kernel_rfl) (by kernel_rfl)
theorem scriptNone_fact1 : (laidOutB Tryz.pinned.checked.prog) = true := scriptNone_lo
set_option maxRecDepth 100000 in
theorem scriptNone_mr0 : (List.range' 0 60).all (Abs.mapsP Tryz.pinned.checked.prog) = true := by kernel_rfl
set_option maxRecDepth 100000 in
theorem scriptNone_mr60 : (List.range' 60 60).all (Abs.mapsP Tryz.pinned.checked.prog) = true := by kernel_rfl
set_option maxRecDepth 100000 in
theorem scriptNone_mr120 : (List.range' 120 60).all (Abs.mapsP Tryz.pinned.checked.prog) = true := by kernel_rfl
set_option maxRecDepth 100000 in
theorem scriptNone_mr180 : (List.range' 180 60).all (Abs.mapsP Tryz.pinned.checked.prog) = true := by kernel_rfl
set_option maxRecDepth 100000 in
theorem scriptNone_mr240 : (List.range' 240 60).all (Abs.mapsP Tryz.pinned.checked.prog) = true := by kernel_rfl
set_option maxRecDepth 100000 in
theorem scriptNone_mr300 : (List.range' 300 60).all (Abs.mapsP Tryz.pinned.checked.prog) = true := by kernel_rfl
set_option maxRecDepth 100000 in
theorem scriptNone_mr360 : (List.range' 360 60).all (Abs.mapsP Tryz.pinned.checked.prog) = true := by kernel_rfl
set_option maxRecDepth 100000 in
theorem scriptNone_mr420 : (List.range' 420 60).all (Abs.mapsP Tryz.pinned.checked.prog) = true := by kernel_rfl
set_option maxRecDepth 100000 in
theorem scriptNone_mr480 : (List.range' 480 60).all (Abs.mapsP Tryz.pinned.checked.prog) = true := by kernel_rfl
set_option maxRecDepth 100000 in
theorem scriptNone_mr540 : (List.range' 540 60).all (Abs.mapsP Tryz.pinned.checked.prog) = true := by kernel_rfl
set_option maxRecDepth 100000 in
theorem scriptNone_mr600 : (List.range' 600 60).all (Abs.mapsP Tryz.pinned.checked.prog) = true := by kernel_rfl
set_option maxRecDepth 100000 in
theorem scriptNone_mr660 : (List.range' 660 60).all (Abs.mapsP Tryz.pinned.checked.prog) = true := by kernel_rfl
theorem scriptNone_fact2 : (mapsRowed Tryz.pinned.checked.prog) = true := Abs.mapsRowed_of (Abs.range_chunk 0 60 scriptNone_mr0 (Abs.range_chunk 60 60 scriptNone_mr60 (Abs.range_chunk 120 60 scriptNone_mr120 (Abs.range_chunk 180 60 scriptNone_mr180 (Abs.range_chunk 240 60 scriptNone_mr240 (Abs.range_chunk 300 60 scriptNone_mr300 (Abs.range_chunk 360 60 scriptNone_mr360 (Abs.range_chunk 420 60 scriptNone_mr420 (Abs.range_chunk 480 60 scriptNone_mr480 (Abs.range_chunk 540 60 scriptNone_mr540 (Abs.range_chunk 600 60 scriptNone_mr600 (Abs.range_chunk 660 60 scriptNone_mr660 (Abs.range_end 720 (by kernel_rfl))))))))))))))
set_option maxRecDepth 100000 in
theorem scriptNone_pk0 : (List.range' 0 60).all (Abs.keysP Tryz.pinned.checked.prog) = true := by kernel_rfl
set_option maxRecDepth 100000 in
theorem scriptNone_pk60 : (List.range' 60 60).all (Abs.keysP Tryz.pinned.checked.prog) = true := by kernel_rfl
set_option maxRecDepth 100000 in
theorem scriptNone_pk120 : (List.range' 120 60).all (Abs.keysP Tryz.pinned.checked.prog) = true := by kernel_rfl
set_option maxRecDepth 100000 in
theorem scriptNone_pk180 : (List.range' 180 60).all (Abs.keysP Tryz.pinned.checked.prog) = true := by kernel_rfl
set_option maxRecDepth 100000 in
theorem scriptNone_pk240 : (List.range' 240 60).all (Abs.keysP Tryz.pinned.checked.prog) = true := by kernel_rfl
set_option maxRecDepth 100000 in
theorem scriptNone_pk300 : (List.range' 300 60).all (Abs.keysP Tryz.pinned.checked.prog) = true := by kernel_rfl
set_option maxRecDepth 100000 in
theorem scriptNone_pk360 : (List.range' 360 60).all (Abs.keysP Tryz.pinned.checked.prog) = true := by kernel_rfl
set_option maxRecDepth 100000 in
theorem scriptNone_pk420 : (List.range' 420 60).all (Abs.keysP Tryz.pinned.checked.prog) = true := by kernel_rfl
set_option maxRecDepth 100000 in
theorem scriptNone_pk480 : (List.range' 480 60).all (Abs.keysP Tryz.pinned.checked.prog) = true := by kernel_rfl
set_option maxRecDepth 100000 in
theorem scriptNone_pk540 : (List.range' 540 60).all (Abs.keysP Tryz.pinned.checked.prog) = true := by kernel_rfl
set_option maxRecDepth 100000 in
theorem scriptNone_pk600 : (List.range' 600 60).all (Abs.keysP Tryz.pinned.checked.prog) = true := by kernel_rfl
set_option maxRecDepth 100000 in
theorem scriptNone_pk660 : (List.range' 660 60).all (Abs.keysP Tryz.pinned.checked.prog) = true := by kernel_rfl
theorem scriptNone_pk : Tryz.pinned.checked.prog.plainKeys = true := Abs.plainKeys_of (Abs.range_chunk 0 60 scriptNone_pk0 (Abs.range_chunk 60 60 scriptNone_pk60 (Abs.range_chunk 120 60 scriptNone_pk120 (Abs.range_chunk 180 60 scriptNone_pk180 (Abs.range_chunk 240 60 scriptNone_pk240 (Abs.range_chunk 300 60 scriptNone_pk300 (Abs.range_chunk 360 60 scriptNone_pk360 (Abs.range_chunk 420 60 scriptNone_pk420 (Abs.range_chunk 480 60 scriptNone_pk480 (Abs.range_chunk 540 60 scriptNone_pk540 (Abs.range_chunk 600 60 scriptNone_pk600 (Abs.range_chunk 660 60 scriptNone_pk660 (Abs.range_end 720 (by kernel_rfl))))))))))))))
theorem scriptNone_fact22 : ((Rows.scriptNoneRow.plainKeys == Tryz.pinned.checked.prog.plainKeys)) = true := by rw [scriptNone_pk]; rfl
end Go.Proofs.YtojecidijdhggaaGreatDoor
