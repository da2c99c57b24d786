/- The closed facts of the row of 'ProcKnown' of 'YtabknehmohoemaaGreatDoor', together. No condition. -/
import Derived.Test.YtabknehmohoemaaGreatDoorRows
import Derived.Test.YtabknehmohoemaaGreatDoorCards
import Derived.JoinedOf
import Derived.Test.YtabknehmohoemaaGreatDoorProcKnownFacts1
import Derived.Test.YtabknehmohoemaaGreatDoorProcKnownFacts2
import Derived.Test.YtabknehmohoemaaGreatDoorProcKnownFacts3
import Derived.Test.YtabknehmohoemaaGreatDoorProcKnownFacts4
namespace Go.Proofs.YtabknehmohoemaaGreatDoor
set_option maxRecDepth 100000 in
theorem procKnown_fact0 : (Rows.procKnownRow.wf (OpenSpec.ofChange Rows.procKnownSpec)) = true := by kernel_rfl
set_option maxRecDepth 100000 in
theorem procKnown_fact3 : (Tryz.f3.params.all (Tryz.pinned.checked.prog.readableRec ·)) = true := by kernel_rfl
set_option maxRecDepth 100000 in
theorem procKnown_fact4 : (namedTie Tryz.pinned.checked.prog Rows.procKnownRow.named Rows.procKnownSpec.vars) = true := by kernel_rfl
set_option maxRecDepth 100000 in
theorem procKnown_fact5 : ((Rows.procKnownRow.stops == [])) = true := by kernel_rfl
set_option maxRecDepth 100000 in
theorem procKnown_fact6 : ((Tryz.pinned.checked.prog.stops == [])) = true := by kernel_rfl
set_option maxRecDepth 100000 in
theorem procKnown_fact7 : ((Rows.procKnownRow.knobs == [])) = true := by kernel_rfl
set_option maxRecDepth 100000 in
theorem procKnown_fact8 : ((Tryz.pinned.checked.prog.stopKnobs == [])) = true := by kernel_rfl
set_option maxRecDepth 100000 in
theorem procKnown_fact13 : ((Rows.procKnownRow.maps == (Tryz.f3.params.toList ++ Rows.procKnownSpec.plain.varTypes Tryz.pinned.checked.prog).any (Tryz.pinned.checked.prog.mapsRec ·))) = true := by kernel_rfl
set_option maxRecDepth 100000 in
theorem procKnown_fact14 : ((Rows.procKnownRow.ifaces == (Tryz.f3.params.toList ++ Rows.procKnownSpec.plain.varTypes Tryz.pinned.checked.prog).any (Tryz.pinned.checked.prog.ifacesRec ·))) = true := by kernel_rfl
set_option maxRecDepth 100000 in
theorem procKnown_fact15 : ((Rows.procKnownRow.mapsOut == Tryz.pinned.checked.prog.mapsAmong Tryz.f3.resultTypes.toList)) = true := by kernel_rfl
set_option maxRecDepth 100000 in
theorem procKnown_fact16 : ((Rows.procKnownRow.loops == (Tryz.f3.params.toList ++ Rows.procKnownSpec.plain.varTypes Tryz.pinned.checked.prog).any (Tryz.pinned.checked.prog.loopsFrom ·))) = true := by kernel_rfl
set_option maxRecDepth 100000 in
theorem procKnown_fact17 : ((Rows.procKnownRow.wideKeys == (Tryz.f3.params.toList ++ Rows.procKnownSpec.plain.varTypes Tryz.pinned.checked.prog ++ Tryz.f3.resultTypes.toList).any (Tryz.pinned.checked.prog.wideKeysFrom ·))) = true := by kernel_rfl
set_option maxRecDepth 100000 in
theorem procKnown_fact18 : (Rows.procKnownSpec.vars.all (Tryz.pinned.checked.prog.varReadable ·)) = true := by kernel_rfl
set_option maxRecDepth 100000 in
theorem procKnown_fact19 : (Tryz.f3.resultTypes.all (fun t => Tryz.pinned.checked.prog.readableRec t && decide (t < Tryz.pinned.checked.prog.types.size))) = true := by kernel_rfl
set_option maxRecDepth 100000 in
theorem procKnown_fact20 : ((Rows.procKnownRow.ifacesOut == Tryz.f3.resultTypes.toList.any (Tryz.pinned.checked.prog.ifacesRec ·))) = true := by kernel_rfl
set_option maxRecDepth 100000 in
theorem procKnown_fact21 : ((Rows.procKnownRow.loopsOut == Tryz.f3.resultTypes.toList.any (Tryz.pinned.checked.prog.loopsFrom ·))) = true := by kernel_rfl
set_option maxRecDepth 100000 in
theorem procKnown_fact23 : (Rows.procKnownRow.shortTexts.isNone) = true := by kernel_rfl
set_option maxRecDepth 100000 in
theorem procKnown_fact26 : ((Rows.procKnownRow.lifted == Tryz.pinned.checked.prog.liftsFinal)) = true := by kernel_rfl
set_option maxRecDepth 100000 in
theorem procKnown_fact27 : ((Tryz.pinned.checked.prog.make == some Rows.procKnownRow.make)) = true := by kernel_rfl
set_option maxRecDepth 100000 in
theorem procKnown_fact28 : ((Rows.procKnownRow.kinds == (if Rows.procKnownRow.domain.isEmpty then [] else Tryz.f3.params.toList.map fun t => match Tryz.pinned.checked.prog.underlying t with | some (.int k) => some k | _ => none))) = true := by kernel_rfl
set_option maxRecDepth 100000 in
theorem procKnown_fact29 : ((Rows.procKnownRow.pinned == Rows.procKnownRow.pinnedBy)) = true := by kernel_rfl
set_option maxRecDepth 100000 in
theorem procKnown_fact30 : ((Rows.procKnownRow.veiled == (Tryz.f3.params.toList ++ Rows.procKnownSpec.plain.varTypes Tryz.pinned.checked.prog ++ Tryz.f3.resultTypes.toList).any (Tryz.pinned.checked.prog.veiledRec ·))) = true := by kernel_rfl
set_option maxRecDepth 100000 in
theorem procKnown_fact31 : (Rows.procKnownRow.veiledFits Tryz.pinned.checked.prog Tryz.f3.params.toList (Tryz.f3.params.toList ++ Rows.procKnownSpec.plain.varTypes Tryz.pinned.checked.prog ++ Tryz.f3.resultTypes.toList)) = true := by kernel_rfl
theorem procKnown_and {a b : Bool} (h : a = true) (h' : b = true) : (a && b) = true := by rw [h, h']; rfl
set_option maxRecDepth 100000 in
theorem procKnown_facts : joinedFacts Tryz.pinned.checked.prog 3 Tryz.f3 Rows.procKnownSpec Rows.procKnownRow = true :=
  procKnown_and (procKnown_and (procKnown_and (procKnown_and (procKnown_and (procKnown_and (procKnown_and (procKnown_and (procKnown_and (procKnown_and (procKnown_and (procKnown_and (procKnown_and (procKnown_and (procKnown_and (procKnown_and (procKnown_and (procKnown_and (procKnown_and (procKnown_and (procKnown_and (procKnown_and (procKnown_and (procKnown_and (procKnown_and (procKnown_and (procKnown_and (procKnown_and (procKnown_and (procKnown_and (procKnown_and (procKnown_fact0) procKnown_fact1) procKnown_fact2) procKnown_fact3) procKnown_fact4) procKnown_fact5) procKnown_fact6) procKnown_fact7) procKnown_fact8) procKnown_fact9) procKnown_fact10) procKnown_fact11) procKnown_fact12) procKnown_fact13) procKnown_fact14) procKnown_fact15) procKnown_fact16) procKnown_fact17) procKnown_fact18) procKnown_fact19) procKnown_fact20) procKnown_fact21) procKnown_fact22) procKnown_fact23) procKnown_fact24) procKnown_fact25) procKnown_fact26) procKnown_fact27) procKnown_fact28) procKnown_fact29) procKnown_fact30) procKnown_fact31
end Go.Proofs.YtabknehmohoemaaGreatDoor
