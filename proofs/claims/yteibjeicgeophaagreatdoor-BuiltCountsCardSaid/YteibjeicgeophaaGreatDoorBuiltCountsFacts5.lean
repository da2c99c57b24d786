/- The closed facts of the row of 'BuiltCounts' of 'YteibjeicgeophaaGreatDoor', together. No condition. -/
import Derived.Test.YteibjeicgeophaaGreatDoorTie
import Derived.Test.YteibjeicgeophaaGreatDoorCards
import Derived.JoinedOf
import Derived.Test.YteibjeicgeophaaGreatDoorBuiltCountsFacts1
import Derived.Test.YteibjeicgeophaaGreatDoorBuiltCountsFacts2
import Derived.Test.YteibjeicgeophaaGreatDoorBuiltCountsFacts3
import Derived.Test.YteibjeicgeophaaGreatDoorBuiltCountsFacts4
namespace Go.Proofs.YteibjeicgeophaaGreatDoor
set_option maxRecDepth 100000 in
theorem builtCounts_fact0 : (Rows.builtCountsRow.wf (OpenSpec.ofChange Rows.builtCountsSpec)) = true := by kernel_rfl
set_option maxRecDepth 100000 in
theorem builtCounts_fact3 : (Tryz.f3.params.all (Tryz.pinned.checked.prog.readableRec ·)) = true := by kernel_rfl
set_option maxRecDepth 100000 in
theorem builtCounts_fact4 : (namedTie Tryz.pinned.checked.prog Rows.builtCountsRow.named Rows.builtCountsSpec.vars) = true := by kernel_rfl
set_option maxRecDepth 100000 in
theorem builtCounts_fact5 : ((Rows.builtCountsRow.stops == [])) = true := by kernel_rfl
set_option maxRecDepth 100000 in
theorem builtCounts_fact6 : ((Tryz.pinned.checked.prog.stops == [])) = true := by kernel_rfl
set_option maxRecDepth 100000 in
theorem builtCounts_fact7 : ((Rows.builtCountsRow.knobs == [])) = true := by kernel_rfl
set_option maxRecDepth 100000 in
theorem builtCounts_fact8 : ((Tryz.pinned.checked.prog.stopKnobs == [])) = true := by kernel_rfl
set_option maxRecDepth 100000 in
theorem builtCounts_fact13 : ((Rows.builtCountsRow.maps == (Tryz.f3.params.toList ++ Rows.builtCountsSpec.plain.varTypes Tryz.pinned.checked.prog).any (Tryz.pinned.checked.prog.mapsRec ·))) = true := by kernel_rfl
set_option maxRecDepth 100000 in
theorem builtCounts_fact14 : ((Rows.builtCountsRow.ifaces == (Tryz.f3.params.toList ++ Rows.builtCountsSpec.plain.varTypes Tryz.pinned.checked.prog).any (Tryz.pinned.checked.prog.ifacesRec ·))) = true := by kernel_rfl
set_option maxRecDepth 100000 in
theorem builtCounts_fact15 : ((Rows.builtCountsRow.mapsOut == Tryz.pinned.checked.prog.mapsAmong Tryz.f3.resultTypes.toList)) = true := by kernel_rfl
set_option maxRecDepth 100000 in
theorem builtCounts_fact16 : ((Rows.builtCountsRow.loops == (Tryz.f3.params.toList ++ Rows.builtCountsSpec.plain.varTypes Tryz.pinned.checked.prog).any (Tryz.pinned.checked.prog.loopsFrom ·))) = true := by kernel_rfl
set_option maxRecDepth 100000 in
theorem builtCounts_fact17 : ((Rows.builtCountsRow.wideKeys == (Tryz.f3.params.toList ++ Rows.builtCountsSpec.plain.varTypes Tryz.pinned.checked.prog ++ Tryz.f3.resultTypes.toList).any (Tryz.pinned.checked.prog.wideKeysFrom ·))) = true := by kernel_rfl
set_option maxRecDepth 100000 in
theorem builtCounts_fact18 : (Rows.builtCountsSpec.vars.all (Tryz.pinned.checked.prog.varReadable ·)) = true := by kernel_rfl
set_option maxRecDepth 100000 in
theorem builtCounts_fact19 : (Tryz.f3.resultTypes.all (fun t => Tryz.pinned.checked.prog.readableRec t && decide (t < Tryz.pinned.checked.prog.types.size))) = true := by kernel_rfl
set_option maxRecDepth 100000 in
theorem builtCounts_fact20 : ((Rows.builtCountsRow.ifacesOut == Tryz.f3.resultTypes.toList.any (Tryz.pinned.checked.prog.ifacesRec ·))) = true := by kernel_rfl
set_option maxRecDepth 100000 in
theorem builtCounts_fact21 : ((Rows.builtCountsRow.loopsOut == Tryz.f3.resultTypes.toList.any (Tryz.pinned.checked.prog.loopsFrom ·))) = true := by kernel_rfl
set_option maxRecDepth 100000 in
theorem builtCounts_fact23 : (Rows.builtCountsRow.shortTexts.isNone) = true := by kernel_rfl
set_option maxRecDepth 100000 in
theorem builtCounts_fact26 : ((Rows.builtCountsRow.lifted == Tryz.pinned.checked.prog.liftsFinal)) = true := by kernel_rfl
set_option maxRecDepth 100000 in
theorem builtCounts_fact27 : ((Tryz.pinned.checked.prog.make == some Rows.builtCountsRow.make)) = true := by kernel_rfl
set_option maxRecDepth 100000 in
theorem builtCounts_fact28 : ((Rows.builtCountsRow.kinds == (if Rows.builtCountsRow.domain.isEmpty then [] else Tryz.f3.params.toList.map fun t => match Tryz.pinned.checked.prog.underlying t with | some (.int k) => some k | _ => none))) = true := by kernel_rfl
set_option maxRecDepth 100000 in
theorem builtCounts_fact29 : ((Rows.builtCountsRow.pinned == Rows.builtCountsRow.pinnedBy)) = true := by kernel_rfl
set_option maxRecDepth 100000 in
theorem builtCounts_fact30 : ((Rows.builtCountsRow.veiled == (Tryz.f3.params.toList ++ Rows.builtCountsSpec.plain.varTypes Tryz.pinned.checked.prog ++ Tryz.f3.resultTypes.toList).any (Tryz.pinned.checked.prog.veiledRec ·))) = true := by kernel_rfl
set_option maxRecDepth 100000 in
theorem builtCounts_fact31 : (Rows.builtCountsRow.veiledFits Tryz.pinned.checked.prog Tryz.f3.params.toList (Tryz.f3.params.toList ++ Rows.builtCountsSpec.plain.varTypes Tryz.pinned.checked.prog ++ Tryz.f3.resultTypes.toList)) = true := by kernel_rfl
theorem builtCounts_and {a b : Bool} (h : a = true) (h' : b = true) : (a && b) = true := by rw [h, h']; rfl
set_option maxRecDepth 100000 in
theorem builtCounts_facts : joinedFacts Tryz.pinned.checked.prog 3 Tryz.f3 Rows.builtCountsSpec Rows.builtCountsRow = true :=
  builtCounts_and (builtCounts_and (builtCounts_and (builtCounts_and (builtCounts_and (builtCounts_and (builtCounts_and (builtCounts_and (builtCounts_and (builtCounts_and (builtCounts_and (builtCounts_and (builtCounts_and (builtCounts_and (builtCounts_and (builtCounts_and (builtCounts_and (builtCounts_and (builtCounts_and (builtCounts_and (builtCounts_and (builtCounts_and (builtCounts_and (builtCounts_and (builtCounts_and (builtCounts_and (builtCounts_and (builtCounts_and (builtCounts_and (builtCounts_and (builtCounts_and (builtCounts_fact0) builtCounts_fact1) builtCounts_fact2) builtCounts_fact3) builtCounts_fact4) builtCounts_fact5) builtCounts_fact6) builtCounts_fact7) builtCounts_fact8) builtCounts_fact9) builtCounts_fact10) builtCounts_fact11) builtCounts_fact12) builtCounts_fact13) builtCounts_fact14) builtCounts_fact15) builtCounts_fact16) builtCounts_fact17) builtCounts_fact18) builtCounts_fact19) builtCounts_fact20) builtCounts_fact21) builtCounts_fact22) builtCounts_fact23) builtCounts_fact24) builtCounts_fact25) builtCounts_fact26) builtCounts_fact27) builtCounts_fact28) builtCounts_fact29) builtCounts_fact30) builtCounts_fact31
end Go.Proofs.YteibjeicgeophaaGreatDoor
