/- The closed facts of the row of 'BuiltNone' of 'YtbjfdogcacpfiaaGreatDoor', together. No condition. -/
import Derived.Test.YtbjfdogcacpfiaaGreatDoorTie
import Derived.Test.YtbjfdogcacpfiaaGreatDoorCards
import Derived.JoinedOf
import Derived.Test.YtbjfdogcacpfiaaGreatDoorBuiltNoneFacts1
import Derived.Test.YtbjfdogcacpfiaaGreatDoorBuiltNoneFacts2
import Derived.Test.YtbjfdogcacpfiaaGreatDoorBuiltNoneFacts3
import Derived.Test.YtbjfdogcacpfiaaGreatDoorBuiltNoneFacts4
namespace Go.Proofs.YtbjfdogcacpfiaaGreatDoor
set_option maxRecDepth 100000 in
theorem builtNone_fact0 : (Rows.builtNoneRow.wf (OpenSpec.ofChange Rows.builtNoneSpec)) = true := by kernel_rfl
set_option maxRecDepth 100000 in
theorem builtNone_fact3 : (Tryz.f4.params.all (Tryz.pinned.checked.prog.readableRec ·)) = true := by kernel_rfl
set_option maxRecDepth 100000 in
theorem builtNone_fact4 : (namedTie Tryz.pinned.checked.prog Rows.builtNoneRow.named Rows.builtNoneSpec.vars) = true := by kernel_rfl
set_option maxRecDepth 100000 in
theorem builtNone_fact5 : ((Rows.builtNoneRow.stops == [])) = true := by kernel_rfl
set_option maxRecDepth 100000 in
theorem builtNone_fact6 : ((Tryz.pinned.checked.prog.stops == [])) = true := by kernel_rfl
set_option maxRecDepth 100000 in
theorem builtNone_fact7 : ((Rows.builtNoneRow.knobs == [])) = true := by kernel_rfl
set_option maxRecDepth 100000 in
theorem builtNone_fact8 : ((Tryz.pinned.checked.prog.stopKnobs == [])) = true := by kernel_rfl
set_option maxRecDepth 100000 in
theorem builtNone_fact13 : ((Rows.builtNoneRow.maps == (Tryz.f4.params.toList ++ Rows.builtNoneSpec.plain.varTypes Tryz.pinned.checked.prog).any (Tryz.pinned.checked.prog.mapsRec ·))) = true := by kernel_rfl
set_option maxRecDepth 100000 in
theorem builtNone_fact14 : ((Rows.builtNoneRow.ifaces == (Tryz.f4.params.toList ++ Rows.builtNoneSpec.plain.varTypes Tryz.pinned.checked.prog).any (Tryz.pinned.checked.prog.ifacesRec ·))) = true := by kernel_rfl
set_option maxRecDepth 100000 in
theorem builtNone_fact15 : ((Rows.builtNoneRow.mapsOut == Tryz.pinned.checked.prog.mapsAmong Tryz.f4.resultTypes.toList)) = true := by kernel_rfl
set_option maxRecDepth 100000 in
theorem builtNone_fact16 : ((Rows.builtNoneRow.loops == (Tryz.f4.params.toList ++ Rows.builtNoneSpec.plain.varTypes Tryz.pinned.checked.prog).any (Tryz.pinned.checked.prog.loopsFrom ·))) = true := by kernel_rfl
set_option maxRecDepth 100000 in
theorem builtNone_fact17 : ((Rows.builtNoneRow.wideKeys == (Tryz.f4.params.toList ++ Rows.builtNoneSpec.plain.varTypes Tryz.pinned.checked.prog ++ Tryz.f4.resultTypes.toList).any (Tryz.pinned.checked.prog.wideKeysFrom ·))) = true := by kernel_rfl
set_option maxRecDepth 100000 in
theorem builtNone_fact18 : (Rows.builtNoneSpec.vars.all (Tryz.pinned.checked.prog.varReadable ·)) = true := by kernel_rfl
set_option maxRecDepth 100000 in
theorem builtNone_fact19 : (Tryz.f4.resultTypes.all (fun t => Tryz.pinned.checked.prog.readableRec t && decide (t < Tryz.pinned.checked.prog.types.size))) = true := by kernel_rfl
set_option maxRecDepth 100000 in
theorem builtNone_fact20 : ((Rows.builtNoneRow.ifacesOut == Tryz.f4.resultTypes.toList.any (Tryz.pinned.checked.prog.ifacesRec ·))) = true := by kernel_rfl
set_option maxRecDepth 100000 in
theorem builtNone_fact21 : ((Rows.builtNoneRow.loopsOut == Tryz.f4.resultTypes.toList.any (Tryz.pinned.checked.prog.loopsFrom ·))) = true := by kernel_rfl
set_option maxRecDepth 100000 in
theorem builtNone_fact23 : (Rows.builtNoneRow.shortTexts.isNone) = true := by kernel_rfl
set_option maxRecDepth 100000 in
theorem builtNone_fact26 : ((Rows.builtNoneRow.lifted == Tryz.pinned.checked.prog.liftsFinal)) = true := by kernel_rfl
set_option maxRecDepth 100000 in
theorem builtNone_fact27 : ((Tryz.pinned.checked.prog.make == some Rows.builtNoneRow.make)) = true := by kernel_rfl
set_option maxRecDepth 100000 in
theorem builtNone_fact28 : ((Rows.builtNoneRow.kinds == (if Rows.builtNoneRow.domain.isEmpty then [] else Tryz.f4.params.toList.map fun t => match Tryz.pinned.checked.prog.underlying t with | some (.int k) => some k | _ => none))) = true := by kernel_rfl
set_option maxRecDepth 100000 in
theorem builtNone_fact29 : ((Rows.builtNoneRow.pinned == Rows.builtNoneRow.pinnedBy)) = true := by kernel_rfl
set_option maxRecDepth 100000 in
theorem builtNone_fact30 : ((Rows.builtNoneRow.veiled == (Tryz.f4.params.toList ++ Rows.builtNoneSpec.plain.varTypes Tryz.pinned.checked.prog ++ Tryz.f4.resultTypes.toList).any (Tryz.pinned.checked.prog.veiledRec ·))) = true := by kernel_rfl
set_option maxRecDepth 100000 in
theorem builtNone_fact31 : (Rows.builtNoneRow.veiledFits Tryz.pinned.checked.prog Tryz.f4.params.toList (Tryz.f4.params.toList ++ Rows.builtNoneSpec.plain.varTypes Tryz.pinned.checked.prog ++ Tryz.f4.resultTypes.toList)) = true := by kernel_rfl
theorem builtNone_and {a b : Bool} (h : a = true) (h' : b = true) : (a && b) = true := by rw [h, h']; rfl
set_option maxRecDepth 100000 in
theorem builtNone_facts : joinedFacts Tryz.pinned.checked.prog 4 Tryz.f4 Rows.builtNoneSpec Rows.builtNoneRow = true :=
  builtNone_and (builtNone_and (builtNone_and (builtNone_and (builtNone_and (builtNone_and (builtNone_and (builtNone_and (builtNone_and (builtNone_and (builtNone_and (builtNone_and (builtNone_and (builtNone_and (builtNone_and (builtNone_and (builtNone_and (builtNone_and (builtNone_and (builtNone_and (builtNone_and (builtNone_and (builtNone_and (builtNone_and (builtNone_and (builtNone_and (builtNone_and (builtNone_and (builtNone_and (builtNone_and (builtNone_and (builtNone_fact0) builtNone_fact1) builtNone_fact2) builtNone_fact3) builtNone_fact4) builtNone_fact5) builtNone_fact6) builtNone_fact7) builtNone_fact8) builtNone_fact9) builtNone_fact10) builtNone_fact11) builtNone_fact12) builtNone_fact13) builtNone_fact14) builtNone_fact15) builtNone_fact16) builtNone_fact17) builtNone_fact18) builtNone_fact19) builtNone_fact20) builtNone_fact21) builtNone_fact22) builtNone_fact23) builtNone_fact24) builtNone_fact25) builtNone_fact26) builtNone_fact27) builtNone_fact28) builtNone_fact29) builtNone_fact30) builtNone_fact31
end Go.Proofs.YtbjfdogcacpfiaaGreatDoor
