/- The closed facts of the row of 'BuiltKnown' of 'YtbjfdogcacpfiaaGreatDoor', together. No condition. -/
import Derived.Test.YtbjfdogcacpfiaaGreatDoorTie
import Derived.Test.YtbjfdogcacpfiaaGreatDoorCards
import Derived.JoinedOf
import Derived.Test.YtbjfdogcacpfiaaGreatDoorBuiltKnownFacts1
import Derived.Test.YtbjfdogcacpfiaaGreatDoorBuiltKnownFacts2
import Derived.Test.YtbjfdogcacpfiaaGreatDoorBuiltKnownFacts3
import Derived.Test.YtbjfdogcacpfiaaGreatDoorBuiltKnownFacts4
namespace Go.Proofs.YtbjfdogcacpfiaaGreatDoor
set_option maxRecDepth 100000 in
theorem builtKnown_fact0 : (Rows.builtKnownRow.wf (OpenSpec.ofChange Rows.builtKnownSpec)) = true := by kernel_rfl
set_option maxRecDepth 100000 in
theorem builtKnown_fact3 : (Tryz.f3.params.all (Tryz.pinned.checked.prog.readableRec ·)) = true := by kernel_rfl
set_option maxRecDepth 100000 in
theorem builtKnown_fact4 : (namedTie Tryz.pinned.checked.prog Rows.builtKnownRow.named Rows.builtKnownSpec.vars) = true := by kernel_rfl
set_option maxRecDepth 100000 in
theorem builtKnown_fact5 : ((Rows.builtKnownRow.stops == [])) = true := by kernel_rfl
set_option maxRecDepth 100000 in
theorem builtKnown_fact6 : ((Tryz.pinned.checked.prog.stops == [])) = true := by kernel_rfl
set_option maxRecDepth 100000 in
theorem builtKnown_fact7 : ((Rows.builtKnownRow.knobs == [])) = true := by kernel_rfl
set_option maxRecDepth 100000 in
theorem builtKnown_fact8 : ((Tryz.pinned.checked.prog.stopKnobs == [])) = true := by kernel_rfl
set_option maxRecDepth 100000 in
theorem builtKnown_fact13 : ((Rows.builtKnownRow.maps == (Tryz.f3.params.toList ++ Rows.builtKnownSpec.plain.varTypes Tryz.pinned.checked.prog).any (Tryz.pinned.checked.prog.mapsRec ·))) = true := by kernel_rfl
set_option maxRecDepth 100000 in
theorem builtKnown_fact14 : ((Rows.builtKnownRow.ifaces == (Tryz.f3.params.toList ++ Rows.builtKnownSpec.plain.varTypes Tryz.pinned.checked.prog).any (Tryz.pinned.checked.prog.ifacesRec ·))) = true := by kernel_rfl
set_option maxRecDepth 100000 in
theorem builtKnown_fact15 : ((Rows.builtKnownRow.mapsOut == Tryz.pinned.checked.prog.mapsAmong Tryz.f3.resultTypes.toList)) = true := by kernel_rfl
set_option maxRecDepth 100000 in
theorem builtKnown_fact16 : ((Rows.builtKnownRow.loops == (Tryz.f3.params.toList ++ Rows.builtKnownSpec.plain.varTypes Tryz.pinned.checked.prog).any (Tryz.pinned.checked.prog.loopsFrom ·))) = true := by kernel_rfl
set_option maxRecDepth 100000 in
theorem builtKnown_fact17 : ((Rows.builtKnownRow.wideKeys == (Tryz.f3.params.toList ++ Rows.builtKnownSpec.plain.varTypes Tryz.pinned.checked.prog ++ Tryz.f3.resultTypes.toList).any (Tryz.pinned.checked.prog.wideKeysFrom ·))) = true := by kernel_rfl
set_option maxRecDepth 100000 in
theorem builtKnown_fact18 : (Rows.builtKnownSpec.vars.all (Tryz.pinned.checked.prog.varReadable ·)) = true := by kernel_rfl
set_option maxRecDepth 100000 in
theorem builtKnown_fact19 : (Tryz.f3.resultTypes.all (fun t => Tryz.pinned.checked.prog.readableRec t && decide (t < Tryz.pinned.checked.prog.types.size))) = true := by kernel_rfl
set_option maxRecDepth 100000 in
theorem builtKnown_fact20 : ((Rows.builtKnownRow.ifacesOut == Tryz.f3.resultTypes.toList.any (Tryz.pinned.checked.prog.ifacesRec ·))) = true := by kernel_rfl
set_option maxRecDepth 100000 in
theorem builtKnown_fact21 : ((Rows.builtKnownRow.loopsOut == Tryz.f3.resultTypes.toList.any (Tryz.pinned.checked.prog.loopsFrom ·))) = true := by kernel_rfl
set_option maxRecDepth 100000 in
theorem builtKnown_fact23 : (Rows.builtKnownRow.shortTexts.isNone) = true := by kernel_rfl
set_option maxRecDepth 100000 in
theorem builtKnown_fact26 : ((Rows.builtKnownRow.lifted == Tryz.pinned.checked.prog.liftsFinal)) = true := by kernel_rfl
set_option maxRecDepth 100000 in
theorem builtKnown_fact27 : ((Tryz.pinned.checked.prog.make == some Rows.builtKnownRow.make)) = true := by kernel_rfl
set_option maxRecDepth 100000 in
theorem builtKnown_fact28 : ((Rows.builtKnownRow.kinds == (if Rows.builtKnownRow.domain.isEmpty then [] else Tryz.f3.params.toList.map fun t => match Tryz.pinned.checked.prog.underlying t with | some (.int k) => some k | _ => none))) = true := by kernel_rfl
set_option maxRecDepth 100000 in
theorem builtKnown_fact29 : ((Rows.builtKnownRow.pinned == Rows.builtKnownRow.pinnedBy)) = true := by kernel_rfl
set_option maxRecDepth 100000 in
theorem builtKnown_fact30 : ((Rows.builtKnownRow.veiled == (Tryz.f3.params.toList ++ Rows.builtKnownSpec.plain.varTypes Tryz.pinned.checked.prog ++ Tryz.f3.resultTypes.toList).any (Tryz.pinned.checked.prog.veiledRec ·))) = true := by kernel_rfl
set_option maxRecDepth 100000 in
theorem builtKnown_fact31 : (Rows.builtKnownRow.veiledFits Tryz.pinned.checked.prog Tryz.f3.params.toList (Tryz.f3.params.toList ++ Rows.builtKnownSpec.plain.varTypes Tryz.pinned.checked.prog ++ Tryz.f3.resultTypes.toList)) = true := by kernel_rfl
theorem builtKnown_and {a b : Bool} (h : a = true) (h' : b = true) : (a && b) = true := by rw [h, h']; rfl
set_option maxRecDepth 100000 in
theorem builtKnown_facts : joinedFacts Tryz.pinned.checked.prog 3 Tryz.f3 Rows.builtKnownSpec Rows.builtKnownRow = true :=
  builtKnown_and (builtKnown_and (builtKnown_and (builtKnown_and (builtKnown_and (builtKnown_and (builtKnown_and (builtKnown_and (builtKnown_and (builtKnown_and (builtKnown_and (builtKnown_and (builtKnown_and (builtKnown_and (builtKnown_and (builtKnown_and (builtKnown_and (builtKnown_and (builtKnown_and (builtKnown_and (builtKnown_and (builtKnown_and (builtKnown_and (builtKnown_and (builtKnown_and (builtKnown_and (builtKnown_and (builtKnown_and (builtKnown_and (builtKnown_and (builtKnown_and (builtKnown_fact0) builtKnown_fact1) builtKnown_fact2) builtKnown_fact3) builtKnown_fact4) builtKnown_fact5) builtKnown_fact6) builtKnown_fact7) builtKnown_fact8) builtKnown_fact9) builtKnown_fact10) builtKnown_fact11) builtKnown_fact12) builtKnown_fact13) builtKnown_fact14) builtKnown_fact15) builtKnown_fact16) builtKnown_fact17) builtKnown_fact18) builtKnown_fact19) builtKnown_fact20) builtKnown_fact21) builtKnown_fact22) builtKnown_fact23) builtKnown_fact24) builtKnown_fact25) builtKnown_fact26) builtKnown_fact27) builtKnown_fact28) builtKnown_fact29) builtKnown_fact30) builtKnown_fact31
end Go.Proofs.YtbjfdogcacpfiaaGreatDoor
