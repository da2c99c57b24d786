/- The closed facts of the row of 'ParseKnown' of 'YtbgihphpbmhalaaGreatDoor', together. No condition. -/
import Derived.Test.YtbgihphpbmhalaaGreatDoorTie
import Derived.Test.YtbgihphpbmhalaaGreatDoorCards
import Derived.JoinedOf
import Derived.Test.YtbgihphpbmhalaaGreatDoorParseKnownFacts1
import Derived.Test.YtbgihphpbmhalaaGreatDoorParseKnownFacts2
import Derived.Test.YtbgihphpbmhalaaGreatDoorParseKnownFacts3
import Derived.Test.YtbgihphpbmhalaaGreatDoorParseKnownFacts4
namespace Go.Proofs.YtbgihphpbmhalaaGreatDoor
set_option maxRecDepth 100000 in
theorem parseKnown_fact0 : (Rows.parseKnownRow.wf (OpenSpec.ofChange Rows.parseKnownSpec)) = true := by kernel_rfl
set_option maxRecDepth 100000 in
theorem parseKnown_fact3 : (Tryz.f3.params.all (Tryz.pinned.checked.prog.readableRec ·)) = true := by kernel_rfl
set_option maxRecDepth 100000 in
theorem parseKnown_fact4 : (namedTie Tryz.pinned.checked.prog Rows.parseKnownRow.named Rows.parseKnownSpec.vars) = true := by kernel_rfl
set_option maxRecDepth 100000 in
theorem parseKnown_fact5 : ((Rows.parseKnownRow.stops == [])) = true := by kernel_rfl
set_option maxRecDepth 100000 in
theorem parseKnown_fact6 : ((Tryz.pinned.checked.prog.stops == [])) = true := by kernel_rfl
set_option maxRecDepth 100000 in
theorem parseKnown_fact7 : ((Rows.parseKnownRow.knobs == [])) = true := by kernel_rfl
set_option maxRecDepth 100000 in
theorem parseKnown_fact8 : ((Tryz.pinned.checked.prog.stopKnobs == [])) = true := by kernel_rfl
set_option maxRecDepth 100000 in
theorem parseKnown_fact13 : ((Rows.parseKnownRow.maps == (Tryz.f3.params.toList ++ Rows.parseKnownSpec.plain.varTypes Tryz.pinned.checked.prog).any (Tryz.pinned.checked.prog.mapsRec ·))) = true := by kernel_rfl
set_option maxRecDepth 100000 in
theorem parseKnown_fact14 : ((Rows.parseKnownRow.ifaces == (Tryz.f3.params.toList ++ Rows.parseKnownSpec.plain.varTypes Tryz.pinned.checked.prog).any (Tryz.pinned.checked.prog.ifacesRec ·))) = true := by kernel_rfl
set_option maxRecDepth 100000 in
theorem parseKnown_fact15 : ((Rows.parseKnownRow.mapsOut == Tryz.pinned.checked.prog.mapsAmong Tryz.f3.resultTypes.toList)) = true := by kernel_rfl
set_option maxRecDepth 100000 in
theorem parseKnown_fact16 : ((Rows.parseKnownRow.loops == (Tryz.f3.params.toList ++ Rows.parseKnownSpec.plain.varTypes Tryz.pinned.checked.prog).any (Tryz.pinned.checked.prog.loopsFrom ·))) = true := by kernel_rfl
set_option maxRecDepth 100000 in
theorem parseKnown_fact17 : ((Rows.parseKnownRow.wideKeys == (Tryz.f3.params.toList ++ Rows.parseKnownSpec.plain.varTypes Tryz.pinned.checked.prog ++ Tryz.f3.resultTypes.toList).any (Tryz.pinned.checked.prog.wideKeysFrom ·))) = true := by kernel_rfl
set_option maxRecDepth 100000 in
theorem parseKnown_fact18 : (Rows.parseKnownSpec.vars.all (Tryz.pinned.checked.prog.varReadable ·)) = true := by kernel_rfl
set_option maxRecDepth 100000 in
theorem parseKnown_fact19 : (Tryz.f3.resultTypes.all (fun t => Tryz.pinned.checked.prog.readableRec t && decide (t < Tryz.pinned.checked.prog.types.size))) = true := by kernel_rfl
set_option maxRecDepth 100000 in
theorem parseKnown_fact20 : ((Rows.parseKnownRow.ifacesOut == Tryz.f3.resultTypes.toList.any (Tryz.pinned.checked.prog.ifacesRec ·))) = true := by kernel_rfl
set_option maxRecDepth 100000 in
theorem parseKnown_fact21 : ((Rows.parseKnownRow.loopsOut == Tryz.f3.resultTypes.toList.any (Tryz.pinned.checked.prog.loopsFrom ·))) = true := by kernel_rfl
set_option maxRecDepth 100000 in
theorem parseKnown_fact23 : (Rows.parseKnownRow.shortTexts.isNone) = true := by kernel_rfl
set_option maxRecDepth 100000 in
theorem parseKnown_fact26 : ((Rows.parseKnownRow.lifted == Tryz.pinned.checked.prog.liftsFinal)) = true := by kernel_rfl
set_option maxRecDepth 100000 in
theorem parseKnown_fact27 : ((Tryz.pinned.checked.prog.make == some Rows.parseKnownRow.make)) = true := by kernel_rfl
set_option maxRecDepth 100000 in
theorem parseKnown_fact28 : ((Rows.parseKnownRow.kinds == (if Rows.parseKnownRow.domain.isEmpty then [] else Tryz.f3.params.toList.map fun t => match Tryz.pinned.checked.prog.underlying t with | some (.int k) => some k | _ => none))) = true := by kernel_rfl
set_option maxRecDepth 100000 in
theorem parseKnown_fact29 : ((Rows.parseKnownRow.pinned == Rows.parseKnownRow.pinnedBy)) = true := by kernel_rfl
set_option maxRecDepth 100000 in
theorem parseKnown_fact30 : ((Rows.parseKnownRow.veiled == (Tryz.f3.params.toList ++ Rows.parseKnownSpec.plain.varTypes Tryz.pinned.checked.prog ++ Tryz.f3.resultTypes.toList).any (Tryz.pinned.checked.prog.veiledRec ·))) = true := by kernel_rfl
set_option maxRecDepth 100000 in
theorem parseKnown_fact31 : (Rows.parseKnownRow.veiledFits Tryz.pinned.checked.prog Tryz.f3.params.toList (Tryz.f3.params.toList ++ Rows.parseKnownSpec.plain.varTypes Tryz.pinned.checked.prog ++ Tryz.f3.resultTypes.toList)) = true := by kernel_rfl
theorem parseKnown_and {a b : Bool} (h : a = true) (h' : b = true) : (a && b) = true := by rw [h, h']; rfl
set_option maxRecDepth 100000 in
theorem parseKnown_facts : joinedFacts Tryz.pinned.checked.prog 3 Tryz.f3 Rows.parseKnownSpec Rows.parseKnownRow = true :=
  parseKnown_and (parseKnown_and (parseKnown_and (parseKnown_and (parseKnown_and (parseKnown_and (parseKnown_and (parseKnown_and (parseKnown_and (parseKnown_and (parseKnown_and (parseKnown_and (parseKnown_and (parseKnown_and (parseKnown_and (parseKnown_and (parseKnown_and (parseKnown_and (parseKnown_and (parseKnown_and (parseKnown_and (parseKnown_and (parseKnown_and (parseKnown_and (parseKnown_and (parseKnown_and (parseKnown_and (parseKnown_and (parseKnown_and (parseKnown_and (parseKnown_and (parseKnown_fact0) parseKnown_fact1) parseKnown_fact2) parseKnown_fact3) parseKnown_fact4) parseKnown_fact5) parseKnown_fact6) parseKnown_fact7) parseKnown_fact8) parseKnown_fact9) parseKnown_fact10) parseKnown_fact11) parseKnown_fact12) parseKnown_fact13) parseKnown_fact14) parseKnown_fact15) parseKnown_fact16) parseKnown_fact17) parseKnown_fact18) parseKnown_fact19) parseKnown_fact20) parseKnown_fact21) parseKnown_fact22) parseKnown_fact23) parseKnown_fact24) parseKnown_fact25) parseKnown_fact26) parseKnown_fact27) parseKnown_fact28) parseKnown_fact29) parseKnown_fact30) parseKnown_fact31
end Go.Proofs.YtbgihphpbmhalaaGreatDoor
