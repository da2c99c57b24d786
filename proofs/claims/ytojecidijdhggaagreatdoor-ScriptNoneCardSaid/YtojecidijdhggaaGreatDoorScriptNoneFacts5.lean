/- The closed facts of the row of 'ScriptNone' of 'YtojecidijdhggaaGreatDoor', together. No condition. -/
import Derived.Test.YtojecidijdhggaaGreatDoorRows
import Derived.Test.YtojecidijdhggaaGreatDoorCards
import Derived.JoinedOf
import Derived.Test.YtojecidijdhggaaGreatDoorScriptNoneFacts1
import Derived.Test.YtojecidijdhggaaGreatDoorScriptNoneFacts2
import Derived.Test.YtojecidijdhggaaGreatDoorScriptNoneFacts3
import Derived.Test.YtojecidijdhggaaGreatDoorScriptNoneFacts4
namespace Go.Proofs.YtojecidijdhggaaGreatDoor
set_option maxRecDepth 100000 in
theorem scriptNone_fact0 : (Rows.scriptNoneRow.wf (OpenSpec.ofChange Rows.scriptNoneSpec)) = true := by kernel_rfl
set_option maxRecDepth 100000 in
theorem scriptNone_fact3 : (Tryz.f3.params.all (Tryz.pinned.checked.prog.readableRec ·)) = true := by kernel_rfl
set_option maxRecDepth 100000 in
theorem scriptNone_fact4 : (namedTie Tryz.pinned.checked.prog Rows.scriptNoneRow.named Rows.scriptNoneSpec.vars) = true := by kernel_rfl
set_option maxRecDepth 100000 in
theorem scriptNone_fact5 : ((Rows.scriptNoneRow.stops == [])) = true := by kernel_rfl
set_option maxRecDepth 100000 in
theorem scriptNone_fact6 : ((Tryz.pinned.checked.prog.stops == [])) = true := by kernel_rfl
set_option maxRecDepth 100000 in
theorem scriptNone_fact7 : ((Rows.scriptNoneRow.knobs == [])) = true := by kernel_rfl
set_option maxRecDepth 100000 in
theorem scriptNone_fact8 : ((Tryz.pinned.checked.prog.stopKnobs == [])) = true := by kernel_rfl
set_option maxRecDepth 100000 in
theorem scriptNone_fact13 : ((Rows.scriptNoneRow.maps == (Tryz.f3.params.toList ++ Rows.scriptNoneSpec.plain.varTypes Tryz.pinned.checked.prog).any (Tryz.pinned.checked.prog.mapsRec ·))) = true := by kernel_rfl
set_option maxRecDepth 100000 in
theorem scriptNone_fact14 : ((Rows.scriptNoneRow.ifaces == (Tryz.f3.params.toList ++ Rows.scriptNoneSpec.plain.varTypes Tryz.pinned.checked.prog).any (Tryz.pinned.checked.prog.ifacesRec ·))) = true := by kernel_rfl
set_option maxRecDepth 100000 in
theorem scriptNone_fact15 : ((Rows.scriptNoneRow.mapsOut == Tryz.pinned.checked.prog.mapsAmong Tryz.f3.resultTypes.toList)) = true := by kernel_rfl
set_option maxRecDepth 100000 in
theorem scriptNone_fact16 : ((Rows.scriptNoneRow.loops == (Tryz.f3.params.toList ++ Rows.scriptNoneSpec.plain.varTypes Tryz.pinned.checked.prog).any (Tryz.pinned.checked.prog.loopsFrom ·))) = true := by kernel_rfl
set_option maxRecDepth 100000 in
theorem scriptNone_fact17 : ((Rows.scriptNoneRow.wideKeys == (Tryz.f3.params.toList ++ Rows.scriptNoneSpec.plain.varTypes Tryz.pinned.checked.prog ++ Tryz.f3.resultTypes.toList).any (Tryz.pinned.checked.prog.wideKeysFrom ·))) = true := by kernel_rfl
set_option maxRecDepth 100000 in
theorem scriptNone_fact18 : (Rows.scriptNoneSpec.vars.all (Tryz.pinned.checked.prog.varReadable ·)) = true := by kernel_rfl
set_option maxRecDepth 100000 in
theorem scriptNone_fact19 : (Tryz.f3.resultTypes.all (fun t => Tryz.pinned.checked.prog.readableRec t && decide (t < Tryz.pinned.checked.prog.types.size))) = true := by kernel_rfl
set_option maxRecDepth 100000 in
theorem scriptNone_fact20 : ((Rows.scriptNoneRow.ifacesOut == Tryz.f3.resultTypes.toList.any (Tryz.pinned.checked.prog.ifacesRec ·))) = true := by kernel_rfl
set_option maxRecDepth 100000 in
theorem scriptNone_fact21 : ((Rows.scriptNoneRow.loopsOut == Tryz.f3.resultTypes.toList.any (Tryz.pinned.checked.prog.loopsFrom ·))) = true := by kernel_rfl
set_option maxRecDepth 100000 in
theorem scriptNone_fact23 : (Rows.scriptNoneRow.shortTexts.isNone) = true := by kernel_rfl
set_option maxRecDepth 100000 in
theorem scriptNone_fact26 : ((Rows.scriptNoneRow.lifted == Tryz.pinned.checked.prog.liftsFinal)) = true := by kernel_rfl
set_option maxRecDepth 100000 in
theorem scriptNone_fact27 : ((Tryz.pinned.checked.prog.make == some Rows.scriptNoneRow.make)) = true := by kernel_rfl
set_option maxRecDepth 100000 in
theorem scriptNone_fact28 : ((Rows.scriptNoneRow.kinds == (if Rows.scriptNoneRow.domain.isEmpty then [] else Tryz.f3.params.toList.map fun t => match Tryz.pinned.checked.prog.underlying t with | some (.int k) => some k | _ => none))) = true := by kernel_rfl
set_option maxRecDepth 100000 in
theorem scriptNone_fact29 : ((Rows.scriptNoneRow.pinned == Rows.scriptNoneRow.pinnedBy)) = true := by kernel_rfl
set_option maxRecDepth 100000 in
theorem scriptNone_fact30 : ((Rows.scriptNoneRow.veiled == (Tryz.f3.params.toList ++ Rows.scriptNoneSpec.plain.varTypes Tryz.pinned.checked.prog ++ Tryz.f3.resultTypes.toList).any (Tryz.pinned.checked.prog.veiledRec ·))) = true := by kernel_rfl
set_option maxRecDepth 100000 in
theorem scriptNone_fact31 : (Rows.scriptNoneRow.veiledFits Tryz.pinned.checked.prog Tryz.f3.params.toList (Tryz.f3.params.toList ++ Rows.scriptNoneSpec.plain.varTypes Tryz.pinned.checked.prog ++ Tryz.f3.resultTypes.toList)) = true := by kernel_rfl
theorem scriptNone_and {a b : Bool} (h : a = true) (h' : b = true) : (a && b) = true := by rw [h, h']; rfl
set_option maxRecDepth 100000 in
theorem scriptNone_facts : joinedFacts Tryz.pinned.checked.prog 3 Tryz.f3 Rows.scriptNoneSpec Rows.scriptNoneRow = true :=
  scriptNone_and (scriptNone_and (scriptNone_and (scriptNone_and (scriptNone_and (scriptNone_and (scriptNone_and (scriptNone_and (scriptNone_and (scriptNone_and (scriptNone_and (scriptNone_and (scriptNone_and (scriptNone_and (scriptNone_and (scriptNone_and (scriptNone_and (scriptNone_and (scriptNone_and (scriptNone_and (scriptNone_and (scriptNone_and (scriptNone_and (scriptNone_and (scriptNone_and (scriptNone_and (scriptNone_and (scriptNone_and (scriptNone_and (scriptNone_and (scriptNone_and (scriptNone_fact0) scriptNone_fact1) scriptNone_fact2) scriptNone_fact3) scriptNone_fact4) scriptNone_fact5) scriptNone_fact6) scriptNone_fact7) scriptNone_fact8) scriptNone_fact9) scriptNone_fact10) scriptNone_fact11) scriptNone_fact12) scriptNone_fact13) scriptNone_fact14) scriptNone_fact15) scriptNone_fact16) scriptNone_fact17) scriptNone_fact18) scriptNone_fact19) scriptNone_fact20) scriptNone_fact21) scriptNone_fact22) scriptNone_fact23) scriptNone_fact24) scriptNone_fact25) scriptNone_fact26) scriptNone_fact27) scriptNone_fact28) scriptNone_fact29) scriptNone_fact30) scriptNone_fact31
end Go.Proofs.YtojecidijdhggaaGreatDoor
