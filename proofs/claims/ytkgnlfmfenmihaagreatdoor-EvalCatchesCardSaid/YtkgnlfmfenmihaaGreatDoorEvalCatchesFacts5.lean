/- The closed facts of the row of 'EvalCatches' of 'YtkgnlfmfenmihaaGreatDoor', together. No condition. -/
import Derived.Test.YtkgnlfmfenmihaaGreatDoorTie
import Derived.Test.YtkgnlfmfenmihaaGreatDoorCards
import Derived.JoinedOf
import Derived.Test.YtkgnlfmfenmihaaGreatDoorEvalCatchesFacts1
import Derived.Test.YtkgnlfmfenmihaaGreatDoorEvalCatchesFacts2
import Derived.Test.YtkgnlfmfenmihaaGreatDoorEvalCatchesFacts3
import Derived.Test.YtkgnlfmfenmihaaGreatDoorEvalCatchesFacts4
namespace Go.Proofs.YtkgnlfmfenmihaaGreatDoor
set_option maxRecDepth 100000 in
theorem evalCatches_fact0 : (Rows.evalCatchesRow.wf (OpenSpec.ofChange Rows.evalCatchesSpec)) = true := by kernel_rfl
set_option maxRecDepth 100000 in
theorem evalCatches_fact3 : (Tryz.f3.params.all (Tryz.pinned.checked.prog.readableRec ·)) = true := by kernel_rfl
set_option maxRecDepth 100000 in
theorem evalCatches_fact4 : (namedTie Tryz.pinned.checked.prog Rows.evalCatchesRow.named Rows.evalCatchesSpec.vars) = true := by kernel_rfl
set_option maxRecDepth 100000 in
theorem evalCatches_fact5 : ((Rows.evalCatchesRow.stops == [])) = true := by kernel_rfl
set_option maxRecDepth 100000 in
theorem evalCatches_fact6 : ((Tryz.pinned.checked.prog.stops == [])) = true := by kernel_rfl
set_option maxRecDepth 100000 in
theorem evalCatches_fact7 : ((Rows.evalCatchesRow.knobs == [])) = true := by kernel_rfl
set_option maxRecDepth 100000 in
theorem evalCatches_fact8 : ((Tryz.pinned.checked.prog.stopKnobs == [])) = true := by kernel_rfl
set_option maxRecDepth 100000 in
theorem evalCatches_fact13 : ((Rows.evalCatchesRow.maps == (Tryz.f3.params.toList ++ Rows.evalCatchesSpec.plain.varTypes Tryz.pinned.checked.prog).any (Tryz.pinned.checked.prog.mapsRec ·))) = true := by kernel_rfl
set_option maxRecDepth 100000 in
theorem evalCatches_fact14 : ((Rows.evalCatchesRow.ifaces == (Tryz.f3.params.toList ++ Rows.evalCatchesSpec.plain.varTypes Tryz.pinned.checked.prog).any (Tryz.pinned.checked.prog.ifacesRec ·))) = true := by kernel_rfl
set_option maxRecDepth 100000 in
theorem evalCatches_fact15 : ((Rows.evalCatchesRow.mapsOut == Tryz.pinned.checked.prog.mapsAmong Tryz.f3.resultTypes.toList)) = true := by kernel_rfl
set_option maxRecDepth 100000 in
theorem evalCatches_fact16 : ((Rows.evalCatchesRow.loops == (Tryz.f3.params.toList ++ Rows.evalCatchesSpec.plain.varTypes Tryz.pinned.checked.prog).any (Tryz.pinned.checked.prog.loopsFrom ·))) = true := by kernel_rfl
set_option maxRecDepth 100000 in
theorem evalCatches_fact17 : ((Rows.evalCatchesRow.wideKeys == (Tryz.f3.params.toList ++ Rows.evalCatchesSpec.plain.varTypes Tryz.pinned.checked.prog ++ Tryz.f3.resultTypes.toList).any (Tryz.pinned.checked.prog.wideKeysFrom ·))) = true := by kernel_rfl
set_option maxRecDepth 100000 in
theorem evalCatches_fact18 : (Rows.evalCatchesSpec.vars.all (Tryz.pinned.checked.prog.varReadable ·)) = true := by kernel_rfl
set_option maxRecDepth 100000 in
theorem evalCatches_fact19 : (Tryz.f3.resultTypes.all (fun t => Tryz.pinned.checked.prog.readableRec t && decide (t < Tryz.pinned.checked.prog.types.size))) = true := by kernel_rfl
set_option maxRecDepth 100000 in
theorem evalCatches_fact20 : ((Rows.evalCatchesRow.ifacesOut == Tryz.f3.resultTypes.toList.any (Tryz.pinned.checked.prog.ifacesRec ·))) = true := by kernel_rfl
set_option maxRecDepth 100000 in
theorem evalCatches_fact21 : ((Rows.evalCatchesRow.loopsOut == Tryz.f3.resultTypes.toList.any (Tryz.pinned.checked.prog.loopsFrom ·))) = true := by kernel_rfl
set_option maxRecDepth 100000 in
theorem evalCatches_fact23 : (Rows.evalCatchesRow.shortTexts.isNone) = true := by kernel_rfl
set_option maxRecDepth 100000 in
theorem evalCatches_fact26 : ((Rows.evalCatchesRow.lifted == Tryz.pinned.checked.prog.liftsFinal)) = true := by kernel_rfl
set_option maxRecDepth 100000 in
theorem evalCatches_fact27 : ((Tryz.pinned.checked.prog.make == some Rows.evalCatchesRow.make)) = true := by kernel_rfl
set_option maxRecDepth 100000 in
theorem evalCatches_fact28 : ((Rows.evalCatchesRow.kinds == (if Rows.evalCatchesRow.domain.isEmpty then [] else Tryz.f3.params.toList.map fun t => match Tryz.pinned.checked.prog.underlying t with | some (.int k) => some k | _ => none))) = true := by kernel_rfl
set_option maxRecDepth 100000 in
theorem evalCatches_fact29 : ((Rows.evalCatchesRow.pinned == Rows.evalCatchesRow.pinnedBy)) = true := by kernel_rfl
set_option maxRecDepth 100000 in
theorem evalCatches_fact30 : ((Rows.evalCatchesRow.veiled == (Tryz.f3.params.toList ++ Rows.evalCatchesSpec.plain.varTypes Tryz.pinned.checked.prog ++ Tryz.f3.resultTypes.toList).any (Tryz.pinned.checked.prog.veiledRec ·))) = true := by kernel_rfl
set_option maxRecDepth 100000 in
theorem evalCatches_fact31 : (Rows.evalCatchesRow.veiledFits Tryz.pinned.checked.prog Tryz.f3.params.toList (Tryz.f3.params.toList ++ Rows.evalCatchesSpec.plain.varTypes Tryz.pinned.checked.prog ++ Tryz.f3.resultTypes.toList)) = true := by kernel_rfl
theorem evalCatches_and {a b : Bool} (h : a = true) (h' : b = true) : (a && b) = true := by rw [h, h']; rfl
set_option maxRecDepth 100000 in
theorem evalCatches_facts : joinedFacts Tryz.pinned.checked.prog 3 Tryz.f3 Rows.evalCatchesSpec Rows.evalCatchesRow = true :=
  evalCatches_and (evalCatches_and (evalCatches_and (evalCatches_and (evalCatches_and (evalCatches_and (evalCatches_and (evalCatches_and (evalCatches_and (evalCatches_and (evalCatches_and (evalCatches_and (evalCatches_and (evalCatches_and (evalCatches_and (evalCatches_and (evalCatches_and (evalCatches_and (evalCatches_and (evalCatches_and (evalCatches_and (evalCatches_and (evalCatches_and (evalCatches_and (evalCatches_and (evalCatches_and (evalCatches_and (evalCatches_and (evalCatches_and (evalCatches_and (evalCatches_and (evalCatches_fact0) evalCatches_fact1) evalCatches_fact2) evalCatches_fact3) evalCatches_fact4) evalCatches_fact5) evalCatches_fact6) evalCatches_fact7) evalCatches_fact8) evalCatches_fact9) evalCatches_fact10) evalCatches_fact11) evalCatches_fact12) evalCatches_fact13) evalCatches_fact14) evalCatches_fact15) evalCatches_fact16) evalCatches_fact17) evalCatches_fact18) evalCatches_fact19) evalCatches_fact20) evalCatches_fact21) evalCatches_fact22) evalCatches_fact23) evalCatches_fact24) evalCatches_fact25) evalCatches_fact26) evalCatches_fact27) evalCatches_fact28) evalCatches_fact29) evalCatches_fact30) evalCatches_fact31
end Go.Proofs.YtkgnlfmfenmihaaGreatDoor
