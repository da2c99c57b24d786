/- The closed facts of the row of 'PickNone' of 'YtfiefdhgfinbjaaGreatDoor', together. No condition. -/
import Derived.Test.YtfiefdhgfinbjaaGreatDoorTie
import Derived.Test.YtfiefdhgfinbjaaGreatDoorCards
import Derived.JoinedOf
import Derived.Test.YtfiefdhgfinbjaaGreatDoorPickNoneFacts1
import Derived.Test.YtfiefdhgfinbjaaGreatDoorPickNoneFacts2
import Derived.Test.YtfiefdhgfinbjaaGreatDoorPickNoneFacts3
import Derived.Test.YtfiefdhgfinbjaaGreatDoorPickNoneFacts4
namespace Go.Proofs.YtfiefdhgfinbjaaGreatDoor
set_option maxRecDepth 100000 in
theorem pickNone_fact0 : (Rows.pickNoneRow.wf (OpenSpec.ofChange Rows.pickNoneSpec)) = true := by kernel_rfl
set_option maxRecDepth 100000 in
theorem pickNone_fact3 : (Tryz.f3.params.all (Tryz.pinned.checked.prog.readableRec ·)) = true := by kernel_rfl
set_option maxRecDepth 100000 in
theorem pickNone_fact4 : (namedTie Tryz.pinned.checked.prog Rows.pickNoneRow.named Rows.pickNoneSpec.vars) = true := by kernel_rfl
set_option maxRecDepth 100000 in
theorem pickNone_fact5 : ((Rows.pickNoneRow.stops == [])) = true := by kernel_rfl
set_option maxRecDepth 100000 in
theorem pickNone_fact6 : ((Tryz.pinned.checked.prog.stops == [])) = true := by kernel_rfl
set_option maxRecDepth 100000 in
theorem pickNone_fact7 : ((Rows.pickNoneRow.knobs == [])) = true := by kernel_rfl
set_option maxRecDepth 100000 in
theorem pickNone_fact8 : ((Tryz.pinned.checked.prog.stopKnobs == [])) = true := by kernel_rfl
set_option maxRecDepth 100000 in
theorem pickNone_fact13 : ((Rows.pickNoneRow.maps == (Tryz.f3.params.toList ++ Rows.pickNoneSpec.plain.varTypes Tryz.pinned.checked.prog).any (Tryz.pinned.checked.prog.mapsRec ·))) = true := by kernel_rfl
set_option maxRecDepth 100000 in
theorem pickNone_fact14 : ((Rows.pickNoneRow.ifaces == (Tryz.f3.params.toList ++ Rows.pickNoneSpec.plain.varTypes Tryz.pinned.checked.prog).any (Tryz.pinned.checked.prog.ifacesRec ·))) = true := by kernel_rfl
set_option maxRecDepth 100000 in
theorem pickNone_fact15 : ((Rows.pickNoneRow.mapsOut == Tryz.pinned.checked.prog.mapsAmong Tryz.f3.resultTypes.toList)) = true := by kernel_rfl
set_option maxRecDepth 100000 in
theorem pickNone_fact16 : ((Rows.pickNoneRow.loops == (Tryz.f3.params.toList ++ Rows.pickNoneSpec.plain.varTypes Tryz.pinned.checked.prog).any (Tryz.pinned.checked.prog.loopsFrom ·))) = true := by kernel_rfl
set_option maxRecDepth 100000 in
theorem pickNone_fact17 : ((Rows.pickNoneRow.wideKeys == (Tryz.f3.params.toList ++ Rows.pickNoneSpec.plain.varTypes Tryz.pinned.checked.prog ++ Tryz.f3.resultTypes.toList).any (Tryz.pinned.checked.prog.wideKeysFrom ·))) = true := by kernel_rfl
set_option maxRecDepth 100000 in
theorem pickNone_fact18 : (Rows.pickNoneSpec.vars.all (Tryz.pinned.checked.prog.varReadable ·)) = true := by kernel_rfl
set_option maxRecDepth 100000 in
theorem pickNone_fact19 : (Tryz.f3.resultTypes.all (fun t => Tryz.pinned.checked.prog.readableRec t && decide (t < Tryz.pinned.checked.prog.types.size))) = true := by kernel_rfl
set_option maxRecDepth 100000 in
theorem pickNone_fact20 : ((Rows.pickNoneRow.ifacesOut == Tryz.f3.resultTypes.toList.any (Tryz.pinned.checked.prog.ifacesRec ·))) = true := by kernel_rfl
set_option maxRecDepth 100000 in
theorem pickNone_fact21 : ((Rows.pickNoneRow.loopsOut == Tryz.f3.resultTypes.toList.any (Tryz.pinned.checked.prog.loopsFrom ·))) = true := by kernel_rfl
set_option maxRecDepth 100000 in
theorem pickNone_fact23 : (Rows.pickNoneRow.shortTexts.isNone) = true := by kernel_rfl
set_option maxRecDepth 100000 in
theorem pickNone_fact26 : ((Rows.pickNoneRow.lifted == Tryz.pinned.checked.prog.liftsFinal)) = true := by kernel_rfl
set_option maxRecDepth 100000 in
theorem pickNone_fact27 : ((Tryz.pinned.checked.prog.make == some Rows.pickNoneRow.make)) = true := by kernel_rfl
set_option maxRecDepth 100000 in
theorem pickNone_fact28 : ((Rows.pickNoneRow.kinds == (if Rows.pickNoneRow.domain.isEmpty then [] else Tryz.f3.params.toList.map fun t => match Tryz.pinned.checked.prog.underlying t with | some (.int k) => some k | _ => none))) = true := by kernel_rfl
set_option maxRecDepth 100000 in
theorem pickNone_fact29 : ((Rows.pickNoneRow.pinned == Rows.pickNoneRow.pinnedBy)) = true := by kernel_rfl
set_option maxRecDepth 100000 in
theorem pickNone_fact30 : ((Rows.pickNoneRow.veiled == (Tryz.f3.params.toList ++ Rows.pickNoneSpec.plain.varTypes Tryz.pinned.checked.prog ++ Tryz.f3.resultTypes.toList).any (Tryz.pinned.checked.prog.veiledRec ·))) = true := by kernel_rfl
set_option maxRecDepth 100000 in
theorem pickNone_fact31 : (Rows.pickNoneRow.veiledFits Tryz.pinned.checked.prog Tryz.f3.params.toList (Tryz.f3.params.toList ++ Rows.pickNoneSpec.plain.varTypes Tryz.pinned.checked.prog ++ Tryz.f3.resultTypes.toList)) = true := by kernel_rfl
theorem pickNone_and {a b : Bool} (h : a = true) (h' : b = true) : (a && b) = true := by rw [h, h']; rfl
set_option maxRecDepth 100000 in
theorem pickNone_facts : joinedFacts Tryz.pinned.checked.prog 3 Tryz.f3 Rows.pickNoneSpec Rows.pickNoneRow = true :=
  pickNone_and (pickNone_and (pickNone_and (pickNone_and (pickNone_and (pickNone_and (pickNone_and (pickNone_and (pickNone_and (pickNone_and (pickNone_and (pickNone_and (pickNone_and (pickNone_and (pickNone_and (pickNone_and (pickNone_and (pickNone_and (pickNone_and (pickNone_and (pickNone_and (pickNone_and (pickNone_and (pickNone_and (pickNone_and (pickNone_and (pickNone_and (pickNone_and (pickNone_and (pickNone_and (pickNone_and (pickNone_fact0) pickNone_fact1) pickNone_fact2) pickNone_fact3) pickNone_fact4) pickNone_fact5) pickNone_fact6) pickNone_fact7) pickNone_fact8) pickNone_fact9) pickNone_fact10) pickNone_fact11) pickNone_fact12) pickNone_fact13) pickNone_fact14) pickNone_fact15) pickNone_fact16) pickNone_fact17) pickNone_fact18) pickNone_fact19) pickNone_fact20) pickNone_fact21) pickNone_fact22) pickNone_fact23) pickNone_fact24) pickNone_fact25) pickNone_fact26) pickNone_fact27) pickNone_fact28) pickNone_fact29) pickNone_fact30) pickNone_fact31
end Go.Proofs.YtfiefdhgfinbjaaGreatDoor
