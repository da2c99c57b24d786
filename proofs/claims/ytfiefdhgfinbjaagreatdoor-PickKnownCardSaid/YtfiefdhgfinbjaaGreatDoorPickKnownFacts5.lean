/- The closed facts of the row of 'PickKnown' of 'YtfiefdhgfinbjaaGreatDoor', together. No condition. -/
import Derived.Test.YtfiefdhgfinbjaaGreatDoorTie
import Derived.Test.YtfiefdhgfinbjaaGreatDoorCards
import Derived.JoinedOf
import Derived.Test.YtfiefdhgfinbjaaGreatDoorPickKnownFacts1
import Derived.Test.YtfiefdhgfinbjaaGreatDoorPickKnownFacts2
import Derived.Test.YtfiefdhgfinbjaaGreatDoorPickKnownFacts3
import Derived.Test.YtfiefdhgfinbjaaGreatDoorPickKnownFacts4
namespace Go.Proofs.YtfiefdhgfinbjaaGreatDoor
set_option maxRecDepth 100000 in
theorem pickKnown_fact0 : (Rows.pickKnownRow.wf (OpenSpec.ofChange Rows.pickKnownSpec)) = true := by kernel_rfl
set_option maxRecDepth 100000 in
theorem pickKnown_fact3 : (Tryz.f4.params.all (Tryz.pinned.checked.prog.readableRec ·)) = true := by kernel_rfl
set_option maxRecDepth 100000 in
theorem pickKnown_fact4 : (namedTie Tryz.pinned.checked.prog Rows.pickKnownRow.named Rows.pickKnownSpec.vars) = true := by kernel_rfl
set_option maxRecDepth 100000 in
theorem pickKnown_fact5 : ((Rows.pickKnownRow.stops == [])) = true := by kernel_rfl
set_option maxRecDepth 100000 in
theorem pickKnown_fact6 : ((Tryz.pinned.checked.prog.stops == [])) = true := by kernel_rfl
set_option maxRecDepth 100000 in
theorem pickKnown_fact7 : ((Rows.pickKnownRow.knobs == [])) = true := by kernel_rfl
set_option maxRecDepth 100000 in
theorem pickKnown_fact8 : ((Tryz.pinned.checked.prog.stopKnobs == [])) = true := by kernel_rfl
set_option maxRecDepth 100000 in
theorem pickKnown_fact13 : ((Rows.pickKnownRow.maps == (Tryz.f4.params.toList ++ Rows.pickKnownSpec.plain.varTypes Tryz.pinned.checked.prog).any (Tryz.pinned.checked.prog.mapsRec ·))) = true := by kernel_rfl
set_option maxRecDepth 100000 in
theorem pickKnown_fact14 : ((Rows.pickKnownRow.ifaces == (Tryz.f4.params.toList ++ Rows.pickKnownSpec.plain.varTypes Tryz.pinned.checked.prog).any (Tryz.pinned.checked.prog.ifacesRec ·))) = true := by kernel_rfl
set_option maxRecDepth 100000 in
theorem pickKnown_fact15 : ((Rows.pickKnownRow.mapsOut == Tryz.pinned.checked.prog.mapsAmong Tryz.f4.resultTypes.toList)) = true := by kernel_rfl
set_option maxRecDepth 100000 in
theorem pickKnown_fact16 : ((Rows.pickKnownRow.loops == (Tryz.f4.params.toList ++ Rows.pickKnownSpec.plain.varTypes Tryz.pinned.checked.prog).any (Tryz.pinned.checked.prog.loopsFrom ·))) = true := by kernel_rfl
set_option maxRecDepth 100000 in
theorem pickKnown_fact17 : ((Rows.pickKnownRow.wideKeys == (Tryz.f4.params.toList ++ Rows.pickKnownSpec.plain.varTypes Tryz.pinned.checked.prog ++ Tryz.f4.resultTypes.toList).any (Tryz.pinned.checked.prog.wideKeysFrom ·))) = true := by kernel_rfl
set_option maxRecDepth 100000 in
theorem pickKnown_fact18 : (Rows.pickKnownSpec.vars.all (Tryz.pinned.checked.prog.varReadable ·)) = true := by kernel_rfl
set_option maxRecDepth 100000 in
theorem pickKnown_fact19 : (Tryz.f4.resultTypes.all (fun t => Tryz.pinned.checked.prog.readableRec t && decide (t < Tryz.pinned.checked.prog.types.size))) = true := by kernel_rfl
set_option maxRecDepth 100000 in
theorem pickKnown_fact20 : ((Rows.pickKnownRow.ifacesOut == Tryz.f4.resultTypes.toList.any (Tryz.pinned.checked.prog.ifacesRec ·))) = true := by kernel_rfl
set_option maxRecDepth 100000 in
theorem pickKnown_fact21 : ((Rows.pickKnownRow.loopsOut == Tryz.f4.resultTypes.toList.any (Tryz.pinned.checked.prog.loopsFrom ·))) = true := by kernel_rfl
set_option maxRecDepth 100000 in
theorem pickKnown_fact23 : (Rows.pickKnownRow.shortTexts.isNone) = true := by kernel_rfl
set_option maxRecDepth 100000 in
theorem pickKnown_fact26 : ((Rows.pickKnownRow.lifted == Tryz.pinned.checked.prog.liftsFinal)) = true := by kernel_rfl
set_option maxRecDepth 100000 in
theorem pickKnown_fact27 : ((Tryz.pinned.checked.prog.make == some Rows.pickKnownRow.make)) = true := by kernel_rfl
set_option maxRecDepth 100000 in
theorem pickKnown_fact28 : ((Rows.pickKnownRow.kinds == (if Rows.pickKnownRow.domain.isEmpty then [] else Tryz.f4.params.toList.map fun t => match Tryz.pinned.checked.prog.underlying t with | some (.int k) => some k | _ => none))) = true := by kernel_rfl
set_option maxRecDepth 100000 in
theorem pickKnown_fact29 : ((Rows.pickKnownRow.pinned == Rows.pickKnownRow.pinnedBy)) = true := by kernel_rfl
set_option maxRecDepth 100000 in
theorem pickKnown_fact30 : ((Rows.pickKnownRow.veiled == (Tryz.f4.params.toList ++ Rows.pickKnownSpec.plain.varTypes Tryz.pinned.checked.prog ++ Tryz.f4.resultTypes.toList).any (Tryz.pinned.checked.prog.veiledRec ·))) = true := by kernel_rfl
set_option maxRecDepth 100000 in
theorem pickKnown_fact31 : (Rows.pickKnownRow.veiledFits Tryz.pinned.checked.prog Tryz.f4.params.toList (Tryz.f4.params.toList ++ Rows.pickKnownSpec.plain.varTypes Tryz.pinned.checked.prog ++ Tryz.f4.resultTypes.toList)) = true := by kernel_rfl
theorem pickKnown_and {a b : Bool} (h : a = true) (h' : b = true) : (a && b) = true := by rw [h, h']; rfl
set_option maxRecDepth 100000 in
theorem pickKnown_facts : joinedFacts Tryz.pinned.checked.prog 4 Tryz.f4 Rows.pickKnownSpec Rows.pickKnownRow = true :=
  pickKnown_and (pickKnown_and (pickKnown_and (pickKnown_and (pickKnown_and (pickKnown_and (pickKnown_and (pickKnown_and (pickKnown_and (pickKnown_and (pickKnown_and (pickKnown_and (pickKnown_and (pickKnown_and (pickKnown_and (pickKnown_and (pickKnown_and (pickKnown_and (pickKnown_and (pickKnown_and (pickKnown_and (pickKnown_and (pickKnown_and (pickKnown_and (pickKnown_and (pickKnown_and (pickKnown_and (pickKnown_and (pickKnown_and (pickKnown_and (pickKnown_and (pickKnown_fact0) pickKnown_fact1) pickKnown_fact2) pickKnown_fact3) pickKnown_fact4) pickKnown_fact5) pickKnown_fact6) pickKnown_fact7) pickKnown_fact8) pickKnown_fact9) pickKnown_fact10) pickKnown_fact11) pickKnown_fact12) pickKnown_fact13) pickKnown_fact14) pickKnown_fact15) pickKnown_fact16) pickKnown_fact17) pickKnown_fact18) pickKnown_fact19) pickKnown_fact20) pickKnown_fact21) pickKnown_fact22) pickKnown_fact23) pickKnown_fact24) pickKnown_fact25) pickKnown_fact26) pickKnown_fact27) pickKnown_fact28) pickKnown_fact29) pickKnown_fact30) pickKnown_fact31
end Go.Proofs.YtfiefdhgfinbjaaGreatDoor
