/- The closed facts of the row of 'EvalSums' of 'YtjioppomopfifaaGreatDoor', together. No condition. -/
import Derived.Test.YtjioppomopfifaaGreatDoorTie
import Derived.Test.YtjioppomopfifaaGreatDoorCards
import Derived.JoinedOf
import Derived.Test.YtjioppomopfifaaGreatDoorEvalSumsFacts1
import Derived.Test.YtjioppomopfifaaGreatDoorEvalSumsFacts2
import Derived.Test.YtjioppomopfifaaGreatDoorEvalSumsFacts3
import Derived.Test.YtjioppomopfifaaGreatDoorEvalSumsFacts4
namespace Go.Proofs.YtjioppomopfifaaGreatDoor
set_option maxRecDepth 100000 in
theorem QM:(Rows.evalSumsRow.wf (OpenSpec.ofChange Rows.evalSumsSpec))=true:=by kernel_rfl
set_option maxRecDepth 100000 in
theorem QJ:(Tryz.f3.params.all (Tryz.pinned.checked.prog.readableRec ·))=true:=by kernel_rfl
set_option maxRecDepth 100000 in
theorem QI:(namedTie Tryz.pinned.checked.prog Rows.evalSumsRow.named Rows.evalSumsSpec.vars)=true:=by kernel_rfl
set_option maxRecDepth 100000 in
theorem QH:((Rows.evalSumsRow.stops==[]))=true:=by kernel_rfl
set_option maxRecDepth 100000 in
theorem QG:((Tryz.pinned.checked.prog.stops==[]))=true:=by kernel_rfl
set_option maxRecDepth 100000 in
theorem QF:((Rows.evalSumsRow.knobs==[]))=true:=by kernel_rfl
set_option maxRecDepth 100000 in
theorem QE:((Tryz.pinned.checked.prog.stopKnobs==[]))=true:=by kernel_rfl
set_option maxRecDepth 100000 in
theorem NG:((Rows.evalSumsRow.maps==(Tryz.f3.params.toList++Rows.evalSumsSpec.plain.varTypes Tryz.pinned.checked.prog).any (Tryz.pinned.checked.prog.mapsRec ·)))=true:=by kernel_rfl
set_option maxRecDepth 100000 in
theorem ND:((Rows.evalSumsRow.ifaces==(Tryz.f3.params.toList++Rows.evalSumsSpec.plain.varTypes Tryz.pinned.checked.prog).any (Tryz.pinned.checked.prog.ifacesRec ·)))=true:=by kernel_rfl
set_option maxRecDepth 100000 in
theorem NC:((Rows.evalSumsRow.mapsOut==Tryz.pinned.checked.prog.mapsAmong Tryz.f3.resultTypes.toList))=true:=by kernel_rfl
set_option maxRecDepth 100000 in
theorem Nz:((Rows.evalSumsRow.loops==(Tryz.f3.params.toList++Rows.evalSumsSpec.plain.varTypes Tryz.pinned.checked.prog).any (Tryz.pinned.checked.prog.loopsFrom ·)))=true:=by kernel_rfl
set_option maxRecDepth 100000 in
theorem Ny:((Rows.evalSumsRow.wideKeys==(Tryz.f3.params.toList++Rows.evalSumsSpec.plain.varTypes Tryz.pinned.checked.prog++Tryz.f3.resultTypes.toList).any (Tryz.pinned.checked.prog.wideKeysFrom ·)))=true:=by kernel_rfl
set_option maxRecDepth 100000 in
theorem Nw:(Rows.evalSumsSpec.vars.all (Tryz.pinned.checked.prog.varReadable ·))=true:=by kernel_rfl
set_option maxRecDepth 100000 in
theorem Nv:(Tryz.f3.resultTypes.all (fun t=>Tryz.pinned.checked.prog.readableRec t && decide (t < Tryz.pinned.checked.prog.types.size)))=true:=by kernel_rfl
set_option maxRecDepth 100000 in
theorem Nu:((Rows.evalSumsRow.ifacesOut==Tryz.f3.resultTypes.toList.any (Tryz.pinned.checked.prog.ifacesRec ·)))=true:=by kernel_rfl
set_option maxRecDepth 100000 in
theorem Ns:((Rows.evalSumsRow.loopsOut==Tryz.f3.resultTypes.toList.any (Tryz.pinned.checked.prog.loopsFrom ·)))=true:=by kernel_rfl
set_option maxRecDepth 100000 in
theorem Nq:(Rows.evalSumsRow.shortTexts.isNone)=true:=by kernel_rfl
set_option maxRecDepth 100000 in
theorem Nk:((Rows.evalSumsRow.lifted==Tryz.pinned.checked.prog.liftsFinal))=true:=by kernel_rfl
set_option maxRecDepth 100000 in
theorem Nj:((Tryz.pinned.checked.prog.make==some Rows.evalSumsRow.make))=true:=by kernel_rfl
set_option maxRecDepth 100000 in
theorem Nh:((Rows.evalSumsRow.kinds==(if Rows.evalSumsRow.domain.isEmpty then [] else Tryz.f3.params.toList.map fun t=>match Tryz.pinned.checked.prog.underlying t with|some (.int k)=>some k|_=>none)))=true:=by kernel_rfl
set_option maxRecDepth 100000 in
theorem Nc:((Rows.evalSumsRow.pinned==Rows.evalSumsRow.pinnedBy))=true:=by kernel_rfl
set_option maxRecDepth 100000 in
theorem Nb:((Rows.evalSumsRow.veiled==(Tryz.f3.params.toList++Rows.evalSumsSpec.plain.varTypes Tryz.pinned.checked.prog++Tryz.f3.resultTypes.toList).any (Tryz.pinned.checked.prog.veiledRec ·)))=true:=by kernel_rfl
set_option maxRecDepth 100000 in
theorem Na:(Rows.evalSumsRow.veiledFits Tryz.pinned.checked.prog Tryz.f3.params.toList (Tryz.f3.params.toList++Rows.evalSumsSpec.plain.varTypes Tryz.pinned.checked.prog++Tryz.f3.resultTypes.toList))=true:=by kernel_rfl
theorem bK {a b:Bool} (h:a=true) (h':b=true):(a && b)=true:=by rw [h,h'];rfl
set_option maxRecDepth 100000 in
theorem QB:joinedFacts Tryz.pinned.checked.prog 3 Tryz.f3 Rows.evalSumsSpec Rows.evalSumsRow=true:=
 bK (bK (bK (bK (bK (bK (bK (bK (bK (bK (bK (bK (bK (bK (bK (bK (bK (bK (bK (bK (bK (bK (bK (bK (bK (bK (bK (bK (bK (bK (bK (QM) QL) QK) QJ) QI) QH) QG) QF) QE) QC) NJ) NI) NH) NG) ND) NC) Nz) Ny) Nw) Nv) Nu) Ns) Nr) Nq) Np) Nl) Nk) Nj) Nh) Nc) Nb) Na
end Go.Proofs.YtjioppomopfifaaGreatDoor
