/- A part of the proof of ScriptParses: Card. Conditions: those of each theorem. -/
import Derived.Test.YtokipodjggomfaaGreatDoorScrWalk
import Derived.JoinedOf
set_option linter.unusedVariables false
set_option linter.unusedSimpArgs false
namespace Go.Proofs.YtokipodjggomfaaGreatDoor
open Go Go.ChangeShapes Go.WideShapes Go.ChangeAt Go.RowKit Go.Proofs.YtokipodjggomfaaGreatDoor
set_option maxRecDepth 100000 in
theorem R9:joinedFacts Tryz.pinned.checked.prog 3 Tryz.f3 Rows.scriptParsesSpec Rows.scriptParsesRow=true:=by kernel_rfl
set_option maxRecDepth 100000 in
theorem a22:Rows.scriptParsesRow.wfByText (OpenSpec.ofChange Rows.scriptParsesSpec)=true:=by kernel_rfl
set_option maxRecDepth 100000 in
theorem a23:Tryz.pinned.checked.prog.mainIs=some (Rows.scriptParsesCard.stood.harness.1,Rows.scriptParsesCard.stood.harness.2.toList):=by kernel_rfl
set_option maxRecDepth 100000 in
theorem a2Z:Rows.scriptParsesCard.stood.looks=Tryz.pinned.checked.prog.looks []:=by kernel_rfl
set_option maxRecDepth 100000 in
theorem a25:false=Rows.scriptParsesRow.goesBy Tryz.pinned.checked.prog:=by kernel_rfl
theorem R8:Rows.scriptParsesRow.holds Tryz.pinned (OpenSpec.ofChange Rows.scriptParsesSpec):=
 OpenClaim.holds_of_wide 3 Tryz.f3 rfl rfl rfl rfl rfl rfl rfl ⟨rfl,rfl,rfl,rfl,rfl⟩ rfl rfl rfl rfl rfl (by kernel_rfl) Tryz.func3 R9
  (bq (by kernel_rfl)) (by unfold Func.isWrapper;first|(rw[az (by decide+kernel)];kernel_rfl)|(rw[ai (by decide+kernel)];exact⟨rfl,rfl⟩))
  (λos started H qf _=>MJ os started H qf)
theorem scriptParses_proved:Rows.ScriptParsesCardSaid:=
 Claim7.holds_tied_plain_at .later [] Rows.scriptParsesCard.laidKinds true Rows.scriptParsesCard.stood.harness Rows.scriptParsesCard.stood.looks R8 (λ_ h=>by cases h) a22 (λ_ h=>by cases h) scriptParses_row_tie rfl ⟨rfl,rfl⟩ a23 rfl
  (λf fn c a=>by
    obtain rfl:f=3:=ae ((show Tryz.prog.funcNamed Rows.scriptParsesRow.func=some 3 by kernel_rfl).symm.trans c) |>.symm;obtain rfl:fn=Tryz.f3:=(ae (Tryz.func3.symm.trans a)).symm;exact⟨a2Z,λj t b=>by
     rw[Tryz.params3]at b;exact Abs.Za (ts:=[9]) (by kernel_rfl) j t (by rw[<-xN]at b;exact b)⟩)
  a25
#print axioms scriptParses_proved
end Go.Proofs.YtokipodjggomfaaGreatDoor
