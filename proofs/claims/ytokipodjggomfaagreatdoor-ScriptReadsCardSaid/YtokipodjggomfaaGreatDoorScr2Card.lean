/- A part of the proof of ScriptReads: 2Card. Conditions: those of each theorem. -/
import Derived.Test.YtokipodjggomfaaGreatDoorScr2Walk
import Derived.JoinedOf
set_option linter.unusedVariables false
set_option linter.unusedSimpArgs false
namespace Go.Proofs.YtokipodjggomfaaGreatDoor
open Go.ChangeShapes Go.WideShapes Go.ChangeAt Go.RowKit
set_option maxRecDepth 100000 in
theorem R4:joinedFacts Tryz.pinned.checked.prog 4 Tryz.f4 Rows.scriptReadsSpec Rows.scriptReadsRow=true:=by kernel_rfl
set_option maxRecDepth 100000 in
theorem a3J:Rows.scriptReadsRow.wfByText (OpenSpec.ofChange Rows.scriptReadsSpec)=true:=by kernel_rfl
set_option maxRecDepth 100000 in
theorem a3K:Tryz.pinned.checked.prog.mainIs=some (Rows.scriptReadsCard.stood.harness.1,Rows.scriptReadsCard.stood.harness.2.toList):=by kernel_rfl
set_option maxRecDepth 100000 in
theorem a3I:Rows.scriptReadsCard.stood.looks=Tryz.pinned.checked.prog.looks []:=by kernel_rfl
set_option maxRecDepth 100000 in
theorem a3L:false=Rows.scriptReadsRow.goesBy Tryz.pinned.checked.prog:=by kernel_rfl
theorem R1:Rows.scriptReadsRow.holds Tryz.pinned (OpenSpec.ofChange Rows.scriptReadsSpec):=
 OpenClaim.holds_of_wide 4 Tryz.f4 rfl rfl rfl rfl rfl rfl rfl ⟨rfl,rfl,rfl,rfl,rfl⟩ rfl rfl rfl rfl rfl (by kernel_rfl) Tryz.func4 R4
  (b7 (by kernel_rfl)) (by unfold Func.isWrapper;first|(rw[aJ (by decide+kernel)];kernel_rfl)|(rw[av (by decide+kernel)];exact⟨rfl,rfl⟩))
  (λos started H vn _=>Pj os started H vn)
theorem scriptReads_proved:Rows.ScriptReadsCardSaid:=
 Claim7.holds_tied_plain_at .later [] Rows.scriptReadsCard.laidKinds true Rows.scriptReadsCard.stood.harness Rows.scriptReadsCard.stood.looks R1 (λ_ h=>by cases h) a3J (λ_ h=>by cases h) scriptReads_row_tie rfl ⟨rfl,rfl⟩ a3K rfl
  (λf fn c a=>by
    obtain rfl:f=4:=ae ((show Tryz.prog.funcNamed Rows.scriptReadsRow.func=some 4 by kernel_rfl).symm.trans c) |>.symm;obtain rfl:fn=Tryz.f4:=(ae (Tryz.func4.symm.trans a)).symm;exact⟨a3I,λj t b=>by
     rw[Tryz.params4]at b;exact Abs.a3t (ts:=[9]) (by kernel_rfl) j t (by rw[<-w5]at b;exact b)⟩)
  a3L
#print axioms scriptReads_proved
end Go.Proofs.YtokipodjggomfaaGreatDoor
