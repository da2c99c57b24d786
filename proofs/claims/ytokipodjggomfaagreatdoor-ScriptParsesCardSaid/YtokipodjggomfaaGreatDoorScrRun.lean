/- A part of the proof of ScriptParses: Run. Conditions: those of each theorem. -/
import Derived.Test.YtokipodjggomfaaGreatDoorScrLaw
noncomputable section
set_option linter.unusedVariables false
set_option linter.unusedSimpArgs false
namespace Go.Proofs.YtokipodjggomfaaGreatDoor
open Go Go.Proofs.YtokipodjggomfaaGreatDoor.Txt
def Sa:Abs.Ctx:=wY [Abs.WG Tryz.prog kU kQ,Abs.Qt Tryz.prog kU kQ,Abs.ib Tryz.prog kC 32 27 "al" (Abs.pZ kK ah 1073741824)] [Abs.km kU.L,Abs.C2 kU.L,Abs.AO kU.L,Abs.xr kU.L,Abs.sI kU.L]
def a26:List (Nat×Abs.eD):=[Abs.gwC kU.L.yn kU.L.IJ (.bS (.int .i64) (.var kU.L.yn)),Abs.gwC kU.L.DN kU.L.zo (.bS .Sf (.var kU.L.DN)),Abs.gwC kU.L.DO kU.L.zo (.bS .Sf (.var kU.L.DO)),(kU.L.HB,.Dp kU.L.Q8 .u64 Lib.pow10Tab)]
set_option maxRecDepth 100000 in
theorem Zo(B:Nat):Abs.R.res (λ_=>true) ((Abs.pC Sa (Abs.zu Sa 1000000) 3 (Abs.Ie Sa [kS] Sa.nG) .normal none (Abs.SDw Sa [kS] B a26)).bind Abs.Po)=some (Yn [] (a27 B)):=by kernel_rfl
end Go.Proofs.YtokipodjggomfaaGreatDoor
