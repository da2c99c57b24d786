/- A part of the proof of ScriptReads: 2Run. Conditions: those of each theorem. -/
import Derived.Test.YtokipodjggomfaaGreatDoorScr2Law
noncomputable section
set_option linter.unusedVariables false
set_option linter.unusedSimpArgs false
namespace Go.Proofs.YtokipodjggomfaaGreatDoor
open Go.Proofs.YtokipodjggomfaaGreatDoor.Txt
def J5:Abs.Ctx:=BQ [U8 4201,U9 4201,vh 4202,Vb 4202,Va 4202,Abs.kb Tryz.prog kC 32 27 "" (Abs.E7 kK ag 1073741824)] [Abs.nY kU.L,Abs.HQ kU.L,Abs.Ft kU.L,Abs.Cg kU.L,Abs.xM kU.L,Abs.wG kU.L 89 Ru]
def a0j:List (Nat×Abs.gn):=[Abs.gwC kU.L.vm kU.L.F2 (.cE (.int .i64) (.var kU.L.vm)),Abs.gwC kU.L.I2 kU.L.En (.cE .WI (.var kU.L.I2)),Abs.gwC kU.L.I3 kU.L.En (.cE .WI (.var kU.L.I3)),(kU.L.Mv,.Ie kU.L.Vz .u64 Lib.pow10Tab)]
set_option maxRecDepth 100000 in
theorem a0h(B:Nat):Abs.R.res (λ_=>true) ((Abs.uU J5 (Abs.Et J5 1000000) 4 (Abs.M5 J5 [kS] J5.nG) .normal none (Abs.SDw J5 [kS] B a0j)).bind Abs.Us)=some (rwl [] (a0k B)):=by kernel_rfl
end Go.Proofs.YtokipodjggomfaaGreatDoor
