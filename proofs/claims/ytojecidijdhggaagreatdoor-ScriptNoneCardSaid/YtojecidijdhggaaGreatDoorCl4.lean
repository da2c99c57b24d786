/- A table of what each function of the program names, by the kernel: places 720 to 721. No condition. -/
import Derived.Test.YtojecidijdhggaaGreatDoorRows
import Derived.Test.YtojecidijdhggaaGreatDoorAbs5
namespace Go.Proofs.YtojecidijdhggaaGreatDoor
def clF720 : Abs.FS := ⟨[], some "var's door: the look of gosem.cut.vars went over the folder that the caller named as the repository's root (look 11)", false, [], none, false⟩
def clF721 : Abs.FS := ⟨[357, 357], none, false, [4, 5, 3, 2, 1], none, false⟩
def clTab12 : List Abs.FS := [clF720, clF721]
set_option maxRecDepth 100000 in
theorem clTab12_eq : ((Tryz.pinned.checked.prog.funcs.toList.drop 720).take 60).map (Abs.fsOf Tryz.pinned.checked.prog) = clTab12 := by kernel_rfl
end Go.Proofs.YtojecidijdhggaaGreatDoor
