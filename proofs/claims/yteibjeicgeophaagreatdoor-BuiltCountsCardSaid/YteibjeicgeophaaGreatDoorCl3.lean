/- A table of what each function of the program names, by the kernel: places 480 to 535. No condition. -/
import Derived.Test.YteibjeicgeophaaGreatDoorRows
import Derived.Test.YteibjeicgeophaaGreatDoorAbs7
namespace Go.Proofs.YteibjeicgeophaaGreatDoor
def clF480 : Abs.FS := ⟨[], none, true, [], none, false⟩
def clF481 : Abs.FS := ⟨[], none, true, [], none, false⟩
def clF482 : Abs.FS := ⟨[], none, false, [], none, false⟩
def clF483 : Abs.FS := ⟨[], none, false, [], none, false⟩
def clF484 : Abs.FS := ⟨[297, 488, 489], none, false, [1], none, false⟩
def clF485 : Abs.FS := ⟨[], none, false, [], none, false⟩
def clF486 : Abs.FS := ⟨[490, 491], none, false, [], none, false⟩
def clF487 : Abs.FS := ⟨[492, 493, 492, 494, 493, 495], none, false, [0, 0, 0], none, false⟩
def clF488 : Abs.FS := ⟨[], none, false, [], none, false⟩
def clF489 : Abs.FS := ⟨[], none, false, [], none, false⟩
def clF490 : Abs.FS := ⟨[], none, false, [], none, false⟩
def clF491 : Abs.FS := ⟨[496, 497], none, false, [], none, false⟩
def clF492 : Abs.FS := ⟨[498], none, false, [], none, false⟩
def clF493 : Abs.FS := ⟨[], some "internal/bytealg.IndexString", false, [], some "internal/bytealg.MaxLen", false⟩
def clF494 : Abs.FS := ⟨[], none, false, [], none, false⟩
def clF495 : Abs.FS := ⟨[499], none, false, [], none, false⟩
def clF496 : Abs.FS := ⟨[], none, false, [2], none, false⟩
def clF497 : Abs.FS := ⟨[], none, false, [3], none, false⟩
def clF498 : Abs.FS := ⟨[], some "internal/bytealg.IndexByteString", false, [], none, false⟩
def clF499 : Abs.FS := ⟨[], none, false, [], none, false⟩
def clF500 : Abs.FS := ⟨[], some "(runtime.boundsError).Error", false, [], none, false⟩
def clF501 : Abs.FS := ⟨[], some "(runtime.boundsError).RuntimeError", false, [], none, false⟩
def clF502 : Abs.FS := ⟨[], some "(runtime.errorString).Error", false, [], none, false⟩
def clF503 : Abs.FS := ⟨[], some "(runtime.errorString).RuntimeError", false, [], none, false⟩
def clF504 : Abs.FS := ⟨[], some "(runtime.plainError).Error", false, [], none, false⟩
def clF505 : Abs.FS := ⟨[], some "(runtime.plainError).RuntimeError", false, [], none, false⟩
def clF506 : Abs.FS := ⟨[], some "(runtime.errorAddressString).Error", false, [], none, false⟩
def clF507 : Abs.FS := ⟨[], some "(runtime.errorAddressString).RuntimeError", false, [], none, false⟩
def clF508 : Abs.FS := ⟨[], some "(*runtime.TypeAssertionError).Error", false, [], none, false⟩
def clF509 : Abs.FS := ⟨[], some "(*runtime.TypeAssertionError).RuntimeError", false, [], none, false⟩
def clF510 : Abs.FS := ⟨[], some "(*runtime.PanicNilError).Error", false, [], none, false⟩
def clF511 : Abs.FS := ⟨[], some "(*runtime.PanicNilError).RuntimeError", false, [], none, false⟩
def clF512 : Abs.FS := ⟨[], some "(*internal/abi.Type).Align", false, [], none, false⟩
def clF513 : Abs.FS := ⟨[], some "(internal/runtime/maps.unhashableTypeError).Error", false, [], none, false⟩
def clF514 : Abs.FS := ⟨[], some "(internal/runtime/maps.unhashableTypeError).RuntimeError", false, [], none, false⟩
def clF515 : Abs.FS := ⟨[], some "(*tenure/tenurelaw28.desk).told", false, [], none, false⟩
def clF516 : Abs.FS := ⟨[], some "(tenure/api.Errno).Error", false, [], none, false⟩
def clF517 : Abs.FS := ⟨[], some "(*tenure/tenureref28.Tables).gone", false, [], none, false⟩
def clF518 : Abs.FS := ⟨[], some "(*tenure/atom.Table).Len", false, [], none, false⟩
def clF519 : Abs.FS := ⟨[], some "(*tenure/tenureref14.Room).left", false, [], none, false⟩
def clF520 : Abs.FS := ⟨[], some "(*tenure/tenureref23.Registry).out", false, [], none, false⟩
def clF521 : Abs.FS := ⟨[], some "(*tenure/tree.Tree).Compared", false, [], none, false⟩
def clF522 : Abs.FS := ⟨[], some "(*tenure/machine.Machine).Runs", false, [], none, false⟩
def clF523 : Abs.FS := ⟨[], some "(*tenure/guard.machine).bound", false, [], none, false⟩
def clF524 : Abs.FS := ⟨[], some "(*strings.Builder).Reset", false, [], none, false⟩
def clF525 : Abs.FS := ⟨[], some "(internal/abi.Kind).String", false, [], none, false⟩
def clF526 : Abs.FS := ⟨[], some "(*tenure/tenureref22.Cursor).rest", false, [], none, false⟩
def clF527 : Abs.FS := ⟨[], some "(*tenure/tenureref14.Store).Close", false, [], none, false⟩
def clF528 : Abs.FS := ⟨[], some "(*tenure/tenureref10.Buckets).Len", false, [], none, false⟩
def clF529 : Abs.FS := ⟨[], some "(*tenure/tenureref12.Count).Total", false, [], none, false⟩
def clF530 : Abs.FS := ⟨[], some "var's door: gosem.cut.vars holds initialisers alone; see the manifest's row cutvarsword (look 11, test files too)", false, [], none, false⟩
def clF531 : Abs.FS := ⟨[], some "var's door: internal/strconv.uint64pow10 is laid by its own initialiser, plain data (look 11)", false, [], none, false⟩
def clF532 : Abs.FS := ⟨[], some "var's door: math/bits.deBruijn32tab is laid by its own initialiser, plain data (look 11)", false, [], none, false⟩
def clF533 : Abs.FS := ⟨[], some "var's door: math/bits.deBruijn64tab is laid by its own initialiser, plain data (look 11)", false, [], none, false⟩
def clF534 : Abs.FS := ⟨[], some "var's door: the look of gosem.cut.vars went over the folder that the caller named as the repository's root (look 11)", false, [], none, false⟩
def clF535 : Abs.FS := ⟨[], none, false, [2, 3, 1], none, false⟩
def clTab8 : List Abs.FS := [clF480, clF481, clF482, clF483, clF484, clF485, clF486, clF487, clF488, clF489, clF490, clF491, clF492, clF493, clF494, clF495, clF496, clF497, clF498, clF499, clF500, clF501, clF502, clF503, clF504, clF505, clF506, clF507, clF508, clF509, clF510, clF511, clF512, clF513, clF514, clF515, clF516, clF517, clF518, clF519, clF520, clF521, clF522, clF523, clF524, clF525, clF526, clF527, clF528, clF529, clF530, clF531, clF532, clF533, clF534, clF535]
set_option maxRecDepth 100000 in
theorem clTab8_eq : ((Tryz.pinned.checked.prog.funcs.toList.drop 480).take 60).map (Abs.fsOf Tryz.pinned.checked.prog) = clTab8 := by kernel_rfl
end Go.Proofs.YteibjeicgeophaaGreatDoor
