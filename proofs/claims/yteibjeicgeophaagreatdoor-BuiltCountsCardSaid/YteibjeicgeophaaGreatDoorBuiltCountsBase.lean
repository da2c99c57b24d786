/- The ground of the statement 'BuiltCountsCard' of 'YteibjeicgeophaaGreatDoor': which library functions the abstract machine takes by contract. No condition. -/
import Derived.Test.YteibjeicgeophaaGreatDoorTie
import Derived.Test.YteibjeicgeophaaGreatDoorCards
import Derived.Test.YteibjeicgeophaaGreatDoorAbs7
import Derived.WalkKit
import Derived.ProofKit
import Derived.OpenShut
import Derived.SevenTiedAt
import Derived.ChangeCalls
import Derived.Shelf.Strings.Search3
import Derived.Shelf.Vars
namespace Go.Proofs
open Go.Shelf
def Tryz.lays143_ren : Go.Shelf.Ren := ⟨fun | 143 => 479 | 219 => 487 | 217 => 492 | 225 => 493 | 224 => 494 | 267 => 495 | 266 => 498 | 314 => 499 | n => n, fun | 9 => 9 | 3 => 3 | 4 => 4 | 5 => 5 | 46 => 275 | 146 => 538 | 51 => 240 | n => n, fun | 1 => 0 | n => n⟩

theorem Tryz.lays143 : Go.Proofs.Lays.n143 Tryz.prog Tryz.lays143_ren := {
  mixed := by kernel_rfl
  f143 := Tryz.func479.trans (congrArg some (by kernel_rfl))
  f217 := Tryz.func492.trans (congrArg some (by kernel_rfl))
  f219 := Tryz.func487.trans (congrArg some (by kernel_rfl))
  f224 := Tryz.func494.trans (congrArg some (by kernel_rfl))
  f225 := Tryz.func493.trans (congrArg some (by kernel_rfl))
  f266 := Tryz.func498.trans (congrArg some (by kernel_rfl))
  f267 := Tryz.func495.trans (congrArg some (by kernel_rfl))
  f314 := Tryz.func499.trans (congrArg some (by kernel_rfl))
  t3 := Tryz.underlying3
  a3 := Tryz.isAgg3
  z3 := Tryz.sizeOf3
  v3 := Tryz.zeroValue3
  t4 := Tryz.underlying4
  a4 := Tryz.isAgg4
  z4 := Tryz.sizeOf4
  v4 := Tryz.zeroValue4
  t5 := Tryz.underlying5
  a5 := Tryz.isAgg5
  z5 := Tryz.sizeOf5
  v5 := Tryz.zeroValue5
  t9 := Tryz.underlying9
  a9 := Tryz.isAgg9
  z9 := Tryz.sizeOf9
  v9 := Tryz.zeroValue9
  t46 := Tryz.underlying275
  a46 := Tryz.isAgg275
  z46 := Tryz.sizeOf275
  v46 := Tryz.zeroValue275
  t51 := Tryz.underlying240
  a51 := Tryz.isAgg240
  z51 := Tryz.sizeOf240
  v51 := Tryz.zeroValue240
  t146 := Tryz.underlying538
  a146 := Tryz.isAgg538
  z146 := Tryz.sizeOf538
  v146 := Tryz.zeroValue538
  g1 := by kernel_rfl }

open Go.RowKit Go.Lib in
theorem Tryz.strings_Index (s sub : ByteArray) (m : Int) (w : World) (hs : s.size < 4294967281) (hm : w.cell? ⟨0, 0, none⟩ = some (.int .i64 m)) :
    Calls Tryz.prog 479 #[.string s, .string sub] w fun e w' => e = .returned (.int .i64 (Lib.index s.data.toList sub.data.toList)) ∧ w' = w := Any.strings_Index Tryz.lays143 s sub m w hs hm

end Go.Proofs
namespace Go.Proofs.YteibjeicgeophaaGreatDoor
open Go.ChangeShapes Go.WideShapes Go.ChangeAt Go.RowKit

noncomputable def builtCounts_absX : List (FuncId × Abs.Ext) := [(479, .index 0), (427, .cmp), (478, .noEscape), (498, .indexByte)]
set_option maxRecDepth 100000 in
theorem builtCounts_absExt : Abs.ExtOk Tryz.prog builtCounts_absX := ⟨⟨⟨_, Tryz.func479⟩, fun s sub m w hs hm => Tryz.strings_Index s sub m w hs hm⟩, ⟨⟨_, (by kernel_rfl : Tryz.prog.funcs[427]? = some (Tryz.prog.funcs[427]?.getD default)), by kernel_rfl, by kernel_rfl, by kernel_rfl, by kernel_rfl⟩, ⟨⟨_, (by kernel_rfl : Tryz.prog.funcs[478]? = some (Tryz.prog.funcs[478]?.getD default)), by kernel_rfl, by kernel_rfl, by kernel_rfl, by kernel_rfl⟩, ⟨⟨_, (by kernel_rfl : Tryz.prog.funcs[498]? = some (Tryz.prog.funcs[498]?.getD default)), by kernel_rfl, by kernel_rfl, by kernel_rfl, by kernel_rfl⟩, trivial⟩⟩⟩⟩
set_option maxRecDepth 100000 in
theorem bc_absValid : Abs.validB Tryz.prog = true := by kernel_rfl
set_option maxRecDepth 100000 in
theorem bc_absNum : Abs.noNumL Tryz.prog.funcs.toList = true := by kernel_rfl
theorem bc_absMixed : Tryz.prog.follows .mixedOrders = true := by kernel_rfl
end Go.Proofs.YteibjeicgeophaaGreatDoor
