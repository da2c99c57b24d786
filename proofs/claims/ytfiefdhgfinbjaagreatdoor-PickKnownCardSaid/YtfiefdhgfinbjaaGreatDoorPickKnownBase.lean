/- The ground of the statement 'PickKnownCard' of 'YtfiefdhgfinbjaaGreatDoor': which library functions the abstract machine takes by contract. No condition. -/
import Derived.Test.YtfiefdhgfinbjaaGreatDoorTie
import Derived.Test.YtfiefdhgfinbjaaGreatDoorCards
import Derived.Test.YtfiefdhgfinbjaaGreatDoorAbs5
import Derived.WalkKit
import Derived.ProofKit
import Derived.OpenShut
import Derived.SevenTiedAt
import Derived.ChangeCalls
import Derived.Shelf.Strings.Search3
import Derived.Shelf.Vars
namespace Go.Proofs
open Go.Shelf
def Tryz.lays143_ren : Go.Shelf.Ren := ⟨fun | 143 => 361 | 219 => 367 | 217 => 372 | 225 => 373 | 224 => 374 | 267 => 375 | 266 => 378 | 314 => 379 | n => n, fun | 9 => 9 | 3 => 3 | 4 => 4 | 5 => 5 | 46 => 255 | 146 => 435 | 51 => 223 | n => n, fun | 1 => 0 | n => n⟩

theorem Tryz.lays143 : Go.Proofs.Lays.n143 Tryz.prog Tryz.lays143_ren := {
  mixed := by kernel_rfl
  f143 := Tryz.func361.trans (congrArg some (by kernel_rfl))
  f217 := Tryz.func372.trans (congrArg some (by kernel_rfl))
  f219 := Tryz.func367.trans (congrArg some (by kernel_rfl))
  f224 := Tryz.func374.trans (congrArg some (by kernel_rfl))
  f225 := Tryz.func373.trans (congrArg some (by kernel_rfl))
  f266 := Tryz.func378.trans (congrArg some (by kernel_rfl))
  f267 := Tryz.func375.trans (congrArg some (by kernel_rfl))
  f314 := Tryz.func379.trans (congrArg some (by kernel_rfl))
  t3 := Tryz.underlying3
  a3 := Tryz.isAgg3
  z3 := Tryz.sizeOf3
  v3 := Tryz.zeroValue3
  t4 := Tryz.underlying4
  a4 := Tryz.isAgg4
  z4 := Tryz.sizeOf4
  v4 := Tryz.zeroValue4
  t5 := Tryz.underlying5
  a5 := Tryz.isAgg5
  z5 := Tryz.sizeOf5
  v5 := Tryz.zeroValue5
  t9 := Tryz.underlying9
  a9 := Tryz.isAgg9
  z9 := Tryz.sizeOf9
  v9 := Tryz.zeroValue9
  t46 := Tryz.underlying255
  a46 := Tryz.isAgg255
  z46 := Tryz.sizeOf255
  v46 := Tryz.zeroValue255
  t51 := Tryz.underlying223
  a51 := Tryz.isAgg223
  z51 := Tryz.sizeOf223
  v51 := Tryz.zeroValue223
  t146 := Tryz.underlying435
  a146 := Tryz.isAgg435
  z146 := Tryz.sizeOf435
  v146 := Tryz.zeroValue435
  g1 := by kernel_rfl }

open Go.RowKit Go.Lib in
theorem Tryz.strings_Index (s sub : ByteArray) (m : Int) (w : World) (hs : s.size < 4294967281) (hm : w.cell? ⟨0, 0, none⟩ = some (.int .i64 m)) :
    Calls Tryz.prog 361 #[.string s, .string sub] w fun e w' => e = .returned (.int .i64 (Lib.index s.data.toList sub.data.toList)) ∧ w' = w := Any.strings_Index Tryz.lays143 s sub m w hs hm

end Go.Proofs
namespace Go.Proofs.YtfiefdhgfinbjaaGreatDoor
open Go.ChangeShapes Go.WideShapes Go.ChangeAt Go.RowKit

noncomputable def pickKnown_absX : List (FuncId × Abs.Ext) := [(361, .index 0), (299, .cmp), (360, .noEscape), (378, .indexByte)]
set_option maxRecDepth 100000 in
theorem pickKnown_absExt : Abs.ExtOk Tryz.prog pickKnown_absX := ⟨⟨⟨_, Tryz.func361⟩, fun s sub m w hs hm => Tryz.strings_Index s sub m w hs hm⟩, ⟨⟨_, (by kernel_rfl : Tryz.prog.funcs[299]? = some (Tryz.prog.funcs[299]?.getD default)), by kernel_rfl, by kernel_rfl, by kernel_rfl, by kernel_rfl⟩, ⟨⟨_, (by kernel_rfl : Tryz.prog.funcs[360]? = some (Tryz.prog.funcs[360]?.getD default)), by kernel_rfl, by kernel_rfl, by kernel_rfl, by kernel_rfl⟩, ⟨⟨_, (by kernel_rfl : Tryz.prog.funcs[378]? = some (Tryz.prog.funcs[378]?.getD default)), by kernel_rfl, by kernel_rfl, by kernel_rfl, by kernel_rfl⟩, trivial⟩⟩⟩⟩
set_option maxRecDepth 100000 in
theorem pickKnown_absValid : Abs.validB Tryz.prog = true := by kernel_rfl
set_option maxRecDepth 100000 in
theorem pickKnown_absNum : Abs.noNumL Tryz.prog.funcs.toList = true := by kernel_rfl
theorem pickKnown_absMixed : Tryz.prog.follows .mixedOrders = true := by kernel_rfl
end Go.Proofs.YtfiefdhgfinbjaaGreatDoor
