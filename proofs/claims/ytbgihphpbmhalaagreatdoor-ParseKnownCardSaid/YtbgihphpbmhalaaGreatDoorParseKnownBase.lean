/- The ground of the statement 'ParseKnownCard' of 'YtbgihphpbmhalaaGreatDoor': which library functions the abstract machine takes by contract. No condition. -/
import Derived.Test.YtbgihphpbmhalaaGreatDoorTie
import Derived.Test.YtbgihphpbmhalaaGreatDoorCards
import Derived.Test.YtbgihphpbmhalaaGreatDoorAbs5
import Derived.Test.YtbgihphpbmhalaaGreatDoorAs
import Derived.WalkKit
import Derived.ProofKit
import Derived.OpenShut
import Derived.SevenTiedAt
import Derived.ChangeCalls
import Derived.Shelf.Strings.Search3
import Derived.Shelf.Vars
namespace Go.Proofs
open Go.Shelf
def Tryz.lays143_ren : Go.Shelf.Ren := ⟨fun | 143 => 68 | 219 => 95 | 217 => 89 | 225 => 119 | 224 => 120 | 267 => 121 | 266 => 112 | 314 => 137 | n => n, fun | 9 => 9 | 3 => 3 | 4 => 4 | 5 => 5 | 46 => 169 | 146 => 193 | 51 => 182 | n => n, fun | 1 => 1 | n => n⟩

theorem Tryz.lays143 : Go.Proofs.Lays.n143 Tryz.prog Tryz.lays143_ren := {
  mixed := by kernel_rfl
  f143 := Tryz.func68.trans (congrArg some (by kernel_rfl))
  f217 := Tryz.func89.trans (congrArg some (by kernel_rfl))
  f219 := Tryz.func95.trans (congrArg some (by kernel_rfl))
  f224 := Tryz.func120.trans (congrArg some (by kernel_rfl))
  f225 := Tryz.func119.trans (congrArg some (by kernel_rfl))
  f266 := Tryz.func112.trans (congrArg some (by kernel_rfl))
  f267 := Tryz.func121.trans (congrArg some (by kernel_rfl))
  f314 := Tryz.func137.trans (congrArg some (by kernel_rfl))
  t3 := Tryz.underlying3
  a3 := Tryz.isAgg3
  z3 := Tryz.sizeOf3
  v3 := Tryz.zeroValue3
  t4 := Tryz.underlying4
  a4 := Tryz.isAgg4
  z4 := Tryz.sizeOf4
  v4 := Tryz.zeroValue4
  t5 := Tryz.underlying5
  a5 := Tryz.isAgg5
  z5 := Tryz.sizeOf5
  v5 := Tryz.zeroValue5
  t9 := Tryz.underlying9
  a9 := Tryz.isAgg9
  z9 := Tryz.sizeOf9
  v9 := Tryz.zeroValue9
  t46 := Tryz.underlying169
  a46 := Tryz.isAgg169
  z46 := Tryz.sizeOf169
  v46 := Tryz.zeroValue169
  t51 := Tryz.underlying182
  a51 := Tryz.isAgg182
  z51 := Tryz.sizeOf182
  v51 := Tryz.zeroValue182
  t146 := Tryz.underlying193
  a146 := Tryz.isAgg193
  z146 := Tryz.sizeOf193
  v146 := Tryz.zeroValue193
  g1 := by kernel_rfl }

open Go.RowKit Go.Lib in
theorem Tryz.strings_Index (s sub : ByteArray) (m : Int) (w : World) (hs : s.size < 4294967281) (hm : w.cell? ⟨1, 0, none⟩ = some (.int .i64 m)) :
    Calls Tryz.prog 68 #[.string s, .string sub] w fun e w' => e = .returned (.int .i64 (Lib.index s.data.toList sub.data.toList)) ∧ w' = w := Any.strings_Index Tryz.lays143 s sub m w hs hm

end Go.Proofs
namespace Go.Proofs.YtbgihphpbmhalaaGreatDoor
open Go.ChangeShapes Go.WideShapes Go.ChangeAt Go.RowKit

noncomputable def parseKnown_absX : List (FuncId × Abs.Ext) := [(68, .index 1), (26, .as asE), (105, .noEscape), (106, .noZero), (112, .indexByte)]
set_option maxRecDepth 100000 in
theorem parseKnown_absExt : Abs.ExtOk Tryz.prog parseKnown_absX := ⟨⟨⟨_, Tryz.func68⟩, fun s sub m w hs hm => Tryz.strings_Index s sub m w hs hm⟩, ⟨as_ok, ⟨⟨_, (by kernel_rfl : Tryz.prog.funcs[105]? = some (Tryz.prog.funcs[105]?.getD default)), by kernel_rfl, by kernel_rfl, by kernel_rfl, by kernel_rfl⟩, ⟨⟨_, (by kernel_rfl : Tryz.prog.funcs[106]? = some (Tryz.prog.funcs[106]?.getD default)), by kernel_rfl, by kernel_rfl, by kernel_rfl, by kernel_rfl⟩, ⟨⟨_, (by kernel_rfl : Tryz.prog.funcs[112]? = some (Tryz.prog.funcs[112]?.getD default)), by kernel_rfl, by kernel_rfl, by kernel_rfl, by kernel_rfl⟩, trivial⟩⟩⟩⟩⟩
set_option maxRecDepth 100000 in
theorem parseKnown_absValid : Abs.validB Tryz.prog = true := by kernel_rfl
set_option maxRecDepth 100000 in
theorem parseKnown_absNum : Abs.noNumL Tryz.prog.funcs.toList = true := by kernel_rfl
theorem parseKnown_absMixed : Tryz.prog.follows .mixedOrders = true := by kernel_rfl
end Go.Proofs.YtbgihphpbmhalaaGreatDoor
