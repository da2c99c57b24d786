/- The ground of the statement 'StoreNoneCard' of 'YtckbdegpiffegaaGreatDoor': which library functions the abstract machine takes by contract. No condition. -/
import Derived.Test.YtckbdegpiffegaaGreatDoorTie
import Derived.Test.YtckbdegpiffegaaGreatDoorCards
import Derived.Test.YtckbdegpiffegaaGreatDoorAbs5
import Derived.WalkKit
import Derived.ProofKit
import Derived.OpenShut
import Derived.SevenTiedAt
import Derived.ChangeCalls
import Derived.Shelf.Strings.Search3
import Derived.Shelf.Vars
namespace Go.Proofs
open Go.Shelf
def Tryz.lays143_ren : Go.Shelf.Ren := ⟨fun | 143 => 239 | 219 => 245 | 217 => 250 | 225 => 251 | 224 => 252 | 267 => 253 | 266 => 256 | 314 => 257 | n => n, fun | 9 => 9 | 3 => 3 | 4 => 4 | 5 => 5 | 46 => 144 | 146 => 299 | 51 => 98 | n => n, fun | 1 => 0 | n => n⟩

theorem Tryz.lays143 : Go.Proofs.Lays.n143 Tryz.prog Tryz.lays143_ren := {
  mixed := by kernel_rfl
  f143 := Tryz.func239.trans (congrArg some (by kernel_rfl))
  f217 := Tryz.func250.trans (congrArg some (by kernel_rfl))
  f219 := Tryz.func245.trans (congrArg some (by kernel_rfl))
  f224 := Tryz.func252.trans (congrArg some (by kernel_rfl))
  f225 := Tryz.func251.trans (congrArg some (by kernel_rfl))
  f266 := Tryz.func256.trans (congrArg some (by kernel_rfl))
  f267 := Tryz.func253.trans (congrArg some (by kernel_rfl))
  f314 := Tryz.func257.trans (congrArg some (by kernel_rfl))
  t3 := Tryz.underlying3
  a3 := Tryz.isAgg3
  z3 := Tryz.sizeOf3
  v3 := Tryz.zeroValue3
  t4 := Tryz.underlying4
  a4 := Tryz.isAgg4
  z4 := Tryz.sizeOf4
  v4 := Tryz.zeroValue4
  t5 := Tryz.underlying5
  a5 := Tryz.isAgg5
  z5 := Tryz.sizeOf5
  v5 := Tryz.zeroValue5
  t9 := Tryz.underlying9
  a9 := Tryz.isAgg9
  z9 := Tryz.sizeOf9
  v9 := Tryz.zeroValue9
  t46 := Tryz.underlying144
  a46 := Tryz.isAgg144
  z46 := Tryz.sizeOf144
  v46 := Tryz.zeroValue144
  t51 := Tryz.underlying98
  a51 := Tryz.isAgg98
  z51 := Tryz.sizeOf98
  v51 := Tryz.zeroValue98
  t146 := Tryz.underlying299
  a146 := Tryz.isAgg299
  z146 := Tryz.sizeOf299
  v146 := Tryz.zeroValue299
  g1 := by kernel_rfl }

open Go.RowKit Go.Lib in
theorem Tryz.strings_Index (s sub : ByteArray) (m : Int) (w : World) (hs : s.size < 4294967281) (hm : w.cell? ⟨0, 0, none⟩ = some (.int .i64 m)) :
    Calls Tryz.prog 239 #[.string s, .string sub] w fun e w' => e = .returned (.int .i64 (Lib.index s.data.toList sub.data.toList)) ∧ w' = w := Any.strings_Index Tryz.lays143 s sub m w hs hm

end Go.Proofs
namespace Go.Proofs.YtckbdegpiffegaaGreatDoor
open Go.ChangeShapes Go.WideShapes Go.ChangeAt Go.RowKit

noncomputable def storeNone_absX : List (FuncId × Abs.Ext) := [(239, .index 0), (228, .cmp), (238, .noEscape), (256, .indexByte)]
set_option maxRecDepth 100000 in
theorem storeNone_absExt : Abs.ExtOk Tryz.prog storeNone_absX := ⟨⟨⟨_, Tryz.func239⟩, fun s sub m w hs hm => Tryz.strings_Index s sub m w hs hm⟩, ⟨⟨_, (by kernel_rfl : Tryz.prog.funcs[228]? = some (Tryz.prog.funcs[228]?.getD default)), by kernel_rfl, by kernel_rfl, by kernel_rfl, by kernel_rfl⟩, ⟨⟨_, (by kernel_rfl : Tryz.prog.funcs[238]? = some (Tryz.prog.funcs[238]?.getD default)), by kernel_rfl, by kernel_rfl, by kernel_rfl, by kernel_rfl⟩, ⟨⟨_, (by kernel_rfl : Tryz.prog.funcs[256]? = some (Tryz.prog.funcs[256]?.getD default)), by kernel_rfl, by kernel_rfl, by kernel_rfl, by kernel_rfl⟩, trivial⟩⟩⟩⟩
set_option maxRecDepth 100000 in
theorem storeNone_absValid : Abs.validB Tryz.prog = true := by kernel_rfl
set_option maxRecDepth 100000 in
theorem storeNone_absNum : Abs.noNumL Tryz.prog.funcs.toList = true := by kernel_rfl
theorem storeNone_absMixed : Tryz.prog.follows .mixedOrders = true := by kernel_rfl
end Go.Proofs.YtckbdegpiffegaaGreatDoor
