/- The ground of the statement 'WalkNoneCard' of 'YtojdnhchddidcaaGreatDoor': which library functions the abstract machine takes by contract. No condition. -/
import Derived.Test.YtojdnhchddidcaaGreatDoorTie
import Derived.Test.YtojdnhchddidcaaGreatDoorCards
import Derived.Test.YtojdnhchddidcaaGreatDoorAbs5
import Derived.WalkKit
import Derived.ProofKit
import Derived.OpenShut
import Derived.SevenTiedAt
import Derived.ChangeCalls
import Derived.Shelf.Strings.Search3
import Derived.Shelf.Vars
namespace Go.Proofs
open Go.Shelf
def Tryz.lays143_ren : Go.Shelf.Ren := ⟨fun | 143 => 218 | 219 => 224 | 217 => 229 | 225 => 230 | 224 => 231 | 267 => 232 | 266 => 235 | 314 => 236 | n => n, fun | 9 => 9 | 3 => 3 | 4 => 4 | 5 => 5 | 46 => 192 | 146 => 280 | 51 => 135 | n => n, fun | 1 => 0 | n => n⟩

theorem Tryz.lays143 : Go.Proofs.Lays.n143 Tryz.prog Tryz.lays143_ren := {
  mixed := by kernel_rfl
  f143 := Tryz.func218.trans (congrArg some (by kernel_rfl))
  f217 := Tryz.func229.trans (congrArg some (by kernel_rfl))
  f219 := Tryz.func224.trans (congrArg some (by kernel_rfl))
  f224 := Tryz.func231.trans (congrArg some (by kernel_rfl))
  f225 := Tryz.func230.trans (congrArg some (by kernel_rfl))
  f266 := Tryz.func235.trans (congrArg some (by kernel_rfl))
  f267 := Tryz.func232.trans (congrArg some (by kernel_rfl))
  f314 := Tryz.func236.trans (congrArg some (by kernel_rfl))
  t3 := Tryz.underlying3
  a3 := Tryz.isAgg3
  z3 := Tryz.sizeOf3
  v3 := Tryz.zeroValue3
  t4 := Tryz.underlying4
  a4 := Tryz.isAgg4
  z4 := Tryz.sizeOf4
  v4 := Tryz.zeroValue4
  t5 := Tryz.underlying5
  a5 := Tryz.isAgg5
  z5 := Tryz.sizeOf5
  v5 := Tryz.zeroValue5
  t9 := Tryz.underlying9
  a9 := Tryz.isAgg9
  z9 := Tryz.sizeOf9
  v9 := Tryz.zeroValue9
  t46 := Tryz.underlying192
  a46 := Tryz.isAgg192
  z46 := Tryz.sizeOf192
  v46 := Tryz.zeroValue192
  t51 := Tryz.underlying135
  a51 := Tryz.isAgg135
  z51 := Tryz.sizeOf135
  v51 := Tryz.zeroValue135
  t146 := Tryz.underlying280
  a146 := Tryz.isAgg280
  z146 := Tryz.sizeOf280
  v146 := Tryz.zeroValue280
  g1 := by kernel_rfl }

open Go.RowKit Go.Lib in
theorem Tryz.strings_Index (s sub : ByteArray) (m : Int) (w : World) (hs : s.size < 4294967281) (hm : w.cell? ⟨0, 0, none⟩ = some (.int .i64 m)) :
    Calls Tryz.prog 218 #[.string s, .string sub] w fun e w' => e = .returned (.int .i64 (Lib.index s.data.toList sub.data.toList)) ∧ w' = w := Any.strings_Index Tryz.lays143 s sub m w hs hm

end Go.Proofs
namespace Go.Proofs.YtojdnhchddidcaaGreatDoor
open Go.ChangeShapes Go.WideShapes Go.ChangeAt Go.RowKit

noncomputable def walkNone_absX : List (FuncId × Abs.Ext) := [(218, .index 0), (190, .cmp), (217, .noEscape), (235, .indexByte)]
set_option maxRecDepth 100000 in
theorem walkNone_absExt : Abs.ExtOk Tryz.prog walkNone_absX := ⟨⟨⟨_, Tryz.func218⟩, fun s sub m w hs hm => Tryz.strings_Index s sub m w hs hm⟩, ⟨⟨_, (by kernel_rfl : Tryz.prog.funcs[190]? = some (Tryz.prog.funcs[190]?.getD default)), by kernel_rfl, by kernel_rfl, by kernel_rfl, by kernel_rfl⟩, ⟨⟨_, (by kernel_rfl : Tryz.prog.funcs[217]? = some (Tryz.prog.funcs[217]?.getD default)), by kernel_rfl, by kernel_rfl, by kernel_rfl, by kernel_rfl⟩, ⟨⟨_, (by kernel_rfl : Tryz.prog.funcs[235]? = some (Tryz.prog.funcs[235]?.getD default)), by kernel_rfl, by kernel_rfl, by kernel_rfl, by kernel_rfl⟩, trivial⟩⟩⟩⟩
set_option maxRecDepth 100000 in
theorem walkNone_absValid : Abs.validB Tryz.prog = true := by kernel_rfl
set_option maxRecDepth 100000 in
theorem walkNone_absNum : Abs.noNumL Tryz.prog.funcs.toList = true := by kernel_rfl
theorem walkNone_absMixed : Tryz.prog.follows .mixedOrders = true := by kernel_rfl
end Go.Proofs.YtojdnhchddidcaaGreatDoor
