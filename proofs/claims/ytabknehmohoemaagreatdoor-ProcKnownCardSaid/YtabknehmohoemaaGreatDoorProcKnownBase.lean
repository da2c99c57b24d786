/- The ground of the statement 'ProcKnownCard' of 'YtabknehmohoemaaGreatDoor': which library functions the abstract machine takes by contract. No condition. -/
import Derived.Test.YtabknehmohoemaaGreatDoorRows
import Derived.Test.YtabknehmohoemaaGreatDoorCards
import Derived.Test.YtabknehmohoemaaGreatDoorAbs5
import Derived.Test.YtabknehmohoemaaGreatDoorAs
import Derived.WalkKit
import Derived.ProofKit
import Derived.OpenShut
import Derived.SevenTiedAt
import Derived.ChangeCalls
import Derived.Shelf.Strings.Search3
import Derived.Shelf.Vars
namespace Go.Proofs
open Go.Shelf
def Tryz.lays143_ren : Go.Shelf.Ren := ⟨fun | 143 => 449 | 219 => 543 | 217 => 343 | 225 => 637 | 224 => 638 | 267 => 639 | 266 => 446 | 314 => 703 | n => n, fun | 9 => 9 | 3 => 3 | 4 => 4 | 5 => 5 | 46 => 179 | 146 => 760 | 51 => 240 | n => n, fun | 1 => 1 | n => n⟩

theorem Tryz.lays143 : Go.Proofs.Lays.n143 Tryz.prog Tryz.lays143_ren := {
  mixed := by kernel_rfl
  f143 := Tryz.func449.trans (congrArg some (by kernel_rfl))
  f217 := Tryz.func343.trans (congrArg some (by kernel_rfl))
  f219 := Tryz.func543.trans (congrArg some (by kernel_rfl))
  f224 := Tryz.func638.trans (congrArg some (by kernel_rfl))
  f225 := Tryz.func637.trans (congrArg some (by kernel_rfl))
  f266 := Tryz.func446.trans (congrArg some (by kernel_rfl))
  f267 := Tryz.func639.trans (congrArg some (by kernel_rfl))
  f314 := Tryz.func703.trans (congrArg some (by kernel_rfl))
  t3 := Tryz.underlying3
  a3 := Tryz.isAgg3
  z3 := Tryz.sizeOf3
  v3 := Tryz.zeroValue3
  t4 := Tryz.underlying4
  a4 := Tryz.isAgg4
  z4 := Tryz.sizeOf4
  v4 := Tryz.zeroValue4
  t5 := Tryz.underlying5
  a5 := Tryz.isAgg5
  z5 := Tryz.sizeOf5
  v5 := Tryz.zeroValue5
  t9 := Tryz.underlying9
  a9 := Tryz.isAgg9
  z9 := Tryz.sizeOf9
  v9 := Tryz.zeroValue9
  t46 := Tryz.underlying179
  a46 := Tryz.isAgg179
  z46 := Tryz.sizeOf179
  v46 := Tryz.zeroValue179
  t51 := Tryz.underlying240
  a51 := Tryz.isAgg240
  z51 := Tryz.sizeOf240
  v51 := Tryz.zeroValue240
  t146 := Tryz.underlying760
  a146 := Tryz.isAgg760
  z146 := Tryz.sizeOf760
  v146 := Tryz.zeroValue760
  g1 := by kernel_rfl }

open Go.RowKit Go.Lib in
theorem Tryz.strings_Index (s sub : ByteArray) (m : Int) (w : World) (hs : s.size < 4294967281) (hm : w.cell? ⟨1, 0, none⟩ = some (.int .i64 m)) :
    Calls Tryz.prog 449 #[.string s, .string sub] w fun e w' => e = .returned (.int .i64 (Lib.index s.data.toList sub.data.toList)) ∧ w' = w := Any.strings_Index Tryz.lays143 s sub m w hs hm

end Go.Proofs
namespace Go.Proofs.YtabknehmohoemaaGreatDoor
open Go.ChangeShapes Go.WideShapes Go.ChangeAt Go.RowKit

noncomputable def procKnown_absX : List (FuncId × Abs.Ext) := [(449, .index 1), (156, .as asE), (446, .indexByte), (554, .noEscape), (555, .noZero), (569, .clone), (710, .cmp)]
set_option maxRecDepth 100000 in
theorem procKnown_absExt : Abs.ExtOk Tryz.prog procKnown_absX := ⟨⟨⟨_, Tryz.func449⟩, fun s sub m w hs hm => Tryz.strings_Index s sub m w hs hm⟩, ⟨as_ok, ⟨⟨_, (by kernel_rfl : Tryz.prog.funcs[446]? = some (Tryz.prog.funcs[446]?.getD default)), by kernel_rfl, by kernel_rfl, by kernel_rfl, by kernel_rfl⟩, ⟨⟨_, (by kernel_rfl : Tryz.prog.funcs[554]? = some (Tryz.prog.funcs[554]?.getD default)), by kernel_rfl, by kernel_rfl, by kernel_rfl, by kernel_rfl⟩, ⟨⟨_, (by kernel_rfl : Tryz.prog.funcs[555]? = some (Tryz.prog.funcs[555]?.getD default)), by kernel_rfl, by kernel_rfl, by kernel_rfl, by kernel_rfl⟩, ⟨⟨_, (by kernel_rfl : Tryz.prog.funcs[569]? = some (Tryz.prog.funcs[569]?.getD default)), by kernel_rfl, by kernel_rfl, by kernel_rfl, by kernel_rfl⟩, ⟨⟨_, (by kernel_rfl : Tryz.prog.funcs[710]? = some (Tryz.prog.funcs[710]?.getD default)), by kernel_rfl, by kernel_rfl, by kernel_rfl, by kernel_rfl⟩, trivial⟩⟩⟩⟩⟩⟩⟩
set_option maxRecDepth 100000 in
theorem procKnown_absValid : Abs.validB Tryz.prog = true := by kernel_rfl
set_option maxRecDepth 100000 in
theorem procKnown_absNum : Abs.noNumL Tryz.prog.funcs.toList = true := by kernel_rfl
theorem procKnown_absMixed : Tryz.prog.follows .mixedOrders = true := by kernel_rfl
end Go.Proofs.YtabknehmohoemaaGreatDoor
