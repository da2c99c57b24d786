/- The ground of the statement 'BuiltNoneCard' of 'YtbjfdogcacpfiaaGreatDoor': which library functions the abstract machine takes by contract. No condition. -/
import Derived.Test.YtbjfdogcacpfiaaGreatDoorTie
import Derived.Test.YtbjfdogcacpfiaaGreatDoorCards
import Derived.Test.YtbjfdogcacpfiaaGreatDoorAbs5
import Derived.WalkKit
import Derived.ProofKit
import Derived.OpenShut
import Derived.SevenTiedAt
import Derived.ChangeCalls
import Derived.Shelf.Strings.Search3
import Derived.Shelf.Vars
namespace Go.Proofs
open Go.Shelf
def Tryz.lays143_ren : Go.Shelf.Ren := ⟨fun | 143 => 487 | 219 => 495 | 217 => 500 | 225 => 501 | 224 => 502 | 267 => 503 | 266 => 506 | 314 => 507 | n => n, fun | 9 => 9 | 3 => 3 | 4 => 4 | 5 => 5 | 46 => 291 | 146 => 544 | 51 => 258 | n => n, fun | 1 => 0 | n => n⟩

theorem Tryz.lays143 : Go.Proofs.Lays.n143 Tryz.prog Tryz.lays143_ren := {
  mixed := by kernel_rfl
  f143 := Tryz.func487.trans (congrArg some (by kernel_rfl))
  f217 := Tryz.func500.trans (congrArg some (by kernel_rfl))
  f219 := Tryz.func495.trans (congrArg some (by kernel_rfl))
  f224 := Tryz.func502.trans (congrArg some (by kernel_rfl))
  f225 := Tryz.func501.trans (congrArg some (by kernel_rfl))
  f266 := Tryz.func506.trans (congrArg some (by kernel_rfl))
  f267 := Tryz.func503.trans (congrArg some (by kernel_rfl))
  f314 := Tryz.func507.trans (congrArg some (by kernel_rfl))
  t3 := Tryz.underlying3
  a3 := Tryz.isAgg3
  z3 := Tryz.sizeOf3
  v3 := Tryz.zeroValue3
  t4 := Tryz.underlying4
  a4 := Tryz.isAgg4
  z4 := Tryz.sizeOf4
  v4 := Tryz.zeroValue4
  t5 := Tryz.underlying5
  a5 := Tryz.isAgg5
  z5 := Tryz.sizeOf5
  v5 := Tryz.zeroValue5
  t9 := Tryz.underlying9
  a9 := Tryz.isAgg9
  z9 := Tryz.sizeOf9
  v9 := Tryz.zeroValue9
  t46 := Tryz.underlying291
  a46 := Tryz.isAgg291
  z46 := Tryz.sizeOf291
  v46 := Tryz.zeroValue291
  t51 := Tryz.underlying258
  a51 := Tryz.isAgg258
  z51 := Tryz.sizeOf258
  v51 := Tryz.zeroValue258
  t146 := Tryz.underlying544
  a146 := Tryz.isAgg544
  z146 := Tryz.sizeOf544
  v146 := Tryz.zeroValue544
  g1 := by kernel_rfl }

open Go.RowKit Go.Lib in
theorem Tryz.strings_Index (s sub : ByteArray) (m : Int) (w : World) (hs : s.size < 4294967281) (hm : w.cell? ⟨0, 0, none⟩ = some (.int .i64 m)) :
    Calls Tryz.prog 487 #[.string s, .string sub] w fun e w' => e = .returned (.int .i64 (Lib.index s.data.toList sub.data.toList)) ∧ w' = w := Any.strings_Index Tryz.lays143 s sub m w hs hm

end Go.Proofs
namespace Go.Proofs.YtbjfdogcacpfiaaGreatDoor
open Go.ChangeShapes Go.WideShapes Go.ChangeAt Go.RowKit

noncomputable def builtNone_absX : List (FuncId × Abs.Ext) := [(487, .index 0), (447, .cmp), (486, .noEscape), (506, .indexByte)]
set_option maxRecDepth 100000 in
theorem builtNone_absExt : Abs.ExtOk Tryz.prog builtNone_absX := ⟨⟨⟨_, Tryz.func487⟩, fun s sub m w hs hm => Tryz.strings_Index s sub m w hs hm⟩, ⟨⟨_, (by kernel_rfl : Tryz.prog.funcs[447]? = some (Tryz.prog.funcs[447]?.getD default)), by kernel_rfl, by kernel_rfl, by kernel_rfl, by kernel_rfl⟩, ⟨⟨_, (by kernel_rfl : Tryz.prog.funcs[486]? = some (Tryz.prog.funcs[486]?.getD default)), by kernel_rfl, by kernel_rfl, by kernel_rfl, by kernel_rfl⟩, ⟨⟨_, (by kernel_rfl : Tryz.prog.funcs[506]? = some (Tryz.prog.funcs[506]?.getD default)), by kernel_rfl, by kernel_rfl, by kernel_rfl, by kernel_rfl⟩, trivial⟩⟩⟩⟩
set_option maxRecDepth 100000 in
theorem builtNone_absValid : Abs.validB Tryz.prog = true := by kernel_rfl
set_option maxRecDepth 100000 in
theorem builtNone_absNum : Abs.noNumL Tryz.prog.funcs.toList = true := by kernel_rfl
theorem builtNone_absMixed : Tryz.prog.follows .mixedOrders = true := by kernel_rfl
end Go.Proofs.YtbjfdogcacpfiaaGreatDoor
