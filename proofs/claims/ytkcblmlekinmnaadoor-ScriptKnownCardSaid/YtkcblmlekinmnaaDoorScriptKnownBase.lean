/- The ground of the statement 'ScriptKnownCard' of 'YtkcblmlekinmnaaDoor': which library functions the abstract machine takes by contract. No condition. -/
import Derived.Test.YtkcblmlekinmnaaDoorTie
import Derived.Test.YtkcblmlekinmnaaDoorCards
import Derived.Test.YtkcblmlekinmnaaDoorAbs5
import Derived.WalkKit
import Derived.ProofKit
import Derived.OpenShut
import Derived.SevenTiedAt
import Derived.ChangeCalls
import Derived.Shelf.Strings.Search3
import Derived.Shelf.Vars
namespace Go.Proofs
open Go.Shelf
def Tryd.lays143_ren : Go.Shelf.Ren := ⟨fun | 143 => 23 | 219 => 31 | 217 => 40 | 225 => 41 | 224 => 42 | 267 => 43 | 266 => 61 | 314 => 62 | n => n, fun | 9 => 9 | 3 => 3 | 4 => 4 | 5 => 5 | 46 => 86 | 146 => 108 | 51 => 107 | n => n, fun | 1 => 2 | n => n⟩

theorem Tryd.lays143 : Go.Proofs.Lays.n143 Tryd.prog Tryd.lays143_ren := {
  mixed := by kernel_rfl
  f143 := Tryd.func23.trans (congrArg some (by kernel_rfl))
  f217 := Tryd.func40.trans (congrArg some (by kernel_rfl))
  f219 := Tryd.func31.trans (congrArg some (by kernel_rfl))
  f224 := Tryd.func42.trans (congrArg some (by kernel_rfl))
  f225 := Tryd.func41.trans (congrArg some (by kernel_rfl))
  f266 := Tryd.func61.trans (congrArg some (by kernel_rfl))
  f267 := Tryd.func43.trans (congrArg some (by kernel_rfl))
  f314 := Tryd.func62.trans (congrArg some (by kernel_rfl))
  t3 := Tryd.underlying3
  a3 := Tryd.isAgg3
  z3 := Tryd.sizeOf3
  v3 := Tryd.zeroValue3
  t4 := Tryd.underlying4
  a4 := Tryd.isAgg4
  z4 := Tryd.sizeOf4
  v4 := Tryd.zeroValue4
  t5 := Tryd.underlying5
  a5 := Tryd.isAgg5
  z5 := Tryd.sizeOf5
  v5 := Tryd.zeroValue5
  t9 := Tryd.underlying9
  a9 := Tryd.isAgg9
  z9 := Tryd.sizeOf9
  v9 := Tryd.zeroValue9
  t46 := Tryd.underlying86
  a46 := Tryd.isAgg86
  z46 := Tryd.sizeOf86
  v46 := Tryd.zeroValue86
  t51 := Tryd.underlying107
  a51 := Tryd.isAgg107
  z51 := Tryd.sizeOf107
  v51 := Tryd.zeroValue107
  t146 := Tryd.underlying108
  a146 := Tryd.isAgg108
  z146 := Tryd.sizeOf108
  v146 := Tryd.zeroValue108
  g1 := by kernel_rfl }

open Go.RowKit Go.Lib in
theorem Tryd.strings_Index (s sub : ByteArray) (m : Int) (w : World) (hs : s.size < 4294967281) (hm : w.cell? ⟨2, 0, none⟩ = some (.int .i64 m)) :
    Calls Tryd.prog 23 #[.string s, .string sub] w fun e w' => e = .returned (.int .i64 (Lib.index s.data.toList sub.data.toList)) ∧ w' = w := Any.strings_Index Tryd.lays143 s sub m w hs hm

end Go.Proofs
namespace Go.Proofs.YtkcblmlekinmnaaDoor
open Go.ChangeShapes Go.WideShapes Go.ChangeAt Go.RowKit

noncomputable def scriptKnown_absX : List (FuncId × Abs.Ext) := [(23, .index 2), (61, .indexByte), (97, .noEscape)]
set_option maxRecDepth 100000 in
theorem scriptKnown_absExt : Abs.ExtOk Tryd.prog scriptKnown_absX := ⟨⟨⟨_, Tryd.func23⟩, fun s sub m w hs hm => Tryd.strings_Index s sub m w hs hm⟩, ⟨⟨_, (by kernel_rfl : Tryd.prog.funcs[61]? = some (Tryd.prog.funcs[61]?.getD default)), by kernel_rfl, by kernel_rfl, by kernel_rfl, by kernel_rfl⟩, ⟨⟨_, (by kernel_rfl : Tryd.prog.funcs[97]? = some (Tryd.prog.funcs[97]?.getD default)), by kernel_rfl, by kernel_rfl, by kernel_rfl, by kernel_rfl⟩, trivial⟩⟩⟩
set_option maxRecDepth 100000 in
theorem scriptKnown_absValid : Abs.validB Tryd.prog = true := by kernel_rfl
set_option maxRecDepth 100000 in
theorem scriptKnown_absNum : Abs.noNumL Tryd.prog.funcs.toList = true := by kernel_rfl
theorem scriptKnown_absMixed : Tryd.prog.follows .mixedOrders = true := by kernel_rfl
end Go.Proofs.YtkcblmlekinmnaaDoor
