/- The ground of the statement 'RegistryNoneUptoCard' of 'YtheiiffocibnoaaGreat': which library functions the abstract machine takes by contract. No condition. -/
import Derived.Test.YtheiiffocibnoaaGreatRows
import Derived.Test.YtheiiffocibnoaaGreatAbs6
import Derived.WalkKit
import Derived.ProofKit
import Derived.OpenShut
import Derived.SevenTiedAt
import Derived.ChangeCalls
import Derived.Shelf.Vars
namespace Go.Proofs.YtheiiffocibnoaaGreat
open Go.ChangeShapes Go.WideShapes Go.ChangeAt Go.RowKit

noncomputable def registryNone_absX : List (FuncId × Abs.Ext) := [(180, .cmp)]
set_option maxRecDepth 100000 in
theorem registryNone_absExt : Abs.ExtOk Tryz.prog registryNone_absX := ⟨⟨_, (by kernel_rfl : Tryz.prog.funcs[180]? = some (Tryz.prog.funcs[180]?.getD default)), by kernel_rfl, by kernel_rfl, by kernel_rfl, by kernel_rfl⟩, trivial⟩
set_option maxRecDepth 100000 in
theorem registryNone_absValid : Abs.validB Tryz.prog = true := by kernel_rfl
set_option maxRecDepth 100000 in
theorem registryNone_absNum : Abs.noNumL Tryz.prog.funcs.toList = true := by kernel_rfl
theorem registryNone_absMixed : Tryz.prog.follows .mixedOrders = true := by kernel_rfl
end Go.Proofs.YtheiiffocibnoaaGreat
