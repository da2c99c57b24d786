/- The ground of the statement 'EvalSumsCard' of 'YtjioppomopfifaaGreatDoor': which library functions the abstract machine takes by contract. No condition. -/
import Derived.Test.YtjioppomopfifaaGreatDoorTie
import Derived.Test.YtjioppomopfifaaGreatDoorCards
import Derived.Test.YtjioppomopfifaaGreatDoorEvalSumsCon
import Derived.WalkKit
import Derived.ProofKit
import Derived.OpenShut
import Derived.SevenTiedAt
import Derived.ChangeCalls
import Derived.Shelf.Strings.Search3
import Derived.Shelf.Vars
namespace Go.Proofs
open Go.Shelf
def Tryz.lays143_ren:Go.Shelf.Ren:=⟨fun| 143=>168| 219=>210| 217=>124| 225=>246| 224=>247| 267=>248| 266=>165| 314=>271|n=>n,fun| 9=>9| 3=>3| 4=>4| 5=>5| 46=>250| 146=>338| 51=>323|n=>n,fun| 1=>1|n=>n⟩
theorem Tryz.lays143:Go.Proofs.Lays.n143 Tryz.prog Tryz.lays143_ren:={
 mixed:=by kernel_rfl
 f143:=Tryz.func168.trans (congrArg some (by kernel_rfl))
 f217:=Tryz.func124.trans (congrArg some (by kernel_rfl))
 f219:=Tryz.func210.trans (congrArg some (by kernel_rfl))
 f224:=Tryz.func247.trans (congrArg some (by kernel_rfl))
 f225:=Tryz.func246.trans (congrArg some (by kernel_rfl))
 f266:=Tryz.func165.trans (congrArg some (by kernel_rfl))
 f267:=Tryz.func248.trans (congrArg some (by kernel_rfl))
 f314:=Tryz.func271.trans (congrArg some (by kernel_rfl))
 t3:=Tryz.underlying3
 a3:=Tryz.isAgg3
 z3:=Tryz.sizeOf3
 v3:=Tryz.zeroValue3
 t4:=Tryz.underlying4
 a4:=Tryz.isAgg4
 z4:=Tryz.sizeOf4
 v4:=Tryz.zeroValue4
 t5:=Tryz.underlying5
 a5:=Tryz.isAgg5
 z5:=Tryz.sizeOf5
 v5:=Tryz.zeroValue5
 t9:=Tryz.underlying9
 a9:=Tryz.isAgg9
 z9:=Tryz.sizeOf9
 v9:=Tryz.zeroValue9
 t46:=Tryz.underlying250
 a46:=Tryz.isAgg250
 z46:=Tryz.sizeOf250
 v46:=Tryz.zeroValue250
 t51:=Tryz.underlying323
 a51:=Tryz.isAgg323
 z51:=Tryz.sizeOf323
 v51:=Tryz.zeroValue323
 t146:=Tryz.underlying338
 a146:=Tryz.isAgg338
 z146:=Tryz.sizeOf338
 v146:=Tryz.zeroValue338
 g1:=by kernel_rfl }
open Go.RowKit Go.Lib in
theorem Tryz.strings_Index (s sub:ByteArray) (m:Int) (w:World) (hs:s.size < 4294967281) (hm:w.cell? ⟨1,0,none⟩=some (.int .i64 m)):
 Calls Tryz.prog 168 #[.string s,.string sub] w fun e w'=>e=.returned (.int .i64 (Lib.index s.data.toList sub.data.toList))∧w'=w:=Any.strings_Index Tryz.lays143 s sub m w hs hm
end Go.Proofs
namespace Go.Proofs.YtjioppomopfifaaGreatDoor
open Go.ChangeShapes Go.WideShapes Go.ChangeAt Go.RowKit
noncomputable def aez (n:Nat):Abs.AV:=.int .i64 (.ofNat n)
noncomputable def aeA (l:List Nat):Abs.AV:=.str (Abs.sb l)
noncomputable def aeB:Abs.AV:=.str (Abs.sb [])
noncomputable def dM:List (FuncId×Abs.Ext):=[(168,.index 1),(165,.indexByte),(221,.H8),(222,.V5),(236,.clone),(286,.cmp)]
set_option maxRecDepth 100000 in
theorem dG:Abs.a0i Tryz.prog dM:=⟨⟨⟨_,Tryz.func168⟩,fun s sub m w hs hm=>Tryz.strings_Index s sub m w hs hm⟩,⟨⟨_,(by kernel_rfl:Tryz.prog.funcs[165]? =some (Tryz.prog.funcs[165]?.getD default)),by kernel_rfl,by kernel_rfl,by kernel_rfl,by kernel_rfl⟩,⟨⟨_,(by kernel_rfl:Tryz.prog.funcs[221]? =some (Tryz.prog.funcs[221]?.getD default)),by kernel_rfl,by kernel_rfl,by kernel_rfl,by kernel_rfl⟩,⟨⟨_,(by kernel_rfl:Tryz.prog.funcs[222]? =some (Tryz.prog.funcs[222]?.getD default)),by kernel_rfl,by kernel_rfl,by kernel_rfl,by kernel_rfl⟩,⟨⟨_,(by kernel_rfl:Tryz.prog.funcs[236]? =some (Tryz.prog.funcs[236]?.getD default)),by kernel_rfl,by kernel_rfl,by kernel_rfl,by kernel_rfl⟩,⟨⟨_,(by kernel_rfl:Tryz.prog.funcs[286]? =some (Tryz.prog.funcs[286]?.getD default)),by kernel_rfl,by kernel_rfl,by kernel_rfl,by kernel_rfl⟩,trivial⟩⟩⟩⟩⟩⟩
end Go.Proofs.YtjioppomopfifaaGreatDoor
