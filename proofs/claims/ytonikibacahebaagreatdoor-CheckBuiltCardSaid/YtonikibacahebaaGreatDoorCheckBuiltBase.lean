/- The ground of the statement 'CheckBuiltCard' of 'YtonikibacahebaaGreatDoor': which library functions the abstract machine takes by contract; awake() returns true. No condition. -/
import Derived.Test.YtonikibacahebaaGreatDoorTie
import Derived.Test.YtonikibacahebaaGreatDoorCards
import Derived.Test.YtonikibacahebaaGreatDoorAbs5
import Derived.WalkKit
import Derived.ProofKit
import Derived.OpenShut
import Derived.SevenTiedAt
import Derived.ChangeCalls
import Derived.Shelf.Strings.Search3
import Derived.Shelf.Vars
namespace Go.Proofs
open Go.Shelf
def Tryz.lays143_ren : Go.Shelf.Ren := ⟨fun | 143 => 103 | 219 => 136 | 217 => 71 | 225 => 166 | 224 => 167 | 267 => 168 | 266 => 100 | 314 => 184 | n => n, fun | 9 => 9 | 3 => 3 | 4 => 4 | 5 => 5 | 46 => 177 | 146 => 250 | 51 => 240 | n => n, fun | 1 => 1 | n => n⟩

theorem Tryz.lays143 : Go.Proofs.Lays.n143 Tryz.prog Tryz.lays143_ren := {
  mixed := by kernel_rfl
  f143 := Tryz.func103.trans (congrArg some (by kernel_rfl))
  f217 := Tryz.func71.trans (congrArg some (by kernel_rfl))
  f219 := Tryz.func136.trans (congrArg some (by kernel_rfl))
  f224 := Tryz.func167.trans (congrArg some (by kernel_rfl))
  f225 := Tryz.func166.trans (congrArg some (by kernel_rfl))
  f266 := Tryz.func100.trans (congrArg some (by kernel_rfl))
  f267 := Tryz.func168.trans (congrArg some (by kernel_rfl))
  f314 := Tryz.func184.trans (congrArg some (by kernel_rfl))
  t3 := Tryz.underlying3
  a3 := Tryz.isAgg3
  z3 := Tryz.sizeOf3
  v3 := Tryz.zeroValue3
  t4 := Tryz.underlying4
  a4 := Tryz.isAgg4
  z4 := Tryz.sizeOf4
  v4 := Tryz.zeroValue4
  t5 := Tryz.underlying5
  a5 := Tryz.isAgg5
  z5 := Tryz.sizeOf5
  v5 := Tryz.zeroValue5
  t9 := Tryz.underlying9
  a9 := Tryz.isAgg9
  z9 := Tryz.sizeOf9
  v9 := Tryz.zeroValue9
  t46 := Tryz.underlying177
  a46 := Tryz.isAgg177
  z46 := Tryz.sizeOf177
  v46 := Tryz.zeroValue177
  t51 := Tryz.underlying240
  a51 := Tryz.isAgg240
  z51 := Tryz.sizeOf240
  v51 := Tryz.zeroValue240
  t146 := Tryz.underlying250
  a146 := Tryz.isAgg250
  z146 := Tryz.sizeOf250
  v146 := Tryz.zeroValue250
  g1 := by kernel_rfl }

open Go.RowKit Go.Lib in
theorem Tryz.strings_Index (s sub : ByteArray) (m : Int) (w : World) (hs : s.size < 4294967281) (hm : w.cell? ⟨1, 0, none⟩ = some (.int .i64 m)) :
    Calls Tryz.prog 103 #[.string s, .string sub] w fun e w' => e = .returned (.int .i64 (Lib.index s.data.toList sub.data.toList)) ∧ w' = w := Any.strings_Index Tryz.lays143 s sub m w hs hm

end Go.Proofs
namespace Go.Proofs.YtonikibacahebaaGreatDoor
open Go.ChangeShapes Go.WideShapes Go.ChangeAt Go.RowKit

noncomputable def checkBuilt_absX0 : List (FuncId × Abs.Ext) := [(103, .index 1), (100, .indexByte), (149, .noEscape), (150, .noZero), (163, .clone)]
set_option maxRecDepth 100000 in
theorem checkBuilt_absExt0 : Abs.ExtOk Tryz.prog checkBuilt_absX0 := ⟨⟨⟨_, Tryz.func103⟩, fun s sub m w hs hm => Tryz.strings_Index s sub m w hs hm⟩, ⟨⟨_, (by kernel_rfl : Tryz.prog.funcs[100]? = some (Tryz.prog.funcs[100]?.getD default)), by kernel_rfl, by kernel_rfl, by kernel_rfl, by kernel_rfl⟩, ⟨⟨_, (by kernel_rfl : Tryz.prog.funcs[149]? = some (Tryz.prog.funcs[149]?.getD default)), by kernel_rfl, by kernel_rfl, by kernel_rfl, by kernel_rfl⟩, ⟨⟨_, (by kernel_rfl : Tryz.prog.funcs[150]? = some (Tryz.prog.funcs[150]?.getD default)), by kernel_rfl, by kernel_rfl, by kernel_rfl, by kernel_rfl⟩, ⟨⟨_, (by kernel_rfl : Tryz.prog.funcs[163]? = some (Tryz.prog.funcs[163]?.getD default)), by kernel_rfl, by kernel_rfl, by kernel_rfl, by kernel_rfl⟩, trivial⟩⟩⟩⟩⟩
set_option maxRecDepth 100000 in
theorem checkBuilt_absValid : Abs.validB Tryz.prog = true := by kernel_rfl
set_option maxRecDepth 100000 in
theorem checkBuilt_absNum : Abs.noNumL Tryz.prog.funcs.toList = true := by kernel_rfl
theorem checkBuilt_absMixed : Tryz.prog.follows .mixedOrders = true := by kernel_rfl
set_option maxRecDepth 100000
noncomputable def cbA_b0 : Abs.MB := (.cells 3 [(.opq Abs.kInt 1)] 0 true false)
noncomputable def cbA_b1 : Abs.MB := (.cells 38 [(.int .i64 (.ofNat 7)), (.int .i64 (.ofNat 0)), (.int .i64 (.ofNat 19)), (.str (Abs.sb [103])), .nilsl] 0 false false)
noncomputable def cbA_b2 : Abs.MB := (.cells 38 [(.int .i64 (.ofNat 22)), (.int .i64 (.ofNat 0)), (.int .i64 (.ofNat 0)), (.str (Abs.sb [])), .nilsl, (.int .i64 (.ofNat 23)), (.int .i64 (.ofNat 0)), (.int .i64 (.ofNat 0)), (.str (Abs.sb [])), .nilsl, (.int .i64 (.ofNat 20)), (.int .i64 (.ofNat 0)), (.int .i64 (.ofNat 19)), (.str (Abs.sb [])), (.sl 779 0 1 1)] 0 false false)
noncomputable def cbA_b3 : Abs.MB := (.cells 38 [(.int .i64 (.ofNat 21)), (.int .i64 (.ofNat 0)), (.int .i64 (.ofNat 12)), (.str (Abs.sb [])), (.sl 782 0 3 3)] 0 false false)
noncomputable def cbA_b4 : Abs.MB := (.cells 36 [(.str (Abs.sb [102])), (.int .i64 (.ofNat 0)), (.int .i64 (.ofNat 12)), (.int .i64 (.ofNat 0)), .nilsl, (.osl 785 0 0 1 5)] 0 false false)
noncomputable def cbA_m0 : Abs.Memo := ⟨[(.str (Abs.sb [45, 109, 111, 100, 117, 108, 101, 40, 109, 41, 46, 32, 102, 40, 41, 32, 45, 62, 32, 103, 40, 41, 46]))], 653, [(1, cbA_b0)], (.tup [(.agg [(.str (Abs.sb [109])), (.osl 788 0 0 1 6)]), (.agg [(.int .i64 (.ofNat 0)), (.int .i64 (.ofNat 0))])]), 789, [(779, cbA_b1), (782, cbA_b2), (785, cbA_b3), (788, cbA_b4)]⟩
noncomputable def cbA_r0_M : List (FuncId × Abs.Memo) := []
noncomputable def cbA_r0_C : Abs.Ctx := Abs.mkCtx Tryz.prog (fun _ => false) checkBuilt_absX0 cbA_r0_M
theorem cbA_r0_good : Abs.Good cbA_r0_C := Abs.good_ofM (Abs.memos_of (M := cbA_r0_M) trivial) checkBuilt_absValid checkBuilt_absNum (Abs.ext_of checkBuilt_absExt0)
theorem cbA_run0 : Abs.R.chk (Abs.memoHolds cbA_m0) (Abs.enterA cbA_r0_C (Abs.runF cbA_r0_C 1000000) 17 cbA_m0.args .normal none cbA_m0.S) = true := by kernel_rfl
theorem cbA_ok0 : Abs.MemoOk Tryz.prog 17 cbA_m0 := Abs.memo_of (C := cbA_r0_C) cbA_r0_good checkBuilt_absMixed 1000000 (by kernel_rfl) cbA_run0
noncomputable def cbA_b5 : Abs.MB := (.cells 38 [(.int .i64 (.ofNat 3)), (.int .i64 (.ofNat 0)), (.int .i64 (.ofNat 14)), (.str (Abs.sb [88])), .nilsl] 0 false false)
noncomputable def cbA_b6 : Abs.MB := (.cells 38 [(.int .i64 (.ofNat 3)), (.int .i64 (.ofNat 0)), (.int .i64 (.ofNat 20)), (.str (Abs.sb [89])), .nilsl, (.int .i64 (.ofNat 3)), (.int .i64 (.ofNat 0)), (.int .i64 (.ofNat 24)), (.str (Abs.sb [88])), .nilsl] 0 false false)
noncomputable def cbA_b7 : Abs.MB := (.cells 38 [(.int .i64 (.ofNat 14)), (.int .i64 (.ofNat 0)), (.int .i64 (.ofNat 20)), (.str (Abs.sb [])), (.sl 196 0 2 2), (.int .i64 (.ofNat 3)), (.int .i64 (.ofNat 0)), (.int .i64 (.ofNat 27)), (.str (Abs.sb [89])), .nilsl] 0 false false)
noncomputable def cbA_b8 : Abs.MB := (.cells 38 [(.int .i64 (.ofNat 22)), (.int .i64 (.ofNat 0)), (.int .i64 (.ofNat 14)), (.str (Abs.sb [])), (.sl 142 0 1 1), (.int .i64 (.ofNat 23)), (.int .i64 (.ofNat 0)), (.int .i64 (.ofNat 0)), (.str (Abs.sb [])), .nilsl, (.int .i64 (.ofNat 20)), (.int .i64 (.ofNat 0)), (.int .i64 (.ofNat 20)), (.str (Abs.sb [])), (.osl 217 0 0 2 5)] 0 false false)
noncomputable def cbA_b9 : Abs.MB := (.cells 38 [(.int .i64 (.ofNat 21)), (.int .i64 (.ofNat 0)), (.int .i64 (.ofNat 12)), (.str (Abs.sb [])), (.sl 220 0 3 3)] 0 false false)
noncomputable def cbA_b10 : Abs.MB := (.cells 36 [(.str (Abs.sb [102])), (.int .i64 (.ofNat 1)), (.int .i64 (.ofNat 12)), (.int .i64 (.ofNat 0)), .nilsl, (.osl 223 0 0 1 5)] 0 false false)
noncomputable def cbA_m1 : Abs.Memo := ⟨[(.agg [(.str (Abs.sb [109])), (.osl 226 0 0 1 6)])], 232, [(1, cbA_b0), (142, cbA_b5), (196, cbA_b6), (217, cbA_b7), (220, cbA_b8), (223, cbA_b9), (226, cbA_b10)], (.tup [(.str (Abs.sb [45, 32, 109, 111, 100, 117, 108, 101, 32, 40, 32, 109, 32, 41, 32, 46, 32, 102, 32, 40, 32, 88, 32, 41, 32, 45, 62, 32, 89, 32, 61, 32, 88, 32, 44, 32, 89, 32, 46])), (.int .i64 (.ofNat 0))]), 581, [(142, cbA_b5), (196, cbA_b6), (217, cbA_b7), (220, cbA_b8), (223, cbA_b9), (226, cbA_b10)]⟩
noncomputable def cbA_r1_M : List (FuncId × Abs.Memo) := []
noncomputable def cbA_r1_C : Abs.Ctx := Abs.mkCtx Tryz.prog (fun _ => false) checkBuilt_absX0 cbA_r1_M
theorem cbA_r1_good : Abs.Good cbA_r1_C := Abs.good_ofM (Abs.memos_of (M := cbA_r1_M) trivial) checkBuilt_absValid checkBuilt_absNum (Abs.ext_of checkBuilt_absExt0)
theorem cbA_run1 : Abs.R.chk (Abs.memoHolds cbA_m1) (Abs.enterA cbA_r1_C (Abs.runF cbA_r1_C 1000000) 22 cbA_m1.args .normal none cbA_m1.S) = true := by kernel_rfl
theorem cbA_ok1 : Abs.MemoOk Tryz.prog 22 cbA_m1 := Abs.memo_of (C := cbA_r1_C) cbA_r1_good checkBuilt_absMixed 1000000 (by kernel_rfl) cbA_run1
noncomputable def cbA_b11 : Abs.MB := (.cells 67 [(.int .i64 (.ofNat 5)), (.int .i64 (.ofNat 0)), (.int .i64 (.ofNat 0)), (.str (Abs.sb [45])), (.int .i64 (.ofNat 2)), (.int .i64 (.ofNat 0)), (.int .i64 (.ofNat 1)), (.str (Abs.sb [109, 111, 100, 117, 108, 101])), (.int .i64 (.ofNat 5)), (.int .i64 (.ofNat 0)), (.int .i64 (.ofNat 7)), (.str (Abs.sb [40])), (.int .i64 (.ofNat 2)), (.int .i64 (.ofNat 0)), (.int .i64 (.ofNat 8)), (.str (Abs.sb [109])), (.int .i64 (.ofNat 5)), (.int .i64 (.ofNat 0)), (.int .i64 (.ofNat 9)), (.str (Abs.sb [41])), (.int .i64 (.ofNat 6)), (.int .i64 (.ofNat 0)), (.int .i64 (.ofNat 10)), (.str (Abs.sb [])), (.int .i64 (.ofNat 2)), (.int .i64 (.ofNat 0)), (.int .i64 (.ofNat 12)), (.str (Abs.sb [102])), (.int .i64 (.ofNat 5)), (.int .i64 (.ofNat 0)), (.int .i64 (.ofNat 13)), (.str (Abs.sb [40])), (.int .i64 (.ofNat 3)), (.int .i64 (.ofNat 0)), (.int .i64 (.ofNat 14)), (.str (Abs.sb [88])), (.int .i64 (.ofNat 5)), (.int .i64 (.ofNat 0)), (.int .i64 (.ofNat 15)), (.str (Abs.sb [41])), (.int .i64 (.ofNat 5)), (.int .i64 (.ofNat 0)), (.int .i64 (.ofNat 17)), (.str (Abs.sb [45, 62])), (.int .i64 (.ofNat 3)), (.int .i64 (.ofNat 0)), (.int .i64 (.ofNat 20)), (.str (Abs.sb [89])), (.int .i64 (.ofNat 5)), (.int .i64 (.ofNat 0)), (.int .i64 (.ofNat 22)), (.str (Abs.sb [61])), (.int .i64 (.ofNat 3)), (.int .i64 (.ofNat 0)), (.int .i64 (.ofNat 24)), (.str (Abs.sb [88])), (.int .i64 (.ofNat 5)), (.int .i64 (.ofNat 0)), (.int .i64 (.ofNat 25)), (.str (Abs.sb [44])), (.int .i64 (.ofNat 3)), (.int .i64 (.ofNat 0)), (.int .i64 (.ofNat 27)), (.str (Abs.sb [89])), (.int .i64 (.ofNat 6)), (.int .i64 (.ofNat 0)), (.int .i64 (.ofNat 28)), (.str (Abs.sb []))] 0 false false)
noncomputable def cbA_m2 : Abs.Memo := ⟨[(.str (Abs.sb [45, 109, 111, 100, 117, 108, 101, 40, 109, 41, 46, 32, 102, 40, 88, 41, 32, 45, 62, 32, 89, 32, 61, 32, 88, 44, 32, 89, 46]))], 11, [(1, cbA_b0)], (.tup [(.osl 107 0 0 17 4), (.agg [(.int .i64 (.ofNat 0)), (.int .i64 (.ofNat 0))])]), 108, [(107, cbA_b11)]⟩
noncomputable def cbA_r2_M : List (FuncId × Abs.Memo) := []
noncomputable def cbA_r2_C : Abs.Ctx := Abs.mkCtx Tryz.prog (fun _ => false) checkBuilt_absX0 cbA_r2_M
theorem cbA_r2_good : Abs.Good cbA_r2_C := Abs.good_ofM (Abs.memos_of (M := cbA_r2_M) trivial) checkBuilt_absValid checkBuilt_absNum (Abs.ext_of checkBuilt_absExt0)
theorem cbA_run2 : Abs.R.chk (Abs.memoHolds cbA_m2) (Abs.enterA cbA_r2_C (Abs.runF cbA_r2_C 1000000) 20 cbA_m2.args .normal none cbA_m2.S) = true := by kernel_rfl
theorem cbA_ok2 : Abs.MemoOk Tryz.prog 20 cbA_m2 := Abs.memo_of (C := cbA_r2_C) cbA_r2_good checkBuilt_absMixed 1000000 (by kernel_rfl) cbA_run2
noncomputable def cbA_M : List (FuncId × Abs.Memo) := [(20, cbA_m2), (22, cbA_m1), (17, cbA_m0)]
noncomputable def cbA_C : Abs.Ctx := Abs.mkCtx Tryz.prog (fun _ => false) checkBuilt_absX0 cbA_M
theorem cbA_good : Abs.Good cbA_C := Abs.good_ofM (Abs.memos_of (M := cbA_M) ⟨cbA_ok2, cbA_ok1, cbA_ok0, trivial⟩) checkBuilt_absValid checkBuilt_absNum (Abs.ext_of checkBuilt_absExt0)
theorem cbA_run : Abs.R.chk Abs.retTrue (Abs.enterA cbA_C (Abs.runF cbA_C 1000000) 7 [] .normal none (Abs.S1 cbA_C.nG 1 3)) = true := by kernel_rfl
theorem cbA_closed : Abs.ClosedOk Tryz.prog 7 1 3 :=
  Abs.closed_of (C := cbA_C) cbA_good checkBuilt_absMixed 1000000 (by kernel_rfl) (by kernel_rfl) (by kernel_rfl) cbA_run
noncomputable def checkBuilt_absX : List (FuncId × Abs.Ext) := (7, .closed 1 3) :: checkBuilt_absX0
theorem checkBuilt_absExt : Abs.ExtOk Tryz.prog checkBuilt_absX := ⟨cbA_closed, checkBuilt_absExt0⟩
end Go.Proofs.YtonikibacahebaaGreatDoor
