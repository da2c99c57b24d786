/- Single calls that the statement 'WalkNone' of 'YtojdnhchddidcaaGreatDoor' makes: what each reads and what it leaves, by runs of the abstract machine in the kernel. No condition. -/
import Derived.Test.YtojdnhchddidcaaGreatDoorWalkNoneBase
namespace Go.Proofs.YtojdnhchddidcaaGreatDoor
set_option maxRecDepth 100000
noncomputable def walkNone_b0 : Abs.MB := (.cells 3 [(.opq true 0)] 0 true false)
noncomputable def walkNone_b1 : Abs.MB := (.map [⟨(.str (Abs.sb [120])), (.int .i64 (.ofNat 0)), 0⟩] 1)
noncomputable def walkNone_b2 : Abs.MB := (.cells 174 [(.mapv 33), (.osl 257 0 0 1 1), (.int .i64 (.ofNat 1))] 0 false false)
noncomputable def walkNone_b3 : Abs.MB := (.map [⟨(.int .i64 (.ofNat 1)), (.osl 54 0 0 16 1), 0⟩, ⟨(.int .i64 (.ofNat 2)), (.osl 59 0 0 16 1), 1⟩] 2)
noncomputable def walkNone_b4 : Abs.MB := (.cells 107 [(.int .i64 (.ofNat 100000)), (.int .i64 (.ofNat 32)), (.int .i64 (.ofNat 2)), (.mapv 36)] 0 false false)
noncomputable def walkNone_b5 : Abs.MB := (.map [] 0)
noncomputable def walkNone_b6 : Abs.MB := (.cells 134 [(.mapv 48), (.int .i64 (.ofNat 0))] 0 false false)
noncomputable def walkNone_b7 : Abs.MB := (.cells 34 [(.ptr 37 0), (.ptr 34 0), (.int .i64 (.ofNat 1)), (.int .i64 (.ofNat 1)), (.int .i64 (.ofNat 1)), (.osl 61 0 0 1 1), (.ptr 56 0), .nilp, (.ptr 49 0), (.mapv 50), (.int .i64 (.ofNat 0)), (.int .i64 (.ofNat 0)), (.int .i64 (.ofNat 0))] 0 false false)
noncomputable def walkNone_b8 : Abs.MB := (.cells 177 (Abs.rp (.int .u64 (.ofNat 0)) 16) 0 false false)
noncomputable def walkNone_b9 : Abs.MB := (.cells 139 [.nilsl, .nilsl, .nilsl, .nilsl] 0 false false)
noncomputable def walkNone_b10 : Abs.MB := (.cells 184 [(.int .i64 (.ofNat 4)), (.int .i64 (.ofNat 0)), (.sl 55 0 4 4)] 0 false false)
noncomputable def walkNone_b11 : Abs.MB := (.cells 3 [(.int .i64 (.ofNat 2))] 0 false false)
noncomputable def walkNone_b12 : Abs.MB := (.cells 24 [(.int .i64 (.ofNat 1)), (.int .i64 (.ofNat 1)), (.str (Abs.sb [])), .nilsl, (.int .i64 (.ofNat 2)), (.int .i64 (.ofNat 0)), (.str (Abs.sb [120])), .nilsl] 0 false false)
noncomputable def walkNone_b13 : Abs.MB := (.cells 24 [(.int .i64 (.ofNat 1)), (.int .i64 (.ofNat 2)), (.str (Abs.sb [])), .nilsl, (.int .i64 (.ofNat 2)), (.int .i64 (.ofNat 0)), (.str (Abs.sb [120])), .nilsl] 0 false false)
noncomputable def walkNone_b14 : Abs.MB := (.cells 24 [(.int .i64 (.ofNat 1)), (.int .i64 (.ofNat 3)), (.str (Abs.sb [])), .nilsl, (.int .i64 (.ofNat 2)), (.int .i64 (.ofNat 0)), (.str (Abs.sb [120])), .nilsl] 0 false false)
noncomputable def walkNone_b15 : Abs.MB := (.cells 24 [(.int .i64 (.ofNat 7)), (.int .i64 (.ofNat 0)), (.str (Abs.sb [])), (.sl 70 0 2 2), (.int .i64 (.ofNat 7)), (.int .i64 (.ofNat 0)), (.str (Abs.sb [])), (.sl 76 0 2 2), (.int .i64 (.ofNat 7)), (.int .i64 (.ofNat 0)), (.str (Abs.sb [])), (.sl 82 0 2 2)] 0 false false)
noncomputable def walkNone_b16 : Abs.MB := (.cells 9 [(.str (Abs.sb [120]))] 0 false false)
noncomputable def walkNone_m0 : Abs.Memo := ⟨[(.ptr 51 0), (.osl 85 0 0 3 4)], 394, [(0, walkNone_b0), (33, walkNone_b1), (34, walkNone_b2), (36, walkNone_b3), (37, walkNone_b4), (48, walkNone_b5), (49, walkNone_b6), (50, walkNone_b5), (51, walkNone_b7), (54, walkNone_b8), (55, walkNone_b9), (56, walkNone_b10), (59, walkNone_b8), (61, walkNone_b11), (70, walkNone_b12), (76, walkNone_b13), (82, walkNone_b14), (85, walkNone_b15), (257, walkNone_b16)], (.int .i64 (.ofNat 24)), 958, [(33, walkNone_b1), (34, walkNone_b2), (36, walkNone_b3), (37, walkNone_b4), (48, walkNone_b5), (49, walkNone_b6), (50, walkNone_b5), (51, walkNone_b7), (54, walkNone_b8), (55, walkNone_b9), (56, walkNone_b10), (59, walkNone_b8), (61, walkNone_b11), (70, walkNone_b12), (76, walkNone_b13), (82, walkNone_b14), (85, walkNone_b15), (257, walkNone_b16)]⟩
noncomputable def walkNone_M0 : List (FuncId × Abs.Memo) := []
noncomputable def walkNone_C0 : Abs.Ctx := Abs.mkCtx Tryz.prog (fun _ => false) walkNone_absX walkNone_M0
theorem walkNone_good0 : Abs.Good walkNone_C0 := Abs.good_ofM (Abs.memos_of (M := walkNone_M0) trivial) walkNone_absValid walkNone_absNum (Abs.ext_of walkNone_absExt)
theorem walkNone_run0 : Abs.R.chk (Abs.memoHolds walkNone_m0) (Abs.enterA walkNone_C0 (Abs.runF walkNone_C0 1000000) 81 walkNone_m0.args .normal none walkNone_m0.S) = true := by kernel_rfl
theorem walkNone_ok0 : Abs.MemoOk Tryz.prog 81 walkNone_m0 := Abs.memo_of (C := walkNone_C0) walkNone_good0 walkNone_absMixed 1000000 (by kernel_rfl) walkNone_run0
noncomputable def walkNone_b17 : Abs.MB := (.cells 174 [(.mapv 33), .nilsl, (.int .i64 (.ofNat 0))] 0 false false)
noncomputable def walkNone_b18 : Abs.MB := (.map [⟨(.int .i64 (.ofNat 1)), (.osl 54 0 0 16 1), 0⟩, ⟨(.int .i64 (.ofNat 2)), (.osl 59 0 0 16 1), 1⟩, ⟨(.int .i64 (.ofNat 3)), (.osl 976 0 0 4 1), 2⟩, ⟨(.int .i64 (.ofNat 4)), (.osl 980 0 0 4 1), 3⟩, ⟨(.int .i64 (.ofNat 5)), (.osl 1011 0 0 4 1), 4⟩, ⟨(.int .i64 (.ofNat 6)), (.osl 1015 0 0 4 1), 5⟩, ⟨(.int .i64 (.ofNat 7)), (.osl 1047 0 0 4 1), 6⟩, ⟨(.int .i64 (.ofNat 8)), (.osl 1051 0 0 4 1), 7⟩] 8)
noncomputable def walkNone_b19 : Abs.MB := (.cells 107 [(.int .i64 (.ofNat 100000)), (.int .i64 (.ofNat 56)), (.int .i64 (.ofNat 8)), (.mapv 36)] 0 false false)
noncomputable def walkNone_b20 : Abs.MB := (.map [⟨(.int .i64 (.ofNat 1)), (.ptr 981 0), 0⟩, ⟨(.int .i64 (.ofNat 2)), (.ptr 1016 0), 1⟩, ⟨(.int .i64 (.ofNat 3)), (.ptr 1052 0), 2⟩] 3)
noncomputable def walkNone_b21 : Abs.MB := (.cells 34 [(.ptr 37 0), (.ptr 34 0), (.int .i64 (.ofNat 1)), (.int .i64 (.ofNat 1)), (.int .i64 (.ofNat 1)), (.osl 61 0 0 1 1), (.ptr 56 0), .nilp, (.ptr 49 0), (.mapv 50), (.int .i64 (.ofNat 3)), (.int .i64 (.ofNat 3)), (.int .i64 (.ofNat 0))] 0 false false)
noncomputable def walkNone_b22 : Abs.MB := (.cells 139 [.nilsl, (.osl 1063 0 0 2 2), (.osl 1027 0 0 1 2), .nilsl] 0 false false)
noncomputable def walkNone_b23 : Abs.MB := (.cells 184 [(.int .i64 (.ofNat 4)), (.int .i64 (.ofNat 3)), (.sl 55 0 4 4)] 0 false false)
noncomputable def walkNone_b24 : Abs.MB := (.cells 177 [(.int .u64 (.ofNat 23)), (.int .u64 (.ofNat 42)), (.int .u64 (.ofNat 17)), (.int .u64 (.ofNat 2))] 0 false false)
noncomputable def walkNone_b25 : Abs.MB := (.cells 177 [(.int .u64 (.ofNat 0)), (.int .u64 (.ofNat 0)), (.int .u64 (.ofNat 0)), (.int .u64 (.ofNat 0))] 0 false false)
noncomputable def walkNone_b26 : Abs.MB := (.cells 137 [(.int .i64 (.ofNat 1)), (.int .i64 (.ofNat 3)), (.int .i64 (.ofNat 4)), (.int .u32 (.ofNat 4177320429)), (.bool false)] 0 false false)
noncomputable def walkNone_b27 : Abs.MB := (.cells 177 [(.int .u64 (.ofNat 23)), (.int .u64 (.ofNat 42)), (.int .u64 (.ofNat 33)), (.int .u64 (.ofNat 2))] 0 false false)
noncomputable def walkNone_b28 : Abs.MB := (.cells 137 [(.int .i64 (.ofNat 2)), (.int .i64 (.ofNat 5)), (.int .i64 (.ofNat 6)), (.int .u32 (.ofNat 425169490)), (.bool false)] 0 false false)
noncomputable def walkNone_b29 : Abs.MB := (.cells 143 [(.int .u32 (.ofNat 425169490)), (.int .i64 (.ofNat 2))] 0 false false)
noncomputable def walkNone_b30 : Abs.MB := (.cells 177 [(.int .u64 (.ofNat 23)), (.int .u64 (.ofNat 42)), (.int .u64 (.ofNat 49)), (.int .u64 (.ofNat 2))] 0 false false)
noncomputable def walkNone_b31 : Abs.MB := (.cells 137 [(.int .i64 (.ofNat 3)), (.int .i64 (.ofNat 7)), (.int .i64 (.ofNat 8)), (.int .u32 (.ofNat 95382941)), (.bool false)] 0 false false)
noncomputable def walkNone_b32 : Abs.MB := (.cells 143 [(.int .u32 (.ofNat 4177320429)), (.int .i64 (.ofNat 1)), (.int .u32 (.ofNat 95382941)), (.int .i64 (.ofNat 3))] 0 false false)
noncomputable def walkNone_m1 : Abs.Memo := ⟨[(.ptr 51 0), (.osl 85 0 0 3 4)], 86, [(0, walkNone_b0), (33, walkNone_b5), (34, walkNone_b17), (36, walkNone_b3), (37, walkNone_b4), (48, walkNone_b5), (49, walkNone_b6), (50, walkNone_b5), (51, walkNone_b7), (54, walkNone_b8), (55, walkNone_b9), (56, walkNone_b10), (59, walkNone_b8), (61, walkNone_b11), (70, walkNone_b12), (76, walkNone_b13), (82, walkNone_b14), (85, walkNone_b15)], (.int .i64 (.ofNat 0)), 1064, [(33, walkNone_b1), (34, walkNone_b2), (36, walkNone_b18), (37, walkNone_b19), (48, walkNone_b5), (49, walkNone_b6), (50, walkNone_b20), (51, walkNone_b21), (54, walkNone_b8), (55, walkNone_b22), (56, walkNone_b23), (59, walkNone_b8), (61, walkNone_b11), (70, walkNone_b12), (76, walkNone_b13), (82, walkNone_b14), (85, walkNone_b15), (257, walkNone_b16), (976, walkNone_b24), (980, walkNone_b25), (981, walkNone_b26), (1011, walkNone_b27), (1015, walkNone_b25), (1016, walkNone_b28), (1027, walkNone_b29), (1047, walkNone_b30), (1051, walkNone_b25), (1052, walkNone_b31), (1063, walkNone_b32)]⟩
noncomputable def walkNone_M1 : List (FuncId × Abs.Memo) := [(81, walkNone_m0)]
noncomputable def walkNone_C1 : Abs.Ctx := Abs.mkCtx Tryz.prog (fun _ => false) walkNone_absX walkNone_M1
theorem walkNone_good1 : Abs.Good walkNone_C1 := Abs.good_ofM (Abs.memos_of (M := walkNone_M1) ⟨walkNone_ok0, trivial⟩) walkNone_absValid walkNone_absNum (Abs.ext_of walkNone_absExt)
theorem walkNone_run1 : Abs.R.chk (Abs.memoHolds walkNone_m1) (Abs.enterA walkNone_C1 (Abs.runF walkNone_C1 1000000) 12 walkNone_m1.args .normal none walkNone_m1.S) = true := by kernel_rfl
theorem walkNone_ok1 : Abs.MemoOk Tryz.prog 12 walkNone_m1 := Abs.memo_of (C := walkNone_C1) walkNone_good1 walkNone_absMixed 1000000 (by kernel_rfl) walkNone_run1
noncomputable def walkNone_m2 : Abs.Memo := ⟨[], 33, [(0, walkNone_b0)], (.bool true), 1757, []⟩
noncomputable def walkNone_M2 : List (FuncId × Abs.Memo) := [(12, walkNone_m1)]
noncomputable def walkNone_C2 : Abs.Ctx := Abs.mkCtx Tryz.prog (fun _ => false) walkNone_absX walkNone_M2
theorem walkNone_good2 : Abs.Good walkNone_C2 := Abs.good_ofM (Abs.memos_of (M := walkNone_M2) ⟨walkNone_ok1, trivial⟩) walkNone_absValid walkNone_absNum (Abs.ext_of walkNone_absExt)
theorem walkNone_run2 : Abs.R.chk (Abs.memoHolds walkNone_m2) (Abs.enterA walkNone_C2 (Abs.runF walkNone_C2 1000000) 10 walkNone_m2.args .normal none walkNone_m2.S) = true := by kernel_rfl
theorem walkNone_ok2 : Abs.MemoOk Tryz.prog 10 walkNone_m2 := Abs.memo_of (C := walkNone_C2) walkNone_good2 walkNone_absMixed 1000000 (by kernel_rfl) walkNone_run2
end Go.Proofs.YtojdnhchddidcaaGreatDoor
