/- Single calls that the statement 'WalkKnown' of 'YtojdnhchddidcaaGreatDoor' makes: what each reads and what it leaves, by runs of the abstract machine in the kernel. No condition. -/
import Derived.Test.YtojdnhchddidcaaGreatDoorWalkKnownBase
namespace Go.Proofs.YtojdnhchddidcaaGreatDoor
set_option maxRecDepth 100000
noncomputable def walkKnown_b0 : Abs.MB := (.cells 3 [(.opq true 0)] 0 true false)
noncomputable def walkKnown_b1 : Abs.MB := (.map [] 0)
noncomputable def walkKnown_b2 : Abs.MB := (.cells 174 [(.mapv 2977), .nilsl, (.int .i64 (.ofNat 0))] 0 false false)
noncomputable def walkKnown_b3 : Abs.MB := (.map [⟨(.int .i64 (.ofNat 1)), (.osl 2998 0 0 16 1), 0⟩, ⟨(.int .i64 (.ofNat 2)), (.osl 3003 0 0 16 1), 1⟩] 2)
noncomputable def walkKnown_b4 : Abs.MB := (.cells 107 [(.int .i64 (.ofNat 100000)), (.int .i64 (.ofNat 32)), (.int .i64 (.ofNat 2)), (.mapv 2980)] 0 false false)
noncomputable def walkKnown_b5 : Abs.MB := (.cells 134 [(.mapv 2992), (.int .i64 (.ofNat 0))] 0 false false)
noncomputable def walkKnown_b6 : Abs.MB := (.cells 34 [(.ptr 2981 0), (.ptr 2978 0), (.int .i64 (.ofNat 1)), (.int .i64 (.ofNat 1)), (.int .i64 (.ofNat 1)), (.osl 3005 0 0 1 1), (.ptr 3000 0), .nilp, (.ptr 2993 0), (.mapv 2994), (.int .i64 (.ofNat 0)), (.int .i64 (.ofNat 0)), (.int .i64 (.ofNat 0))] 0 false false)
noncomputable def walkKnown_b7 : Abs.MB := (.cells 177 (Abs.rp (.int .u64 (.ofNat 0)) 16) 0 false false)
noncomputable def walkKnown_b8 : Abs.MB := (.cells 139 [.nilsl, .nilsl, .nilsl, .nilsl] 0 false false)
noncomputable def walkKnown_b9 : Abs.MB := (.cells 184 [(.int .i64 (.ofNat 4)), (.int .i64 (.ofNat 0)), (.sl 2999 0 4 4)] 0 false false)
noncomputable def walkKnown_b10 : Abs.MB := (.cells 3 [(.int .i64 (.ofNat 2))] 0 false false)
noncomputable def walkKnown_b11 : Abs.MB := (.cells 24 [(.int .i64 (.ofNat 1)), (.int .i64 (.ofNat 1)), (.str (Abs.sb [])), .nilsl, (.int .i64 (.ofNat 2)), (.int .i64 (.ofNat 0)), (.str (Abs.sb [120])), .nilsl] 0 false false)
noncomputable def walkKnown_b12 : Abs.MB := (.cells 24 [(.int .i64 (.ofNat 1)), (.int .i64 (.ofNat 2)), (.str (Abs.sb [])), .nilsl, (.int .i64 (.ofNat 2)), (.int .i64 (.ofNat 0)), (.str (Abs.sb [120])), .nilsl] 0 false false)
noncomputable def walkKnown_b13 : Abs.MB := (.cells 24 [(.int .i64 (.ofNat 1)), (.int .i64 (.ofNat 3)), (.str (Abs.sb [])), .nilsl, (.int .i64 (.ofNat 2)), (.int .i64 (.ofNat 0)), (.str (Abs.sb [120])), .nilsl] 0 false false)
noncomputable def walkKnown_b14 : Abs.MB := (.cells 24 [(.int .i64 (.ofNat 7)), (.int .i64 (.ofNat 0)), (.str (Abs.sb [])), (.sl 3014 0 2 2), (.int .i64 (.ofNat 7)), (.int .i64 (.ofNat 0)), (.str (Abs.sb [])), (.sl 3020 0 2 2), (.int .i64 (.ofNat 7)), (.int .i64 (.ofNat 0)), (.str (Abs.sb [])), (.sl 3026 0 2 2)] 0 false false)
noncomputable def walkKnown_b15 : Abs.MB := (.map [⟨(.str (Abs.sb [120])), (.int .i64 (.ofNat 0)), 0⟩] 1)
noncomputable def walkKnown_b16 : Abs.MB := (.cells 174 [(.mapv 2977), (.osl 3201 0 0 1 1), (.int .i64 (.ofNat 1))] 0 false false)
noncomputable def walkKnown_b17 : Abs.MB := (.map [⟨(.int .i64 (.ofNat 1)), (.osl 2998 0 0 16 1), 0⟩, ⟨(.int .i64 (.ofNat 2)), (.osl 3003 0 0 16 1), 1⟩, ⟨(.int .i64 (.ofNat 3)), (.osl 3920 0 0 4 1), 2⟩, ⟨(.int .i64 (.ofNat 4)), (.osl 3924 0 0 4 1), 3⟩, ⟨(.int .i64 (.ofNat 5)), (.osl 3955 0 0 4 1), 4⟩, ⟨(.int .i64 (.ofNat 6)), (.osl 3959 0 0 4 1), 5⟩, ⟨(.int .i64 (.ofNat 7)), (.osl 3991 0 0 4 1), 6⟩, ⟨(.int .i64 (.ofNat 8)), (.osl 3995 0 0 4 1), 7⟩] 8)
noncomputable def walkKnown_b18 : Abs.MB := (.cells 107 [(.int .i64 (.ofNat 100000)), (.int .i64 (.ofNat 56)), (.int .i64 (.ofNat 8)), (.mapv 2980)] 0 false false)
noncomputable def walkKnown_b19 : Abs.MB := (.map [⟨(.int .i64 (.ofNat 1)), (.ptr 3925 0), 0⟩, ⟨(.int .i64 (.ofNat 2)), (.ptr 3960 0), 1⟩, ⟨(.int .i64 (.ofNat 3)), (.ptr 3996 0), 2⟩] 3)
noncomputable def walkKnown_b20 : Abs.MB := (.cells 34 [(.ptr 2981 0), (.ptr 2978 0), (.int .i64 (.ofNat 1)), (.int .i64 (.ofNat 1)), (.int .i64 (.ofNat 1)), (.osl 3005 0 0 1 1), (.ptr 3000 0), .nilp, (.ptr 2993 0), (.mapv 2994), (.int .i64 (.ofNat 3)), (.int .i64 (.ofNat 3)), (.int .i64 (.ofNat 0))] 0 false false)
noncomputable def walkKnown_b21 : Abs.MB := (.cells 139 [.nilsl, (.osl 4007 0 0 2 2), (.osl 3971 0 0 1 2), .nilsl] 0 false false)
noncomputable def walkKnown_b22 : Abs.MB := (.cells 184 [(.int .i64 (.ofNat 4)), (.int .i64 (.ofNat 3)), (.sl 2999 0 4 4)] 0 false false)
noncomputable def walkKnown_b23 : Abs.MB := (.cells 9 [(.str (Abs.sb [120]))] 0 false false)
noncomputable def walkKnown_b24 : Abs.MB := (.cells 177 [(.int .u64 (.ofNat 23)), (.int .u64 (.ofNat 42)), (.int .u64 (.ofNat 17)), (.int .u64 (.ofNat 2))] 0 false false)
noncomputable def walkKnown_b25 : Abs.MB := (.cells 177 [(.int .u64 (.ofNat 0)), (.int .u64 (.ofNat 0)), (.int .u64 (.ofNat 0)), (.int .u64 (.ofNat 0))] 0 false false)
noncomputable def walkKnown_b26 : Abs.MB := (.cells 137 [(.int .i64 (.ofNat 1)), (.int .i64 (.ofNat 3)), (.int .i64 (.ofNat 4)), (.int .u32 (.ofNat 4177320429)), (.bool false)] 0 false false)
noncomputable def walkKnown_b27 : Abs.MB := (.cells 177 [(.int .u64 (.ofNat 23)), (.int .u64 (.ofNat 42)), (.int .u64 (.ofNat 33)), (.int .u64 (.ofNat 2))] 0 false false)
noncomputable def walkKnown_b28 : Abs.MB := (.cells 137 [(.int .i64 (.ofNat 2)), (.int .i64 (.ofNat 5)), (.int .i64 (.ofNat 6)), (.int .u32 (.ofNat 425169490)), (.bool false)] 0 false false)
noncomputable def walkKnown_b29 : Abs.MB := (.cells 143 [(.int .u32 (.ofNat 425169490)), (.int .i64 (.ofNat 2))] 0 false false)
noncomputable def walkKnown_b30 : Abs.MB := (.cells 177 [(.int .u64 (.ofNat 23)), (.int .u64 (.ofNat 42)), (.int .u64 (.ofNat 49)), (.int .u64 (.ofNat 2))] 0 false false)
noncomputable def walkKnown_b31 : Abs.MB := (.cells 137 [(.int .i64 (.ofNat 3)), (.int .i64 (.ofNat 7)), (.int .i64 (.ofNat 8)), (.int .u32 (.ofNat 95382941)), (.bool false)] 0 false false)
noncomputable def walkKnown_b32 : Abs.MB := (.cells 143 [(.int .u32 (.ofNat 4177320429)), (.int .i64 (.ofNat 1)), (.int .u32 (.ofNat 95382941)), (.int .i64 (.ofNat 3))] 0 false false)
noncomputable def walkKnown_m0 : Abs.Memo := ⟨[(.ptr 2995 0), (.osl 3029 0 0 3 4)], 3030, [(0, walkKnown_b0), (2977, walkKnown_b1), (2978, walkKnown_b2), (2980, walkKnown_b3), (2981, walkKnown_b4), (2992, walkKnown_b1), (2993, walkKnown_b5), (2994, walkKnown_b1), (2995, walkKnown_b6), (2998, walkKnown_b7), (2999, walkKnown_b8), (3000, walkKnown_b9), (3003, walkKnown_b7), (3005, walkKnown_b10), (3014, walkKnown_b11), (3020, walkKnown_b12), (3026, walkKnown_b13), (3029, walkKnown_b14)], (.int .i64 (.ofNat 0)), 4008, [(2977, walkKnown_b15), (2978, walkKnown_b16), (2980, walkKnown_b17), (2981, walkKnown_b18), (2992, walkKnown_b1), (2993, walkKnown_b5), (2994, walkKnown_b19), (2995, walkKnown_b20), (2998, walkKnown_b7), (2999, walkKnown_b21), (3000, walkKnown_b22), (3003, walkKnown_b7), (3005, walkKnown_b10), (3014, walkKnown_b11), (3020, walkKnown_b12), (3026, walkKnown_b13), (3029, walkKnown_b14), (3201, walkKnown_b23), (3920, walkKnown_b24), (3924, walkKnown_b25), (3925, walkKnown_b26), (3955, walkKnown_b27), (3959, walkKnown_b25), (3960, walkKnown_b28), (3971, walkKnown_b29), (3991, walkKnown_b30), (3995, walkKnown_b25), (3996, walkKnown_b31), (4007, walkKnown_b32)]⟩
noncomputable def walkKnown_M0 : List (FuncId × Abs.Memo) := []
noncomputable def walkKnown_C0 : Abs.Ctx := Abs.mkCtx Tryz.prog (fun _ => false) walkKnown_absX walkKnown_M0
theorem walkKnown_good0 : Abs.Good walkKnown_C0 := Abs.good_ofM (Abs.memos_of (M := walkKnown_M0) trivial) walkKnown_absValid walkKnown_absNum (Abs.ext_of walkKnown_absExt)
theorem walkKnown_run0 : Abs.R.chk (Abs.memoHolds walkKnown_m0) (Abs.enterA walkKnown_C0 (Abs.runF walkKnown_C0 1000000) 12 walkKnown_m0.args .normal none walkKnown_m0.S) = true := by kernel_rfl
theorem walkKnown_ok0 : Abs.MemoOk Tryz.prog 12 walkKnown_m0 := Abs.memo_of (C := walkKnown_C0) walkKnown_good0 walkKnown_absMixed 1000000 (by kernel_rfl) walkKnown_run0
noncomputable def walkKnown_m1 : Abs.Memo := ⟨[], 2977, [(0, walkKnown_b0)], (.bool true), 4701, []⟩
noncomputable def walkKnown_M1 : List (FuncId × Abs.Memo) := [(12, walkKnown_m0)]
noncomputable def walkKnown_C1 : Abs.Ctx := Abs.mkCtx Tryz.prog (fun _ => false) walkKnown_absX walkKnown_M1
theorem walkKnown_good1 : Abs.Good walkKnown_C1 := Abs.good_ofM (Abs.memos_of (M := walkKnown_M1) ⟨walkKnown_ok0, trivial⟩) walkKnown_absValid walkKnown_absNum (Abs.ext_of walkKnown_absExt)
theorem walkKnown_run1 : Abs.R.chk (Abs.memoHolds walkKnown_m1) (Abs.enterA walkKnown_C1 (Abs.runF walkKnown_C1 1000000) 10 walkKnown_m1.args .normal none walkKnown_m1.S) = true := by kernel_rfl
theorem walkKnown_ok1 : Abs.MemoOk Tryz.prog 10 walkKnown_m1 := Abs.memo_of (C := walkKnown_C1) walkKnown_good1 walkKnown_absMixed 1000000 (by kernel_rfl) walkKnown_run1
noncomputable def walkKnown_b33 : Abs.MB := (.cells 174 [(.mapv 4), .nilsl, (.int .i64 (.ofNat 0))] 0 false false)
noncomputable def walkKnown_b34 : Abs.MB := (.map [⟨(.int .i64 (.ofNat 1)), (.osl 25 0 0 16 1), 0⟩, ⟨(.int .i64 (.ofNat 2)), (.osl 30 0 0 16 1), 1⟩] 2)
noncomputable def walkKnown_b35 : Abs.MB := (.cells 107 [(.int .i64 (.ofNat 100000)), (.int .i64 (.ofNat 32)), (.int .i64 (.ofNat 2)), (.mapv 7)] 0 false false)
noncomputable def walkKnown_b36 : Abs.MB := (.cells 134 [(.mapv 19), (.int .i64 (.ofNat 0))] 0 false false)
noncomputable def walkKnown_b37 : Abs.MB := (.cells 34 [(.ptr 8 0), (.ptr 5 0), (.int .i64 (.ofNat 1)), (.int .i64 (.ofNat 1)), (.int .i64 (.ofNat 1)), (.osl 32 0 0 1 1), (.ptr 27 0), .nilp, (.ptr 20 0), (.mapv 21), (.int .i64 (.ofNat 0)), (.int .i64 (.ofNat 0)), (.int .i64 (.ofNat 0))] 0 false false)
noncomputable def walkKnown_b38 : Abs.MB := (.cells 184 [(.int .i64 (.ofNat 4)), (.int .i64 (.ofNat 0)), (.sl 26 0 4 4)] 0 false false)
noncomputable def walkKnown_b39 : Abs.MB := (.cells 24 [(.int .i64 (.ofNat 7)), (.int .i64 (.ofNat 0)), (.str (Abs.sb [])), (.sl 69 0 2 2), (.int .i64 (.ofNat 7)), (.int .i64 (.ofNat 0)), (.str (Abs.sb [])), (.sl 75 0 2 2), (.int .i64 (.ofNat 7)), (.int .i64 (.ofNat 0)), (.str (Abs.sb [])), (.sl 81 0 2 2)] 0 false false)
noncomputable def walkKnown_b40 : Abs.MB := (.cells 174 [(.mapv 4), (.osl 256 0 0 1 1), (.int .i64 (.ofNat 1))] 0 false false)
noncomputable def walkKnown_b41 : Abs.MB := (.map [⟨(.int .i64 (.ofNat 1)), (.osl 25 0 0 16 1), 0⟩, ⟨(.int .i64 (.ofNat 2)), (.osl 30 0 0 16 1), 1⟩, ⟨(.int .i64 (.ofNat 3)), (.osl 975 0 0 4 1), 2⟩, ⟨(.int .i64 (.ofNat 4)), (.osl 979 0 0 4 1), 3⟩, ⟨(.int .i64 (.ofNat 5)), (.osl 1010 0 0 4 1), 4⟩, ⟨(.int .i64 (.ofNat 6)), (.osl 1014 0 0 4 1), 5⟩, ⟨(.int .i64 (.ofNat 7)), (.osl 1046 0 0 4 1), 6⟩, ⟨(.int .i64 (.ofNat 8)), (.osl 1050 0 0 4 1), 7⟩] 8)
noncomputable def walkKnown_b42 : Abs.MB := (.cells 107 [(.int .i64 (.ofNat 100000)), (.int .i64 (.ofNat 56)), (.int .i64 (.ofNat 8)), (.mapv 7)] 0 false false)
noncomputable def walkKnown_b43 : Abs.MB := (.map [⟨(.int .i64 (.ofNat 1)), (.ptr 980 0), 0⟩, ⟨(.int .i64 (.ofNat 2)), (.ptr 1015 0), 1⟩, ⟨(.int .i64 (.ofNat 3)), (.ptr 1051 0), 2⟩] 3)
noncomputable def walkKnown_b44 : Abs.MB := (.cells 34 [(.ptr 8 0), (.ptr 5 0), (.int .i64 (.ofNat 1)), (.int .i64 (.ofNat 1)), (.int .i64 (.ofNat 1)), (.osl 32 0 0 1 1), (.ptr 27 0), .nilp, (.ptr 20 0), (.mapv 21), (.int .i64 (.ofNat 3)), (.int .i64 (.ofNat 3)), (.int .i64 (.ofNat 0))] 0 false false)
noncomputable def walkKnown_b45 : Abs.MB := (.cells 139 [.nilsl, (.osl 1062 0 0 2 2), (.osl 1026 0 0 1 2), .nilsl] 0 false false)
noncomputable def walkKnown_b46 : Abs.MB := (.cells 184 [(.int .i64 (.ofNat 4)), (.int .i64 (.ofNat 3)), (.sl 26 0 4 4)] 0 false false)
noncomputable def walkKnown_m2 : Abs.Memo := ⟨[(.ptr 22 0), (.osl 84 0 0 3 4)], 85, [(0, walkKnown_b0), (4, walkKnown_b1), (5, walkKnown_b33), (7, walkKnown_b34), (8, walkKnown_b35), (19, walkKnown_b1), (20, walkKnown_b36), (21, walkKnown_b1), (22, walkKnown_b37), (25, walkKnown_b7), (26, walkKnown_b8), (27, walkKnown_b38), (30, walkKnown_b7), (32, walkKnown_b10), (69, walkKnown_b11), (75, walkKnown_b12), (81, walkKnown_b13), (84, walkKnown_b39)], (.int .i64 (.ofNat 0)), 1063, [(4, walkKnown_b15), (5, walkKnown_b40), (7, walkKnown_b41), (8, walkKnown_b42), (19, walkKnown_b1), (20, walkKnown_b36), (21, walkKnown_b43), (22, walkKnown_b44), (25, walkKnown_b7), (26, walkKnown_b45), (27, walkKnown_b46), (30, walkKnown_b7), (32, walkKnown_b10), (69, walkKnown_b11), (75, walkKnown_b12), (81, walkKnown_b13), (84, walkKnown_b39), (256, walkKnown_b23), (975, walkKnown_b24), (979, walkKnown_b25), (980, walkKnown_b26), (1010, walkKnown_b27), (1014, walkKnown_b25), (1015, walkKnown_b28), (1026, walkKnown_b29), (1046, walkKnown_b30), (1050, walkKnown_b25), (1051, walkKnown_b31), (1062, walkKnown_b32)]⟩
noncomputable def walkKnown_M2 : List (FuncId × Abs.Memo) := []
noncomputable def walkKnown_C2 : Abs.Ctx := Abs.mkCtx Tryz.prog (fun _ => false) walkKnown_absX walkKnown_M2
theorem walkKnown_good2 : Abs.Good walkKnown_C2 := Abs.good_ofM (Abs.memos_of (M := walkKnown_M2) trivial) walkKnown_absValid walkKnown_absNum (Abs.ext_of walkKnown_absExt)
theorem walkKnown_run2 : Abs.R.chk (Abs.memoHolds walkKnown_m2) (Abs.enterA walkKnown_C2 (Abs.runF walkKnown_C2 1000000) 12 walkKnown_m2.args .normal none walkKnown_m2.S) = true := by kernel_rfl
theorem walkKnown_ok2 : Abs.MemoOk Tryz.prog 12 walkKnown_m2 := Abs.memo_of (C := walkKnown_C2) walkKnown_good2 walkKnown_absMixed 1000000 (by kernel_rfl) walkKnown_run2
end Go.Proofs.YtojdnhchddidcaaGreatDoor
