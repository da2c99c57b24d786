/- Single calls that the statement 'BuiltNone' of 'YtbjfdogcacpfiaaGreatDoor' makes: what each reads and what it leaves, by runs of the abstract machine in the kernel. No condition. -/
import Derived.Test.YtbjfdogcacpfiaaGreatDoorBuiltNoneBase
namespace Go.Proofs.YtbjfdogcacpfiaaGreatDoor
set_option maxRecDepth 100000
noncomputable def builtNone_b0 : Abs.MB := (.cells 3 [(.opq Abs.kInt 0)] 0 true false)
noncomputable def builtNone_b1 : Abs.MB := (.map [] 0)
noncomputable def builtNone_b2 : Abs.MB := (.cells 126 [(.mapv 36), .nilsl, (.int .i64 (.ofNat 0))] 0 false false)
noncomputable def builtNone_b3 : Abs.MB := (.map [⟨(.int .i64 (.ofNat 1)), (.osl 213 0 0 16 1), 0⟩, ⟨(.int .i64 (.ofNat 2)), (.osl 218 0 0 16 1), 1⟩] 2)
noncomputable def builtNone_b4 : Abs.MB := (.cells 93 [(.int .i64 (.ofNat 1000)), (.int .i64 (.ofNat 32)), (.int .i64 (.ofNat 2)), (.mapv 39)] 0 false false)
noncomputable def builtNone_b5 : Abs.MB := (.cells 297 [(.mapv 207), (.int .i64 (.ofNat 0))] 0 false false)
noncomputable def builtNone_b6 : Abs.MB := (.cells 221 [(.ptr 40 0), (.ptr 37 0), (.int .i64 (.ofNat 1)), (.int .i64 (.ofNat 1)), (.int .i64 (.ofNat 1)), (.osl 220 0 0 1 1), (.ptr 215 0), .nilp, (.ptr 208 0), (.mapv 209), (.int .i64 (.ofNat 0)), (.int .i64 (.ofNat 0)), (.int .i64 (.ofNat 0))] 0 false false)
noncomputable def builtNone_b7 : Abs.MB := (.cells 134 (Abs.rp (.int .u64 (.ofNat 0)) 16) 0 false false)
noncomputable def builtNone_b8 : Abs.MB := (.cells 312 [.nilsl, .nilsl, .nilsl, .nilsl] 0 false false)
noncomputable def builtNone_b9 : Abs.MB := (.cells 390 [(.int .i64 (.ofNat 4)), (.int .i64 (.ofNat 0)), (.sl 214 0 4 4)] 0 false false)
noncomputable def builtNone_b10 : Abs.MB := (.cells 3 [(.int .i64 (.ofNat 2))] 0 false false)
noncomputable def builtNone_b11 : Abs.MB := (.cells 26 [(.int .i64 (.ofNat 2)), (.int .i64 (.ofNat 0)), (.str (Abs.sb [97])), .nilsl, (.int .i64 (.ofNat 1)), (.int .i64 (.ofNat 1)), (.str (Abs.sb [])), .nilsl] 0 false false)
noncomputable def builtNone_b12 : Abs.MB := (.cells 26 [(.int .i64 (.ofNat 2)), (.int .i64 (.ofNat 0)), (.str (Abs.sb [98])), .nilsl, (.int .i64 (.ofNat 1)), (.int .i64 (.ofNat 2)), (.str (Abs.sb [])), .nilsl] 0 false false)
noncomputable def builtNone_b13 : Abs.MB := (.cells 26 [(.int .i64 (.ofNat 7)), (.int .i64 (.ofNat 0)), (.str (Abs.sb [])), (.sl 259 0 2 2), (.int .i64 (.ofNat 7)), (.int .i64 (.ofNat 0)), (.str (Abs.sb [])), (.sl 265 0 2 2)] 0 false false)
noncomputable def builtNone_b14 : Abs.MB := (.map [⟨(.str (Abs.sb [97])), (.int .i64 (.ofNat 0)), 0⟩, ⟨(.str (Abs.sb [98])), (.int .i64 (.ofNat 1)), 1⟩] 2)
noncomputable def builtNone_b15 : Abs.MB := (.cells 126 [(.mapv 36), (.osl 650 0 0 2 1), (.int .i64 (.ofNat 2))] 0 false false)
noncomputable def builtNone_b16 : Abs.MB := (.map [⟨(.int .i64 (.ofNat 1)), (.osl 213 0 0 16 1), 0⟩, ⟨(.int .i64 (.ofNat 2)), (.osl 218 0 0 16 1), 1⟩, ⟨(.int .i64 (.ofNat 3)), (.osl 1059 0 0 4 1), 2⟩, ⟨(.int .i64 (.ofNat 4)), (.osl 1063 0 0 4 1), 3⟩, ⟨(.int .i64 (.ofNat 5)), (.osl 1096 0 0 4 1), 4⟩, ⟨(.int .i64 (.ofNat 6)), (.osl 1100 0 0 4 1), 5⟩] 6)
noncomputable def builtNone_b17 : Abs.MB := (.cells 93 [(.int .i64 (.ofNat 1000)), (.int .i64 (.ofNat 48)), (.int .i64 (.ofNat 6)), (.mapv 39)] 0 false false)
noncomputable def builtNone_b18 : Abs.MB := (.map [⟨(.int .i64 (.ofNat 1)), (.ptr 1064 0), 0⟩, ⟨(.int .i64 (.ofNat 2)), (.ptr 1101 0), 1⟩] 2)
noncomputable def builtNone_b19 : Abs.MB := (.cells 221 [(.ptr 40 0), (.ptr 37 0), (.int .i64 (.ofNat 1)), (.int .i64 (.ofNat 1)), (.int .i64 (.ofNat 1)), (.osl 220 0 0 1 1), (.ptr 215 0), .nilp, (.ptr 208 0), (.mapv 209), (.int .i64 (.ofNat 2)), (.int .i64 (.ofNat 2)), (.int .i64 (.ofNat 0))] 0 false false)
noncomputable def builtNone_b20 : Abs.MB := (.cells 312 [(.osl 1113 0 0 1 2), (.osl 1076 0 0 1 2), .nilsl, .nilsl] 0 false false)
noncomputable def builtNone_b21 : Abs.MB := (.cells 390 [(.int .i64 (.ofNat 4)), (.int .i64 (.ofNat 2)), (.sl 214 0 4 4)] 0 false false)
noncomputable def builtNone_b22 : Abs.MB := (.cells 9 [(.str (Abs.sb [97])), (.str (Abs.sb [98]))] 0 false false)
noncomputable def builtNone_b23 : Abs.MB := (.cells 134 [(.int .u64 (.ofNat 23)), (.int .u64 (.ofNat 42)), (.int .u64 (.ofNat 2)), (.int .u64 (.ofNat 17))] 0 false false)
noncomputable def builtNone_b24 : Abs.MB := (.cells 134 [(.int .u64 (.ofNat 0)), (.int .u64 (.ofNat 0)), (.int .u64 (.ofNat 0)), (.int .u64 (.ofNat 0))] 0 false false)
noncomputable def builtNone_b25 : Abs.MB := (.cells 260 [(.int .i64 (.ofNat 1)), (.int .i64 (.ofNat 3)), (.int .i64 (.ofNat 4)), (.int .u32 (.ofNat 1696065889)), (.bool false)] 0 false false)
noncomputable def builtNone_b26 : Abs.MB := (.cells 316 [(.int .u32 (.ofNat 1696065889)), (.int .i64 (.ofNat 1))] 0 false false)
noncomputable def builtNone_b27 : Abs.MB := (.cells 134 [(.int .u64 (.ofNat 23)), (.int .u64 (.ofNat 42)), (.int .u64 (.ofNat 18)), (.int .u64 (.ofNat 33))] 0 false false)
noncomputable def builtNone_b28 : Abs.MB := (.cells 260 [(.int .i64 (.ofNat 2)), (.int .i64 (.ofNat 5)), (.int .i64 (.ofNat 6)), (.int .u32 (.ofNat 2250654544)), (.bool false)] 0 false false)
noncomputable def builtNone_b29 : Abs.MB := (.cells 316 [(.int .u32 (.ofNat 2250654544)), (.int .i64 (.ofNat 2))] 0 false false)
noncomputable def builtNone_m0 : Abs.Memo := ⟨[(.ptr 210 0), (.osl 447 0 0 2 4)], 451, [(0, builtNone_b0), (36, builtNone_b1), (37, builtNone_b2), (39, builtNone_b3), (40, builtNone_b4), (207, builtNone_b1), (208, builtNone_b5), (209, builtNone_b1), (210, builtNone_b6), (213, builtNone_b7), (214, builtNone_b8), (215, builtNone_b9), (218, builtNone_b7), (220, builtNone_b10), (259, builtNone_b11), (265, builtNone_b12), (447, builtNone_b13)], (.int .i64 (.ofNat 0)), 1114, [(36, builtNone_b14), (37, builtNone_b15), (39, builtNone_b16), (40, builtNone_b17), (207, builtNone_b1), (208, builtNone_b5), (209, builtNone_b18), (210, builtNone_b19), (213, builtNone_b7), (214, builtNone_b20), (215, builtNone_b21), (218, builtNone_b7), (220, builtNone_b10), (259, builtNone_b11), (265, builtNone_b12), (447, builtNone_b13), (650, builtNone_b22), (1059, builtNone_b23), (1063, builtNone_b24), (1064, builtNone_b25), (1076, builtNone_b26), (1096, builtNone_b27), (1100, builtNone_b24), (1101, builtNone_b28), (1113, builtNone_b29)]⟩
noncomputable def builtNone_M0 : List (FuncId × Abs.Memo) := []
noncomputable def builtNone_C0 : Abs.Ctx := Abs.mkCtx Tryz.prog (fun _ => false) builtNone_absX builtNone_M0
theorem builtNone_good0 : Abs.Good builtNone_C0 := Abs.good_ofM (Abs.memos_of (M := builtNone_M0) trivial) builtNone_absValid builtNone_absNum (Abs.ext_of builtNone_absExt)
theorem builtNone_run0 : Abs.R.chk (Abs.memoHolds builtNone_m0) (Abs.enterA builtNone_C0 (Abs.runF builtNone_C0 1000000) 100 builtNone_m0.args .normal none builtNone_m0.S) = true := by kernel_rfl
theorem builtNone_ok0 : Abs.MemoOk Tryz.prog 100 builtNone_m0 := Abs.memo_of (C := builtNone_C0) builtNone_good0 builtNone_absMixed 1000000 (by kernel_rfl) builtNone_run0
noncomputable def builtNone_m1 : Abs.Memo := ⟨[], 36, [(0, builtNone_b0)], (.bool true), 1544, []⟩
noncomputable def builtNone_M1 : List (FuncId × Abs.Memo) := [(100, builtNone_m0)]
noncomputable def builtNone_C1 : Abs.Ctx := Abs.mkCtx Tryz.prog (fun _ => false) builtNone_absX builtNone_M1
theorem builtNone_good1 : Abs.Good builtNone_C1 := Abs.good_ofM (Abs.memos_of (M := builtNone_M1) ⟨builtNone_ok0, trivial⟩) builtNone_absValid builtNone_absNum (Abs.ext_of builtNone_absExt)
theorem builtNone_run1 : Abs.R.chk (Abs.memoHolds builtNone_m1) (Abs.enterA builtNone_C1 (Abs.runF builtNone_C1 1000000) 13 builtNone_m1.args .normal none builtNone_m1.S) = true := by kernel_rfl
theorem builtNone_ok1 : Abs.MemoOk Tryz.prog 13 builtNone_m1 := Abs.memo_of (C := builtNone_C1) builtNone_good1 builtNone_absMixed 1000000 (by kernel_rfl) builtNone_run1
end Go.Proofs.YtbjfdogcacpfiaaGreatDoor
