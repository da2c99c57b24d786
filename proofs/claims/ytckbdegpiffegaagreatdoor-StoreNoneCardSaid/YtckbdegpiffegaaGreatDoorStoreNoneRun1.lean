/- Single calls that the statement 'StoreNone' of 'YtckbdegpiffegaaGreatDoor' makes: what each reads and what it leaves, by runs of the abstract machine in the kernel. No condition. -/
import Derived.Test.YtckbdegpiffegaaGreatDoorStoreNoneBase
namespace Go.Proofs.YtckbdegpiffegaaGreatDoor
set_option maxRecDepth 100000
noncomputable def storeNone_b0 : Abs.MB := (.cells 3 [(.opq true 0)] 0 true false)
noncomputable def storeNone_b1 : Abs.MB := (.map [⟨(.int .i64 (.ofNat 1)), (.osl 86 0 0 16 1), 0⟩, ⟨(.int .i64 (.ofNat 2)), (.osl 91 0 0 16 1), 1⟩, ⟨(.int .i64 (.ofNat 3)), (.osl 712 0 0 4 1), 2⟩, ⟨(.int .i64 (.ofNat 4)), (.osl 716 0 0 4 1), 3⟩, ⟨(.int .i64 (.ofNat 5)), (.osl 749 0 0 4 1), 4⟩, ⟨(.int .i64 (.ofNat 6)), (.osl 753 0 0 4 1), 5⟩] 6)
noncomputable def storeNone_b2 : Abs.MB := (.cells 127 [(.int .i64 (.ofNat 200)), (.int .i64 (.ofNat 48)), (.int .i64 (.ofNat 6)), (.mapv 65)] 0 false false)
noncomputable def storeNone_b3 : Abs.MB := (.map [⟨(.str (Abs.sb [97])), (.int .i64 (.ofNat 0)), 0⟩, ⟨(.str (Abs.sb [98])), (.int .i64 (.ofNat 1)), 1⟩] 2)
noncomputable def storeNone_b4 : Abs.MB := (.cells 195 [(.mapv 67), (.osl 303 0 0 2 1), (.int .i64 (.ofNat 2))] 0 false false)
noncomputable def storeNone_b5 : Abs.MB := (.map [] 0)
noncomputable def storeNone_b6 : Abs.MB := (.cells 161 [(.mapv 80), (.int .i64 (.ofNat 0))] 0 false false)
noncomputable def storeNone_b7 : Abs.MB := (.map [⟨(.int .i64 (.ofNat 1)), (.ptr 717 0), 0⟩, ⟨(.int .i64 (.ofNat 2)), (.ptr 754 0), 1⟩] 2)
noncomputable def storeNone_b8 : Abs.MB := (.cells 56 [(.ptr 66 0), (.ptr 68 0), (.int .i64 (.ofNat 1)), (.int .i64 (.ofNat 1)), (.int .i64 (.ofNat 1)), (.osl 93 0 0 1 1), (.ptr 88 0), .nilp, (.ptr 81 0), (.mapv 82), (.int .i64 (.ofNat 2)), (.int .i64 (.ofNat 2)), (.int .i64 (.ofNat 0))] 0 false false)
noncomputable def storeNone_b9 : Abs.MB := (.cells 153 (Abs.rp (.int .u64 (.ofNat 0)) 16) 0 false false)
noncomputable def storeNone_b10 : Abs.MB := (.cells 111 [(.osl 766 0 0 1 2), (.osl 729 0 0 1 2), .nilsl, .nilsl] 0 false false)
noncomputable def storeNone_b11 : Abs.MB := (.cells 180 [(.int .i64 (.ofNat 4)), (.int .i64 (.ofNat 2)), (.sl 87 0 4 4)] 0 false false)
noncomputable def storeNone_b12 : Abs.MB := (.cells 3 [(.int .i64 (.ofNat 2))] 0 false false)
noncomputable def storeNone_b13 : Abs.MB := (.cells 9 [(.str (Abs.sb [97])), (.str (Abs.sb [98]))] 0 false false)
noncomputable def storeNone_b14 : Abs.MB := (.cells 153 [(.int .u64 (.ofNat 23)), (.int .u64 (.ofNat 42)), (.int .u64 (.ofNat 2)), (.int .u64 (.ofNat 17))] 0 false false)
noncomputable def storeNone_b15 : Abs.MB := (.cells 153 [(.int .u64 (.ofNat 0)), (.int .u64 (.ofNat 0)), (.int .u64 (.ofNat 0)), (.int .u64 (.ofNat 0))] 0 false false)
noncomputable def storeNone_b16 : Abs.MB := (.cells 100 [(.int .i64 (.ofNat 1)), (.int .i64 (.ofNat 3)), (.int .i64 (.ofNat 4)), (.int .u32 (.ofNat 1696065889)), (.bool false)] 0 false false)
noncomputable def storeNone_b17 : Abs.MB := (.cells 115 [(.int .u32 (.ofNat 1696065889)), (.int .i64 (.ofNat 1))] 0 false false)
noncomputable def storeNone_b18 : Abs.MB := (.cells 153 [(.int .u64 (.ofNat 23)), (.int .u64 (.ofNat 42)), (.int .u64 (.ofNat 18)), (.int .u64 (.ofNat 33))] 0 false false)
noncomputable def storeNone_b19 : Abs.MB := (.cells 100 [(.int .i64 (.ofNat 2)), (.int .i64 (.ofNat 5)), (.int .i64 (.ofNat 6)), (.int .u32 (.ofNat 2250654544)), (.bool false)] 0 false false)
noncomputable def storeNone_b20 : Abs.MB := (.cells 115 [(.int .u32 (.ofNat 2250654544)), (.int .i64 (.ofNat 2))] 0 false false)
noncomputable def storeNone_m0 : Abs.Memo := ⟨[(.ptr 83 0)], 872, [(0, storeNone_b0), (65, storeNone_b1), (66, storeNone_b2), (67, storeNone_b3), (68, storeNone_b4), (80, storeNone_b5), (81, storeNone_b6), (82, storeNone_b7), (83, storeNone_b8), (86, storeNone_b9), (87, storeNone_b10), (88, storeNone_b11), (91, storeNone_b9), (93, storeNone_b12), (303, storeNone_b13), (712, storeNone_b14), (716, storeNone_b15), (717, storeNone_b16), (729, storeNone_b17), (749, storeNone_b18), (753, storeNone_b15), (754, storeNone_b19), (766, storeNone_b20)], (.int .i64 (.ofNat 48)), 879, [(65, storeNone_b1), (66, storeNone_b2), (67, storeNone_b3), (68, storeNone_b4), (80, storeNone_b5), (81, storeNone_b6), (82, storeNone_b7), (83, storeNone_b8), (86, storeNone_b9), (87, storeNone_b10), (88, storeNone_b11), (91, storeNone_b9), (93, storeNone_b12), (303, storeNone_b13), (712, storeNone_b14), (716, storeNone_b15), (717, storeNone_b16), (729, storeNone_b17), (749, storeNone_b18), (753, storeNone_b15), (754, storeNone_b19), (766, storeNone_b20)]⟩
noncomputable def storeNone_M0 : List (FuncId × Abs.Memo) := []
noncomputable def storeNone_C0 : Abs.Ctx := Abs.mkCtx Tryz.prog (fun _ => false) storeNone_absX storeNone_M0
theorem storeNone_good0 : Abs.Good storeNone_C0 := Abs.good_ofM (Abs.memos_of (M := storeNone_M0) trivial) storeNone_absValid storeNone_absNum (Abs.ext_of storeNone_absExt)
theorem storeNone_run0 : Abs.R.chk (Abs.memoHolds storeNone_m0) (Abs.enterA storeNone_C0 (Abs.runF storeNone_C0 1000000) 11 storeNone_m0.args .normal none storeNone_m0.S) = true := by kernel_rfl
theorem storeNone_ok0 : Abs.MemoOk Tryz.prog 11 storeNone_m0 := Abs.memo_of (C := storeNone_C0) storeNone_good0 storeNone_absMixed 1000000 (by kernel_rfl) storeNone_run0
noncomputable def storeNone_b21 : Abs.MB := (.map [⟨(.int .i64 (.ofNat 1)), (.osl 86 0 0 16 1), 0⟩, ⟨(.int .i64 (.ofNat 2)), (.osl 91 0 0 16 1), 1⟩] 2)
noncomputable def storeNone_b22 : Abs.MB := (.cells 127 [(.int .i64 (.ofNat 200)), (.int .i64 (.ofNat 32)), (.int .i64 (.ofNat 2)), (.mapv 65)] 0 false false)
noncomputable def storeNone_b23 : Abs.MB := (.cells 195 [(.mapv 67), .nilsl, (.int .i64 (.ofNat 0))] 0 false false)
noncomputable def storeNone_b24 : Abs.MB := (.cells 56 [(.ptr 66 0), (.ptr 68 0), (.int .i64 (.ofNat 1)), (.int .i64 (.ofNat 1)), (.int .i64 (.ofNat 1)), (.osl 93 0 0 1 1), (.ptr 88 0), .nilp, (.ptr 81 0), (.mapv 82), (.int .i64 (.ofNat 0)), (.int .i64 (.ofNat 0)), (.int .i64 (.ofNat 0))] 0 false false)
noncomputable def storeNone_b25 : Abs.MB := (.cells 111 [.nilsl, .nilsl, .nilsl, .nilsl] 0 false false)
noncomputable def storeNone_b26 : Abs.MB := (.cells 180 [(.int .i64 (.ofNat 4)), (.int .i64 (.ofNat 0)), (.sl 87 0 4 4)] 0 false false)
noncomputable def storeNone_b27 : Abs.MB := (.cells 26 [(.int .i64 (.ofNat 2)), (.int .i64 (.ofNat 0)), (.str (Abs.sb [97])), .nilsl, (.int .i64 (.ofNat 1)), (.int .i64 (.ofNat 1)), (.str (Abs.sb [])), .nilsl] 0 false false)
noncomputable def storeNone_b28 : Abs.MB := (.cells 26 [(.int .i64 (.ofNat 2)), (.int .i64 (.ofNat 0)), (.str (Abs.sb [98])), .nilsl, (.int .i64 (.ofNat 1)), (.int .i64 (.ofNat 2)), (.str (Abs.sb [])), .nilsl] 0 false false)
noncomputable def storeNone_b29 : Abs.MB := (.cells 26 [(.int .i64 (.ofNat 7)), (.int .i64 (.ofNat 0)), (.str (Abs.sb [])), (.sl 97 0 2 2), (.int .i64 (.ofNat 7)), (.int .i64 (.ofNat 0)), (.str (Abs.sb [])), (.sl 101 0 2 2)] 0 false false)
noncomputable def storeNone_m1 : Abs.Memo := ⟨[(.ptr 83 0), (.sl 103 0 2 2)], 104, [(0, storeNone_b0), (65, storeNone_b21), (66, storeNone_b22), (67, storeNone_b5), (68, storeNone_b23), (80, storeNone_b5), (81, storeNone_b6), (82, storeNone_b5), (83, storeNone_b24), (86, storeNone_b9), (87, storeNone_b25), (88, storeNone_b26), (91, storeNone_b9), (93, storeNone_b12), (97, storeNone_b27), (101, storeNone_b28), (103, storeNone_b29)], (.int .i64 (.ofNat 0)), 767, [(65, storeNone_b1), (66, storeNone_b2), (67, storeNone_b3), (68, storeNone_b4), (80, storeNone_b5), (81, storeNone_b6), (82, storeNone_b7), (83, storeNone_b8), (86, storeNone_b9), (87, storeNone_b10), (88, storeNone_b11), (91, storeNone_b9), (93, storeNone_b12), (97, storeNone_b27), (101, storeNone_b28), (103, storeNone_b29), (303, storeNone_b13), (712, storeNone_b14), (716, storeNone_b15), (717, storeNone_b16), (729, storeNone_b17), (749, storeNone_b18), (753, storeNone_b15), (754, storeNone_b19), (766, storeNone_b20)]⟩
noncomputable def storeNone_M1 : List (FuncId × Abs.Memo) := []
noncomputable def storeNone_C1 : Abs.Ctx := Abs.mkCtx Tryz.prog (fun _ => false) storeNone_absX storeNone_M1
theorem storeNone_good1 : Abs.Good storeNone_C1 := Abs.good_ofM (Abs.memos_of (M := storeNone_M1) trivial) storeNone_absValid storeNone_absNum (Abs.ext_of storeNone_absExt)
theorem storeNone_run1 : Abs.R.chk (Abs.memoHolds storeNone_m1) (Abs.enterA storeNone_C1 (Abs.runF storeNone_C1 1000000) 7 storeNone_m1.args .normal none storeNone_m1.S) = true := by kernel_rfl
theorem storeNone_ok1 : Abs.MemoOk Tryz.prog 7 storeNone_m1 := Abs.memo_of (C := storeNone_C1) storeNone_good1 storeNone_absMixed 1000000 (by kernel_rfl) storeNone_run1
end Go.Proofs.YtckbdegpiffegaaGreatDoor
