/- The contract of the loop of the statement 'BuiltCounts' of 'YteibjeicgeophaaGreatDoor': by induction over the numbers that are left, the step by a run of the abstract machine in the kernel. No condition. -/
import Derived.Test.YteibjeicgeophaaGreatDoorBuiltCountsBase
namespace Go.Proofs.YteibjeicgeophaaGreatDoor
def kCnt (M : Nat) : Abs.PD := fun l => ∃ n i s : Int, l = [.val (.int .i64 n), .val (.int .i64 i), .val (.int .i64 s)] ∧ 0 ≤ i ∧ i ≤ n ∧ n ≤ 40 ∧ n - i < M ∧ -(1 + i * 1073741824) ≤ s ∧ s ≤ 1 + i * 1073741824
/-- what is known behind a round: the length, the next index, the sum -/
def kNxt (γ : Abs.G) (M : Nat) (L I S : Abs.SE) : Prop := ∃ n i s a : Int, Abs.seG γ L = some (.val (.int .i64 n)) ∧ Abs.seG γ I = some (.val (.int .i64 (i + 1))) ∧ Abs.seG γ S = some (.val (.int .i64 (s + a))) ∧
  0 ≤ i ∧ i < n ∧ n ≤ 40 ∧ n - i < M + 1 ∧ -(1 + i * 1073741824) ≤ s ∧ s ≤ 1 + i * 1073741824 ∧ -1073741824 ≤ a ∧ a ≤ 1073741824
theorem cnt_cmp {γ : Abs.G} {e x : Abs.SE} {op : BinOp} {k : IntKind} {c : Int} {b : Bool} (h : Abs.cmpC e = some (op, x, k, c)) (hd : Abs.seG γ e = some (.val (.bool b))) : ∃ a, Abs.seG γ x = some (.val (.int k a)) ∧ Abs.cmpV op a c = b := by
  obtain ⟨a, h1, h2⟩ := Abs.cmpC_spec h hd
  injection h2 with h2; injection h2 with h2
  exact ⟨a, h1, h2.symm⟩
theorem cnt_dec {γ : Abs.G} {nm : String} {M : Nat} {L I S : Abs.SE} (h : (Abs.Fact.rel nm false (kCnt M) [L, I, S]).holds γ) : ∃ n i s : Int, Abs.seG γ L = some (.val (.int .i64 n)) ∧ Abs.seG γ I = some (.val (.int .i64 i)) ∧ Abs.seG γ S = some (.val (.int .i64 s)) ∧
    0 ≤ i ∧ i ≤ n ∧ n ≤ 40 ∧ n - i < M ∧ -(1 + i * 1073741824) ≤ s ∧ s ≤ 1 + i * 1073741824 := by
  obtain ⟨ds, h1, n, i, s, rfl, h2⟩ := h
  simp only [Abs.seL, Option.bind_eq_some_iff, Option.map_eq_some_iff, List.cons.injEq] at h1
  obtain ⟨d, hd, r, ⟨d2, hd2, r2, ⟨d3, hd3, r3, hr3, e3⟩, e2⟩, e1⟩ := h1
  obtain ⟨rfl, e1⟩ := e1
  rw [← e2] at e1
  injection e1 with e4 e1
  rw [← e3] at e1
  injection e1 with e5 e1
  subst e4; subst e5
  exact ⟨n, i, s, hd, hd2, hd3, h2⟩
theorem cnt_lt {γ : Abs.G} {I L : Abs.SE} {i n : Int} (h : (Abs.Fact.tr (.a2 (.bin .lss) I L)).holds γ) (hi : Abs.seG γ I = some (.val (.int .i64 i))) (hn : Abs.seG γ L = some (.val (.int .i64 n))) : i < n := by
  have h : Abs.seG γ (.a2 (.bin .lss) I L) = some (.val (.bool true)) := h
  simp only [Abs.seG, hi, hn, Option.bind_some, Abs.e2, Abs.binV, Abs.isShift, if_true, Abs.intOp, Abs.okV, Option.some.injEq, Abs.Dt.val.injEq, Value.bool.injEq] at h
  exact of_decide_eq_true h
theorem cnt_x {γ : Abs.G} {X : Abs.SE} (h1 : (Abs.Fact.fl (.a2 (.bin .gtr) X (.int .i64 (.ofNat 1073741824)))).holds γ) (h2 : (Abs.Fact.fl (.a2 (.bin .lss) X (.int .i64 (.negSucc 1073741823)))).holds γ) : ∃ a : Int, Abs.seG γ X = some (.val (.int .i64 a)) ∧ -1073741824 ≤ a ∧ a ≤ 1073741824 := by
  obtain ⟨a, g1, g2⟩ := cnt_cmp (op := .gtr) (x := X) (k := .i64) (c := 1073741824) rfl h1
  obtain ⟨b, g3, g4⟩ := cnt_cmp (op := .lss) (x := X) (k := .i64) (c := -1073741824) rfl h2
  rw [g1] at g3
  injection g3 with g3; injection g3 with g3; injection g3 with _ g3
  subst g3
  have g2 := of_decide_eq_false g2
  have g4 := of_decide_eq_false g4
  exact ⟨a, g1, by omega, by omega⟩
theorem cnt_add {γ : Abs.G} {x y : Abs.SE} {a b : Int} (hx : Abs.seG γ x = some (.val (.int .i64 a))) (hy : Abs.seG γ y = some (.val (.int .i64 b))) (h1 : -4611686018427387904 ≤ a + b) (h2 : a + b ≤ 4611686018427387904) : Abs.seG γ (.a2 (.bin .add) x y) = some (.val (.int .i64 (a + b))) := by
  have : IntKind.i64.wrap (a + b) = a + b := Abs.wrap64 (by omega) (by omega)
  simp only [Abs.seG, hx, hy, Option.bind_some, Abs.e2, Abs.binV, Abs.isShift, if_true, Abs.intOp, Abs.okV, this]
theorem cnt_nxt {γ : Abs.G} {nm : String} {M : Nat} {L I S X : Abs.SE} (h0 : (Abs.Fact.rel nm false (kCnt (M + 1)) [L, I, S]).holds γ) (h1 : (Abs.Fact.fl (.a2 (.bin .gtr) X (.int .i64 (.ofNat 1073741824)))).holds γ) (h2 : (Abs.Fact.fl (.a2 (.bin .lss) X (.int .i64 (.negSucc 1073741823)))).holds γ)
    (h3 : (Abs.Fact.tr (.a2 (.bin .lss) I L)).holds γ) : kNxt γ M L (.a2 (.bin .add) I (.int .i64 (.ofNat 1))) (.a2 (.bin .add) S X) := by
  obtain ⟨n, i, s, g1, g2, g3, g4, g5, g6, g7, g8, g9⟩ := cnt_dec h0
  obtain ⟨a, q1, q2, q3⟩ := cnt_x h1 h2
  have := cnt_lt h3 g2 g1
  exact ⟨n, i, s, a, g1, cnt_add g2 (show Abs.seG γ (.int .i64 (.ofNat 1)) = some (.val (.int .i64 1)) from rfl) (by omega) (by omega), cnt_add g3 q1 (by omega) (by omega), g4, by omega, g6, by omega, g8, g9, q2, q3⟩
theorem cnt_fst {γ : Abs.G} {L X : Abs.SE} (h1 : (Abs.Fact.fl (.a2 (.bin .gtr) X (.int .i64 (.ofNat 1073741824)))).holds γ) (h2 : (Abs.Fact.fl (.a2 (.bin .lss) X (.int .i64 (.negSucc 1073741823)))).holds γ)
    (h3 : (Abs.Fact.tr (.a2 (.bin .lss) (.int .i64 (.ofNat 0)) L)).holds γ) (h4 : (Abs.Fact.fl (.a2 (.bin .gtr) L (.int .i64 (.ofNat 40)))).holds γ) : kNxt γ 64 L (.int .i64 (.ofNat 1)) (.a2 (.bin .add) (.int .i64 (.ofNat 1)) X) := by
  obtain ⟨n, g1, g2⟩ := cnt_cmp (op := .gtr) (x := L) (k := .i64) (c := 40) rfl h4
  have g2 := of_decide_eq_false g2
  obtain ⟨a, q1, q2, q3⟩ := cnt_x h1 h2
  have := cnt_lt h3 (show Abs.seG γ (.int .i64 (.ofNat 0)) = some (.val (.int .i64 0)) from rfl) g1
  exact ⟨n, 0, 1, a, g1, rfl, cnt_add rfl q1 (by omega) (by omega), by omega, this, by omega, by omega, by omega, by omega, q2, q3⟩
theorem nxt_cnt {γ : Abs.G} {nm : String} {M : Nat} {L I S : Abs.SE} (h : kNxt γ M L I S) (hn : (Abs.Fact.rel nm true (kCnt M) [L, I, S]).holds γ) : False := by
  obtain ⟨n, i, s, a, g1, g2, g3, h1, h2, h3, h4, h5, h6, h7, h8⟩ := h
  exact hn ⟨_, Abs.seL3 g1 g2 g3, n, i + 1, s + a, rfl, by omega, by omega, h3, by omega, by omega, by omega⟩
theorem nxt_in {γ : Abs.G} {nm : String} {M : Nat} {L I S : Abs.SE} (h : kNxt γ M L I S) (hn : (Abs.Fact.rel nm true Abs.pIn [I, .int .i64 (.ofNat 41)]).holds γ) : False := by
  obtain ⟨n, i, s, a, g1, g2, g3, h1, h2, h3, h4, h5, h6, h7, h8⟩ := h
  exact hn ⟨_, Abs.seL2 g2 (show Abs.seG γ (.int .i64 (.ofNat 41)) = some (.val (.int .i64 41)) from rfl), .i64, i + 1, 41, rfl, by omega, by omega⟩
theorem nxt_le {γ : Abs.G} {nm : String} {M : Nat} {L I S : Abs.SE} (h : kNxt γ M L I S) (hn : (Abs.Fact.rel nm true Abs.pTr [.a2 (.bin .leq) S (.int .i64 (.ofNat 44023414784))]).holds γ) : False := by
  obtain ⟨n, i, s, a, g1, g2, g3, h1, h2, h3, h4, h5, h6, h7, h8⟩ := h
  refine hn ⟨[.val (.bool true)], ?_, rfl⟩
  have e : decide (s + a ≤ (44023414784 : Int)) = true := decide_eq_true (by omega)
  have : Abs.seG γ (.a2 (.bin .leq) S (.int .i64 (.ofNat 44023414784))) = some (.val (.bool (decide (s + a ≤ (44023414784 : Int))))) := by
    simp only [Abs.seG, g3, Option.bind_some, Abs.e2, Abs.binV, Abs.isShift, if_true, Abs.intOp, Abs.okV]; rfl
  rw [e] at this
  exact Abs.seL1 this
theorem nxt_ge {γ : Abs.G} {nm : String} {M : Nat} {L I S : Abs.SE} (h : kNxt γ M L I S) (hn : (Abs.Fact.rel nm true Abs.pTr [.a2 (.bin .geq) S (.int .i64 (.negSucc 44023414783))]).holds γ) : False := by
  obtain ⟨n, i, s, a, g1, g2, g3, h1, h2, h3, h4, h5, h6, h7, h8⟩ := h
  refine hn ⟨[.val (.bool true)], ?_, rfl⟩
  have e : decide ((-44023414784 : Int) ≤ s + a) = true := decide_eq_true (by omega)
  have : Abs.seG γ (.a2 (.bin .geq) S (.int .i64 (.negSucc 44023414783))) = some (.val (.bool (decide ((-44023414784 : Int) ≤ s + a)))) := by
    simp only [Abs.seG, g3, Option.bind_some, Abs.e2, Abs.binV, Abs.isShift, if_true, Abs.intOp, Abs.okV]; rfl
  rw [e] at this
  exact Abs.seL1 this
noncomputable def kCon (P : Program) (x : String) (pC : Abs.PD) : Abs.Con :=
  { fn := 3, nt := 72, round := none, t := [(0, (.opq (.sl 3) (.var 4))), (3, (.bool true)), (4, (.ptr 7 0)), (5, (.opq (.int .i64) (.var 6))), (6, (.opq (.int .i64) (.var 5)))], todo := Abs.loopTodo P 3 0, n := 39,
    pre := [(7, (.cells 48 [(.ptr 31 0), (.ptr 12 0), (.ptr 8 0)] 0 false false)),
      (8, (.cells 97 [(.ptr 9 0), .nilsl, (.int .i64 (.ofNat 0))] 0 false false)),
      (9, (.cells 129 [(.ptr 10 0), .nilsl, (.int .i64 (.ofNat 1))] 0 false false)),
      (10, (.cells 61 [(.int .i64 (.ofNat 1000)), (.int .i64 (.ofNat 0)), (.ptr 11 0)] 0 false false)),
      (11, (.cells 85 [.nilsl] 0 false false)),
      (12, (.cells 79 [(.ptr 14 0), (.mapv 13), (.int .i64 (.ofNat 0))] 0 false false)),
      (13, (.map [] 0)),
      (14, (.cells 126 [(.ptr 31 0), (.ptr 28 0), (.mapv 15), (.int .i64 (.ofNat 1))] 0 false false)),
      (15, (.map [⟨(.int .i64 (.ofNat 1)), (.ptr 16 0), 0⟩] 1)),
      (16, (.cells 109 [(.int .i64 (.ofNat 1)), (.int .i64 (.ofNat 1)), (.ptr 17 0), (.int .i64 (.ofNat 1)), (.int .i64 (.ofNat 1)), (.int .i64 (.ofNat 1)), (.bool true), (.str (Abs.sb [116])), (.int .i64 (.ofNat 0)), (.int .i64 (.ofNat 0)), (.int .i64 (.ofNat 0)), (.str (Abs.sb [])), .nilsl] 0 false false)),
      (17, (.cells 225 [(.ptr 31 0), (.ptr 28 0), (.int .i64 (.ofNat 1)), (.int .i64 (.ofNat 1)), (.int .i64 (.ofNat 1)), (.osl 27 0 0 1 1), (.ptr 23 0), .nilp, (.ptr 21 0), (.mapv 18), (.int .i64 (.ofNat 2)), (.int .i64 (.ofNat 2)), (.int .i64 (.ofNat 0))] 0 false false)),
      (18, (.map [⟨(.int .i64 (.ofNat 1)), (.ptr 20 0), 0⟩, ⟨(.int .i64 (.ofNat 2)), (.ptr 19 0), 1⟩] 2)),
      (19, (.cells 242 [(.int .i64 (.ofNat 2)), (.int .i64 (.ofNat 5)), (.int .i64 (.ofNat 6)), (.int .u32 (.ofNat 2250654544)), (.bool false)] 0 false false)),
      (20, (.cells 242 [(.int .i64 (.ofNat 1)), (.int .i64 (.ofNat 3)), (.int .i64 (.ofNat 4)), (.int .u32 (.ofNat 1696065889)), (.bool false)] 0 false false)),
      (21, (.cells 328 [(.mapv 22), (.int .i64 (.ofNat 0))] 0 false false)),
      (22, (.map [] 0)),
      (23, (.cells 376 [(.int .i64 (.ofNat 4)), (.int .i64 (.ofNat 2)), (.sl 24 0 4 4)] 0 false false)),
      (24, (.cells 293 [(.osl 26 0 0 1 2), (.osl 25 0 0 1 2), .nilsl, .nilsl] 0 false false)),
      (25, (.cells 297 [(.int .u32 (.ofNat 1696065889)), (.int .i64 (.ofNat 1))] 0 false false)),
      (26, (.cells 297 [(.int .u32 (.ofNat 2250654544)), (.int .i64 (.ofNat 2))] 0 false false)),
      (27, (.cells 3 [(.int .i64 (.ofNat 2))] 0 false false)),
      (28, (.cells 114 [(.mapv 30), (.osl 29 0 0 2 1), (.int .i64 (.ofNat 2))] 0 false false)),
      (29, (.cells 9 [(.str (Abs.sb [97])), (.str (Abs.sb [98]))] 0 false false)),
      (30, (.map [⟨(.str (Abs.sb [97])), (.int .i64 (.ofNat 0)), 0⟩, ⟨(.str (Abs.sb [98])), (.int .i64 (.ofNat 1)), 1⟩] 2)),
      (31, (.cells 90 [(.int .i64 (.ofNat 1000)), (.int .i64 (.ofNat 48)), (.int .i64 (.ofNat 6)), (.mapv 32)] 0 false false)),
      (32, (.map [⟨(.int .i64 (.ofNat 1)), (.osl 38 0 0 16 1), 0⟩, ⟨(.int .i64 (.ofNat 2)), (.osl 37 0 0 16 1), 1⟩, ⟨(.int .i64 (.ofNat 3)), (.osl 36 0 0 4 1), 2⟩, ⟨(.int .i64 (.ofNat 4)), (.osl 35 0 0 4 1), 3⟩, ⟨(.int .i64 (.ofNat 5)), (.osl 34 0 0 4 1), 4⟩, ⟨(.int .i64 (.ofNat 6)), (.osl 33 0 0 4 1), 5⟩] 6)),
      (33, (.cells 123 [(.int .u64 (.ofNat 0)), (.int .u64 (.ofNat 0)), (.int .u64 (.ofNat 0)), (.int .u64 (.ofNat 0))] 0 false false)),
      (34, (.cells 123 [(.int .u64 (.ofNat 23)), (.int .u64 (.ofNat 42)), (.int .u64 (.ofNat 18)), (.int .u64 (.ofNat 33))] 0 false false)),
      (35, (.cells 123 [(.int .u64 (.ofNat 0)), (.int .u64 (.ofNat 0)), (.int .u64 (.ofNat 0)), (.int .u64 (.ofNat 0))] 0 false false)),
      (36, (.cells 123 [(.int .u64 (.ofNat 23)), (.int .u64 (.ofNat 42)), (.int .u64 (.ofNat 2)), (.opq (.int .u64) (.a2 (.bin .or) (.a2 (.bin .shl) (.a1 (.conv .u64) (.var 6)) (.int .u64 (.ofNat 4))) (.int .u64 (.ofNat 1))))] 0 false false)),
      (37, (.cells 123 (Abs.rp (.int .u64 (.ofNat 0)) 16) 0 false false)),
      (38, (.cells 123 (Abs.rp (.int .u64 (.ofNat 0)) 16) 0 false false))],
    facts := [.rel x false pC [(.a1 .len (.var 4)), (.var 5), (.var 6)], .inr (.var 5) (.int .i64 (.ofNat 41)), .fl (.a2 (.bin .gtr) (.a1 .len (.var 4)) (.int .i64 (.ofNat 40))), .tr (.a2 (.bin .leq) (.var 6) (.int .i64 (.ofNat 44023414784))), .tr (.a2 (.bin .geq) (.var 6) (.int .i64 (.negSucc 44023414783)))],
    outs := [{ res := .bool true, post := [], facts := [], m := 0 }] }
noncomputable def kK : TypeId → List Abs.Kd := Abs.cellKds (Abs.mkCtx Tryz.prog (fun _ => false) [])
noncomputable def bc_kc (N : Nat) : Nat → Abs.Fact := fun i => ([
  .rel "cnt" true (kCnt N) [(.a1 .len (.var 4)), (.a2 (.bin .add) (.var 5) (.int .i64 (.ofNat 1))), (.a2 (.bin .add) (.var 6) (.a1 (.ld 0) (.a2 .el (.var 4) (.var 5))))],
  .fl (.a2 (.bin .gtr) (.a1 (.ld 0) (.a2 .el (.var 4) (.var 5))) (.int .i64 (.ofNat 1073741824))),
  .fl (.a2 (.bin .lss) (.a1 (.ld 0) (.a2 .el (.var 4) (.var 5))) (.int .i64 (.negSucc 1073741823))),
  .tr (.a2 (.bin .lss) (.var 5) (.a1 .len (.var 4))),
  .rel "cnt" false (kCnt (N + 1)) [(.a1 .len (.var 4)), (.var 5), (.var 6)],
  .inr (.var 5) (.int .i64 (.ofNat 41)),
  .fl (.a2 (.bin .gtr) (.a1 .len (.var 4)) (.int .i64 (.ofNat 40))),
  .tr (.a2 (.bin .leq) (.var 6) (.int .i64 (.ofNat 44023414784))),
  .tr (.a2 (.bin .geq) (.var 6) (.int .i64 (.negSucc 44023414783))),
  .rel "in" true Abs.pIn [(.a2 (.bin .add) (.var 5) (.int .i64 (.ofNat 1))), (.int .i64 (.ofNat 41))],
  .rel "tr" true Abs.pTr [(.a2 (.bin .leq) (.a2 (.bin .add) (.var 6) (.a1 (.ld 0) (.a2 .el (.var 4) (.var 5)))) (.int .i64 (.ofNat 44023414784)))],
  .rel "tr" true Abs.pTr [(.a2 (.bin .geq) (.a2 (.bin .add) (.var 6) (.a1 (.ld 0) (.a2 .el (.var 4) (.var 5)))) (.int .i64 (.negSucc 44023414783)))]] : List Abs.Fact).getD i (.tr (.bool true))
noncomputable def bc_kcR : List (List Nat) := [[0, 1, 2, 3, 4, 5, 6, 7, 8], [9, 1, 2, 3, 4, 5, 6, 7, 8], [10, 1, 2, 3, 4, 5, 6, 7, 8], [11, 1, 2, 3, 4, 5, 6, 7, 8]]
set_option maxRecDepth 100000 in
theorem bc_run (N : Nat) (tl : List Deferred) : Abs.R.res (fun _ => true) ((Abs.runF (Abs.mkCtx Tryz.prog (fun _ => false) builtCounts_absX [] [kCon Tryz.prog "cnt" (kCnt N)]) 1000000 ((kCon Tryz.prog "cnt" (kCnt (N + 1))).fi tl) (kCon Tryz.prog "cnt" (kCnt (N + 1))).tr (kCon Tryz.prog "cnt" (kCnt (N + 1))).todo [] .run none (kCon Tryz.prog "cnt" (kCnt (N + 1))).S).bind (Abs.conLook (Abs.mkCtx Tryz.prog (fun _ => false) builtCounts_absX [] [kCon Tryz.prog "cnt" (kCnt N)]) (kCon Tryz.prog "cnt" (kCnt (N + 1))))) = some (bc_kcR.map fun r => r.map (bc_kc N)) := by kernel_rfl
theorem bc_step (N : Nat) (hc : Abs.ConOk Tryz.prog (kCon Tryz.prog "cnt" (kCnt N))) : Abs.ConOk Tryz.prog (kCon Tryz.prog "cnt" (kCnt (N + 1))) := Abs.con_of (Abs.good_ofK (fun c h => by cases h with | head => exact hc | tail _ h => cases h) (fun _ h => by cases h) bc_absValid bc_absNum (Abs.ext_of builtCounts_absExt)) bc_absMixed _ 1000000 (bc_run N)
  (Abs.unsats_of (F := bc_kc N) (pats := [[0, 4, 1, 2, 3], [9, 4, 1, 2, 3], [10, 4, 1, 2, 3], [11, 4, 1, 2, 3]]) (fun p hp γ h => by
    simp only [List.mem_cons, List.not_mem_nil, or_false] at hp
    rcases hp with rfl | rfl | rfl | rfl
    · exact nxt_cnt (cnt_nxt (h 4 (by simp)) (h 1 (by simp)) (h 2 (by simp)) (h 3 (by simp))) (h 0 (by simp))
    · exact nxt_in (cnt_nxt (h 4 (by simp)) (h 1 (by simp)) (h 2 (by simp)) (h 3 (by simp))) (h 9 (by simp))
    · exact nxt_le (cnt_nxt (h 4 (by simp)) (h 1 (by simp)) (h 2 (by simp)) (h 3 (by simp))) (h 10 (by simp))
    · exact nxt_ge (cnt_nxt (h 4 (by simp)) (h 1 (by simp)) (h 2 (by simp)) (h 3 (by simp))) (h 11 (by simp))) (by kernel_rfl))
theorem bc_con : ∀ N, Abs.ConOk Tryz.prog (kCon Tryz.prog "cnt" (kCnt N))
  | 0 => Abs.conOk_vac fun γ hf => by
    obtain ⟨n, i, s, -, -, -, h1, h2, -, h3, -⟩ := cnt_dec (hf _ List.mem_cons_self)
    omega
  | N + 1 => bc_step N (bc_con N)
end Go.Proofs.YteibjeicgeophaaGreatDoor
