/- The statement 'CheckBuilt' of 'YtonikibacahebaaGreatDoor', case by case: a run of the abstract machine in the kernel for each name and number. No condition. -/
import Derived.Test.YtonikibacahebaaGreatDoorCheckBuiltCalls
namespace Go.Proofs.YtonikibacahebaaGreatDoor
set_option maxRecDepth 100000
noncomputable def cb_five : List Int := [.ofNat 0, .ofNat 1, .ofNat 2, .ofNat 3]
noncomputable def cb_ar (m n : List UInt8) : List (List Abs.Sh) := [
  [.con (.str m), .con (.str n), .con (.int .i64 (.ofNat 0))], [.con (.str m), .con (.str n), .con (.int .i64 (.ofNat 1))],
  [.con (.str m), .con (.str n), .con (.int .i64 (.ofNat 2))], [.con (.str m), .con (.str n), .con (.int .i64 (.ofNat 3))],
  [.con (.str m), .con (.str n), .one ⟨true, false, false, 0, none, cb_five.map .int⟩]]
noncomputable def cb_all (m : List UInt8) : List (List UInt8) → List (List Abs.Sh)
  | [] => []
  | n :: l => cb_ar m n ++ cb_all m l
theorem cb_mem {m : List UInt8} : ∀ {L : List (List UInt8)} {n : List UInt8} {x : List Abs.Sh}, n ∈ L → x ∈ cb_ar m n → x ∈ cb_all m L
  | a :: l, n, x, hn, hx => by
    show x ∈ cb_ar m a ++ cb_all m l
    cases hn with
    | head => exact List.mem_append_left _ hx
    | tail _ hn => exact List.mem_append_right _ (cb_mem hn hx)
theorem cb_pick {m n : List UInt8} {s1 s2 : ByteArray} (h1 : s1.data.toList = m) (h2 : s2.data.toList = n) (a : Int) : ∃ x ∈ cb_ar m n, Abs.shsOk x [.string s1, .string s2, .int .i64 a] := by
  by_cases ha : a ∈ cb_five
  · simp only [cb_five, List.mem_cons, List.not_mem_nil, or_false] at ha
    rcases ha with rfl | rfl | rfl | rfl
    · exact ⟨_, List.mem_cons_self, Abs.con_str h1, Abs.con_str h2, Abs.con_int _, trivial⟩
    · exact ⟨_, List.mem_cons_of_mem _ List.mem_cons_self, Abs.con_str h1, Abs.con_str h2, Abs.con_int _, trivial⟩
    · exact ⟨_, List.mem_cons_of_mem _ (List.mem_cons_of_mem _ List.mem_cons_self), Abs.con_str h1, Abs.con_str h2, Abs.con_int _, trivial⟩
    · exact ⟨_, List.mem_cons_of_mem _ (List.mem_cons_of_mem _ (List.mem_cons_of_mem _ List.mem_cons_self)), Abs.con_str h1, Abs.con_str h2, Abs.con_int _, trivial⟩
  · exact ⟨_, List.mem_cons_of_mem _ (List.mem_cons_of_mem _ (List.mem_cons_of_mem _ (List.mem_cons_of_mem _ List.mem_cons_self))), Abs.con_str h1, Abs.con_str h2, Abs.one_int a ha, trivial⟩
noncomputable def cb_own0 : List (List UInt8) := [Abs.sb [101, 108, 101, 109, 101, 110, 116], Abs.sb [115, 101, 116, 101, 108, 101, 109, 101, 110, 116], Abs.sb [116, 117, 112, 108, 101, 95, 115, 105, 122, 101], Abs.sb [104, 100], Abs.sb [116, 108], Abs.sb [108, 101, 110, 103, 116, 104], Abs.sb [97, 98, 115], Abs.sb [105, 115, 95, 97, 116, 111, 109]]
noncomputable def cb_own1 : List (List UInt8) := [Abs.sb [105, 115, 95, 105, 110, 116, 101, 103, 101, 114], Abs.sb [105, 115, 95, 116, 117, 112, 108, 101], Abs.sb [105, 115, 95, 108, 105, 115, 116], Abs.sb [105, 115, 95, 112, 105, 100], Abs.sb [105, 115, 95, 114, 101, 102, 101, 114, 101, 110, 99, 101], Abs.sb [105, 115, 95, 102, 117, 110, 99, 116, 105, 111, 110], Abs.sb [115, 101, 108, 102], Abs.sb [109, 97, 107, 101, 95, 114, 101, 102]]
noncomputable def cb_own2 : List (List UInt8) := [Abs.sb [115, 112, 97, 119, 110], Abs.sb [115, 112, 97, 119, 110, 95, 108, 105, 110, 107], Abs.sb [108, 105, 110, 107], Abs.sb [117, 110, 108, 105, 110, 107], Abs.sb [109, 111, 110, 105, 116, 111, 114], Abs.sb [100, 101, 109, 111, 110, 105, 116, 111, 114], Abs.sb [101, 120, 105, 116], Abs.sb [116, 104, 114, 111, 119]]
noncomputable def cb_own3 : List (List UInt8) := [Abs.sb [101, 114, 114, 111, 114], Abs.sb [112, 114, 111, 99, 101, 115, 115, 95, 102, 108, 97, 103], Abs.sb [108, 105, 115, 116, 95, 116, 111, 95, 116, 117, 112, 108, 101], Abs.sb [116, 117, 112, 108, 101, 95, 116, 111, 95, 108, 105, 115, 116], Abs.sb [100, 105, 115, 112, 108, 97, 121]]
noncomputable def cb_own : List (List UInt8) := cb_own0 ++ cb_own1 ++ cb_own2 ++ cb_own3
noncomputable def cb_mod_own : List UInt8 := Abs.sb []
theorem cb_run_own0 : Abs.chkCases cb0_C 1000000 3 3 1 3 (cb_all cb_mod_own cb_own0) = true := by kernel_rfl
theorem cb_run_own1 : Abs.chkCases cb0_C 1000000 3 3 1 3 (cb_all cb_mod_own cb_own1) = true := by kernel_rfl
theorem cb_run_own2 : Abs.chkCases cb0_C 1000000 3 3 1 3 (cb_all cb_mod_own cb_own2) = true := by kernel_rfl
theorem cb_run_own3 : Abs.chkCases cb0_C 1000000 3 3 1 3 (cb_all cb_mod_own cb_own3) = true := by kernel_rfl
noncomputable def cb_out_own : List (List Abs.Sh) := [[.con (.str cb_mod_own), .one ⟨false, true, false, 0, some 100, cb_own.map .str⟩, .one Abs.kInt]]
theorem cb_run_out_own : Abs.chkCases cb0_C 1000000 3 3 1 3 cb_out_own = true := by kernel_rfl
noncomputable def cb_tab0 : List (List UInt8) := [Abs.sb [110, 101, 119], Abs.sb [100, 101, 108, 101, 116, 101], Abs.sb [100, 101, 108, 101, 116, 101, 95, 111, 98, 106, 101, 99, 116], Abs.sb [105, 110, 115, 101, 114, 116], Abs.sb [105, 110, 115, 101, 114, 116, 95, 110, 101, 119], Abs.sb [108, 111, 111, 107, 117, 112], Abs.sb [108, 111, 111, 107, 117, 112, 95, 101, 108, 101, 109, 101, 110, 116], Abs.sb [109, 101, 109, 98, 101, 114]]
noncomputable def cb_tab1 : List (List UInt8) := [Abs.sb [117, 112, 100, 97, 116, 101, 95, 99, 111, 117, 110, 116, 101, 114], Abs.sb [117, 112, 100, 97, 116, 101, 95, 101, 108, 101, 109, 101, 110, 116], Abs.sb [102, 105, 114, 115, 116], Abs.sb [108, 97, 115, 116], Abs.sb [110, 101, 120, 116], Abs.sb [112, 114, 101, 118], Abs.sb [115, 97, 102, 101, 95, 102, 105, 120, 116, 97, 98, 108, 101], Abs.sb [115, 101, 108, 101, 99, 116]]
noncomputable def cb_tab2 : List (List UInt8) := [Abs.sb [115, 101, 108, 101, 99, 116, 95, 100, 101, 108, 101, 116, 101], Abs.sb [115, 101, 108, 101, 99, 116, 95, 99, 111, 117, 110, 116], Abs.sb [109, 97, 116, 99, 104, 95, 111, 98, 106, 101, 99, 116], Abs.sb [116, 97, 98, 50, 108, 105, 115, 116], Abs.sb [105, 110, 102, 111], Abs.sb [103, 105, 118, 101, 95, 97, 119, 97, 121], Abs.sb [115, 101, 116, 111, 112, 116, 115], Abs.sb [114, 101, 110, 97, 109, 101]]
noncomputable def cb_tab3 : List (List UInt8) := [Abs.sb [119, 104, 101, 114, 101, 105, 115]]
noncomputable def cb_tab : List (List UInt8) := cb_tab0 ++ cb_tab1 ++ cb_tab2 ++ cb_tab3
noncomputable def cb_mod_tab : List UInt8 := Abs.sb [101, 116, 115]
theorem cb_run_tab0 : Abs.chkCases cb1_C 1000000 3 3 1 3 (cb_all cb_mod_tab cb_tab0) = true := by kernel_rfl
theorem cb_run_tab1 : Abs.chkCases cb1_C 1000000 3 3 1 3 (cb_all cb_mod_tab cb_tab1) = true := by kernel_rfl
theorem cb_run_tab2 : Abs.chkCases cb1_C 1000000 3 3 1 3 (cb_all cb_mod_tab cb_tab2) = true := by kernel_rfl
theorem cb_run_tab3 : Abs.chkCases cb1_C 1000000 3 3 1 3 (cb_all cb_mod_tab cb_tab3) = true := by kernel_rfl
noncomputable def cb_out_tab : List (List Abs.Sh) := [[.con (.str cb_mod_tab), .one ⟨false, true, false, 0, some 100, cb_tab.map .str⟩, .one Abs.kInt]]
theorem cb_run_out_tab : Abs.chkCases cb1_C 1000000 3 3 1 3 cb_out_tab = true := by kernel_rfl
noncomputable def cb_mods : List (List UInt8) := [cb_mod_own, cb_mod_tab]
noncomputable def cb_far1 : List (List Abs.Sh) := [[.one ⟨false, true, false, 101, none, ([] : List (List UInt8)).map .str⟩, .one ⟨false, true, false, 0, none, ([] : List (List UInt8)).map .str⟩, .one Abs.kInt]]
noncomputable def cb_far2 : List (List Abs.Sh) := [[.one ⟨false, true, false, 0, some 100, ([] : List (List UInt8)).map .str⟩, .one ⟨false, true, false, 101, none, ([] : List (List UInt8)).map .str⟩, .one Abs.kInt]]
noncomputable def cb_else : List (List Abs.Sh) := [[.one ⟨false, true, false, 0, some 100, cb_mods.map .str⟩, .one ⟨false, true, false, 0, some 100, ([] : List (List UInt8)).map .str⟩, .one Abs.kInt]]
theorem cb_run_far1 : Abs.chkCases cb2_C 1000000 3 3 1 3 cb_far1 = true := by kernel_rfl
theorem cb_run_far2 : Abs.chkCases cb2_C 1000000 3 3 1 3 cb_far2 = true := by kernel_rfl
theorem cb_run_else : Abs.chkCases cb2_C 1000000 3 3 1 3 cb_else = true := by kernel_rfl
theorem cb_int (n : Int) : Abs.shOk (.one Abs.kInt) (.int .i64 n) := Abs.one_int (ne := []) n (by simp)
theorem checkBuilt_walk (w : World) {m : Int} {vs : Array Value} (hw : w.heap[(1 : Nat)]? = some (.cells vs 3 (0, 0))) (hv : vs[0]? = some (.int .i64 m)) (s1 s2 : ByteArray) (n : Int) :
    Calls Tryz.prog 3 #[.string s1, .string s2, .int .i64 n] w fun e w' => e = .returned (.bool true) ∧ w.keptBut w' (fun _ => False) := by
  have g0 := fun (cs : List (List Abs.Sh)) (h : Abs.chkCases cb0_C 1000000 3 3 1 3 cs = true) (hx : ∃ l ∈ cs, Abs.shsOk l (#[.string s1, .string s2, .int .i64 n] : Array Value).toList) => Abs.walk_cases (C := cb0_C) cb0_good checkBuilt_absMixed (f := 3) 1000000 (g := 1) (t := 3) 3 (by kernel_rfl) (by kernel_rfl) h w hw hv hx
  have g1 := fun (cs : List (List Abs.Sh)) (h : Abs.chkCases cb1_C 1000000 3 3 1 3 cs = true) (hx : ∃ l ∈ cs, Abs.shsOk l (#[.string s1, .string s2, .int .i64 n] : Array Value).toList) => Abs.walk_cases (C := cb1_C) cb1_good checkBuilt_absMixed (f := 3) 1000000 (g := 1) (t := 3) 3 (by kernel_rfl) (by kernel_rfl) h w hw hv hx
  have g2 := fun (cs : List (List Abs.Sh)) (h : Abs.chkCases cb2_C 1000000 3 3 1 3 cs = true) (hx : ∃ l ∈ cs, Abs.shsOk l (#[.string s1, .string s2, .int .i64 n] : Array Value).toList) => Abs.walk_cases (C := cb2_C) cb2_good checkBuilt_absMixed (f := 3) 1000000 (g := 1) (t := 3) 3 (by kernel_rfl) (by kernel_rfl) h w hw hv hx
  by_cases h1 : 100 < s1.size
  · exact g2 _ cb_run_far1 ⟨_, List.mem_cons_self, Abs.one_str s1 h1 (fun h e => by cases e) (by simp), Abs.one_str s2 (Nat.zero_le _) (fun h e => by cases e) (by simp), cb_int n, trivial⟩
  by_cases h2 : 100 < s2.size
  · exact g2 _ cb_run_far2 ⟨_, List.mem_cons_self, Abs.one_str s1 (Nat.zero_le _) (fun h e => by cases e; omega) (by simp), Abs.one_str s2 h2 (fun h e => by cases e) (by simp), cb_int n, trivial⟩
  by_cases ho : s1.data.toList = cb_mod_own
  · by_cases hn : s2.data.toList ∈ cb_own
    · obtain ⟨x, hx, hok⟩ := cb_pick ho (n := s2.data.toList) rfl n
      simp only [cb_own, List.mem_append] at hn
      rcases hn with ((hn | hn) | hn) | hn
      · exact g0 _ cb_run_own0 ⟨x, cb_mem hn hx, hok⟩
      · exact g0 _ cb_run_own1 ⟨x, cb_mem hn hx, hok⟩
      · exact g0 _ cb_run_own2 ⟨x, cb_mem hn hx, hok⟩
      · exact g0 _ cb_run_own3 ⟨x, cb_mem hn hx, hok⟩
    · exact g0 _ cb_run_out_own ⟨_, List.mem_cons_self, Abs.con_str ho, Abs.one_str s2 (Nat.zero_le _) (fun h e => by cases e; omega) hn, cb_int n, trivial⟩
  by_cases ht : s1.data.toList = cb_mod_tab
  · by_cases hn : s2.data.toList ∈ cb_tab
    · obtain ⟨x, hx, hok⟩ := cb_pick ht (n := s2.data.toList) rfl n
      simp only [cb_tab, List.mem_append] at hn
      rcases hn with ((hn | hn) | hn) | hn
      · exact g1 _ cb_run_tab0 ⟨x, cb_mem hn hx, hok⟩
      · exact g1 _ cb_run_tab1 ⟨x, cb_mem hn hx, hok⟩
      · exact g1 _ cb_run_tab2 ⟨x, cb_mem hn hx, hok⟩
      · exact g1 _ cb_run_tab3 ⟨x, cb_mem hn hx, hok⟩
    · exact g1 _ cb_run_out_tab ⟨_, List.mem_cons_self, Abs.con_str ht, Abs.one_str s2 (Nat.zero_le _) (fun h e => by cases e; omega) hn, cb_int n, trivial⟩
  exact g2 _ cb_run_else ⟨_, List.mem_cons_self, Abs.one_str s1 (Nat.zero_le _) (fun h e => by cases e; omega) (by simp [cb_mods, ho, ht]), Abs.one_str s2 (Nat.zero_le _) (fun h e => by cases e; omega) (by simp), cb_int n, trivial⟩
end Go.Proofs.YtonikibacahebaaGreatDoor
