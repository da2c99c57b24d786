/- The walk of the statement 'BuiltCountsCard' of 'YteibjeicgeophaaGreatDoor': the law's call returns true, by runs of the abstract machine in the kernel. No condition. -/
import Derived.Test.YteibjeicgeophaaGreatDoorTie
import Derived.Test.YteibjeicgeophaaGreatDoorCards
import Derived.Test.YteibjeicgeophaaGreatDoorAbs7
import Derived.WalkKit
import Derived.ProofKit
import Derived.OpenShut
import Derived.SevenTiedAt
import Derived.ChangeCalls
import Derived.Shelf.Strings.Search3
import Derived.Shelf.Vars
import Derived.Test.YteibjeicgeophaaGreatDoorBuiltCountsRun1
import Derived.Test.YteibjeicgeophaaGreatDoorBuiltCountsObl
namespace Go.Proofs.YteibjeicgeophaaGreatDoor
open Go.ChangeShapes Go.WideShapes Go.ChangeAt Go.RowKit

theorem builtCounts_own : ownKnob Tryz.prog.godebug = none := by kernel_rfl
noncomputable def builtCounts_M : List (FuncId × Abs.Memo) := [(5, builtCounts_m3), (5, builtCounts_m1)]
noncomputable def builtCounts_C (_N : Nat) : Abs.Ctx := Abs.mkCtx Tryz.prog (fun _ => false) builtCounts_absX builtCounts_M [kCon Tryz.prog "cnt" (kCnt 64)]
theorem builtCounts_good (N : Nat) : Abs.Good (builtCounts_C N) := Abs.good_ofK (fun c h => by cases h with | head => exact bc_con 64 | tail _ h => cases h) (Abs.memos_of (M := builtCounts_M) ⟨builtCounts_ok3, builtCounts_ok1, trivial⟩) bc_absValid bc_absNum (Abs.ext_of builtCounts_absExt)
noncomputable def builtCounts_vars : List Abs.GV := [⟨0, 3, [.opq (.int .i64) (.var 0)]⟩]
set_option maxRecDepth 100000 in
theorem builtCounts_absRun (N : Nat) : Abs.R.res (fun _ => true) ((Abs.enterA (builtCounts_C N) (Abs.runF (builtCounts_C N) 1000000) 3 (Abs.argAVs (builtCounts_C N) kTs (builtCounts_C N).nG) .normal none (Abs.SDv (builtCounts_C N) kTs N builtCounts_vars)).bind Abs.lookT) = some (builtCounts_kaR.map fun r => r.map (builtCounts_ka N)) := by kernel_rfl
set_option maxRecDepth 100000 in
theorem builtCounts_lifted (os : Os) (started : os.Started) (H : Type) (enc : TypeId × Value → H) :
    ReturnsInHanded {} Tryz.checked os 3 .any (fun w args => (Rows.builtCountsSpec.pre enc Tryz.prog Tryz.f3 Rows.builtCountsRow.domain false w args ∧ laidMetH Tryz.prog Rows.builtCountsRow.laid w) ∧ sizedMet enc Tryz.prog Tryz.f3 (OpenSpec.ofChange Rows.builtCountsSpec) false w args)
      (Rows.builtCountsSpec.post enc Tryz.prog Tryz.f3 false true false false) := by
  refine Abs.handed_and_shaped (C := Tryz.checked) (X := fun w _ => laidMetH Tryz.prog Rows.builtCountsRow.laid w) (fun _ _ _ hh h => h.of_heap hh) builtCounts_own started (by kernel_rfl) Tryz.func3
    (ChangeSpec.witness_shaped (enc := enc) (C := Tryz.checked) (os := os) (X := fun w _ => laidMetH Tryz.prog Rows.builtCountsRow.laid w) false (World.laidAll Tryz.prog os Rows.builtCountsRow.laid) #[.slice none 0 0] 8 (World.laidAll_os _ _ _)
      (World.shaped_of_ZipB (by kernel_rfl) (by kernel_rfl)) (by kernel_rfl) (by kernel_rfl) (by kernel_rfl)
      (by rw [MakeChecks.laidMetH_plain _ _ _ (by kernel_rfl)]; exact laidMet_laidAll _ (by kernel_rfl) (by kernel_rfl))) ?_
  intro W base args ds gs before hval0 hW hcnd hsh hlaid
  have hval : ∀ (j : Nat) t v, Tryz.f3.params[j]? = some t → args[j]? = some v → Value.okWide Tryz.prog W .any base t v := hval0
  have hW' := hW
  obtain ⟨p, q, hA0, hV, rfl, hfz, hnd⟩ := hW
  have hA : DataW.TrodAll enc Tryz.prog W 0 (fun _ => true) true Tryz.f3.params.toList args.toList ds p := hA0
  rw [Tryz.params3] at hA hval
  obtain ⟨rfl, rfl⟩ := trodVars_none hV
  have hA2 := hA
  obtain ⟨v1, r1, d1, e1, p1, q1, -, rfl, -, -, hA2⟩ := trodAll_cons hA2
  obtain ⟨-, rfl, -⟩ := trodAll_nil hA2
  clear hA0 hval0
  simp only [List.append_nil] at hW'
  obtain ⟨vs, m, hw, hv⟩ := Abs.int_of_shape (g := 0) (t := 3) hsh (by kernel_rfl) (by kernel_rfl)
    (Go.Proofs.cell_of_shapedOpen_int (zero := #[.int .i64 0]) (t := 3) hsh (of_decide_eq_true (by kernel_rfl)) (by kernel_rfl) rfl (by kernel_rfl) (by kernel_rfl) Tryz.underlying3)
  refine (Abs.walk_dataV (builtCounts_good (Abs.bulkAll [d1])) bc_absMixed 1000000 (N := Abs.bulkAll [d1]) (L := [22, 3]) (ts := kTs) (by kernel_rfl) (fun u hu => by
      simp only [kTs, List.mem_cons, List.not_mem_nil, or_false] at hu
      rcases hu with rfl <;> simp) builtCounts_vars (fun id => if id = 0 then some (.int .i64 m) else none)
    (builtCounts_absRun _) (builtCounts_uns _) W hA (fun j t v h1 h2 => hval j t v (by rw [← Array.getElem?_toList]; exact h1) h2) (Nat.le_refl _)
    (fun gg v hgg => by
      by_cases h0 : gg = 0
      · rw [if_pos h0] at hgg; obtain rfl := Option.some.inj hgg; rfl
      rw [if_neg h0] at hgg
      cases hgg)
    (fun Ld x hx => by
      simp only [builtCounts_vars, List.mem_cons, List.not_mem_nil, or_false] at hx
      rcases hx with rfl
      · exact Abs.gv_one (by kernel_rfl) (by kernel_rfl) hw hv (Abs.conc_intVar (Nat.le_of_ble_eq_true (by kernel_rfl)) (by simp))
)).mono fun e W' ⟨he, hg⟩ => ?_
  subst he
  exact ⟨_, rfl, Abs.post_old (pa := p) (pv := []) hW' (fun _ _ _ => (trodAll_cons_mk (shut_bool Tryz.underlying4 _) trodAll_mk0)) (fun sp hsp => by rw [Tryz.params3]; exact Abs.args_stay (by kernel_rfl) hg (by kernel_rfl) hA (fun x hx => hW'.lt x hx) hsp) (fun _ _ => rfl) (List.append_nil p).symm
    (Abs.kept_mono hg)⟩

end Go.Proofs.YteibjeicgeophaaGreatDoor
