/- The walk of the statement 'PickKnownCard' of 'YtfiefdhgfinbjaaGreatDoor': the law's call returns true, by runs of the abstract machine in the kernel. No condition. -/
import Derived.Test.YtfiefdhgfinbjaaGreatDoorTie
import Derived.Test.YtfiefdhgfinbjaaGreatDoorCards
import Derived.Test.YtfiefdhgfinbjaaGreatDoorAbs5
import Derived.WalkKit
import Derived.ProofKit
import Derived.OpenShut
import Derived.SevenTiedAt
import Derived.ChangeCalls
import Derived.Shelf.Strings.Search3
import Derived.Shelf.Vars
import Derived.Test.YtfiefdhgfinbjaaGreatDoorPickKnownRun3
namespace Go.Proofs.YtfiefdhgfinbjaaGreatDoor
open Go.ChangeShapes Go.WideShapes Go.ChangeAt Go.RowKit

theorem pickKnown_own : ownKnob Tryz.prog.godebug = none := by kernel_rfl

/-! ### the walk: a run in the kernel -/
noncomputable def pickKnown_M : List (FuncId × Abs.Memo) := [(104, pickKnown_m12), (10, pickKnown_m11), (10, pickKnown_m10), (29, pickKnown_m9), (6, pickKnown_m8), (10, pickKnown_m6), (8, pickKnown_m5), (104, pickKnown_m2), (6, pickKnown_m1)]
noncomputable def pickKnown_C : Abs.Ctx := Abs.mkCtx Tryz.prog (fun _ => false) pickKnown_absX pickKnown_M
theorem pickKnown_good : Abs.Good pickKnown_C := Abs.good_ofM (Abs.memos_of (M := pickKnown_M) ⟨pickKnown_ok12, pickKnown_ok11, pickKnown_ok10, pickKnown_ok9, pickKnown_ok8, pickKnown_ok6, pickKnown_ok5, pickKnown_ok2, pickKnown_ok1, trivial⟩) pickKnown_absValid pickKnown_absNum (Abs.ext_of pickKnown_absExt)
set_option maxRecDepth 100000 in
theorem pickKnown_absRun : Abs.R.chk Abs.retTrue (Abs.enterA pickKnown_C (Abs.runF pickKnown_C 1000000) 4 [] .normal none (Abs.S1 pickKnown_C.nG 0 3)) = true := by kernel_rfl
theorem pickKnown_walk (w : World) {m : Int} {vs : Array Value} (hw : w.heap[(0 : Nat)]? = some (.cells vs 3 (0, 0))) (hv : vs[0]? = some (.int .i64 m)) :
    Calls Tryz.prog 4 #[] w fun e w' => e = .returned (.bool true) ∧ w.keptBut w' (fun _ => False) :=
  Abs.walk_closed1 pickKnown_good pickKnown_absMixed 1000000 (by kernel_rfl) (by kernel_rfl) pickKnown_absRun w hw hv

set_option maxRecDepth 100000 in
theorem pickKnown_lifted (os : Os) (started : os.Started) (H : Type) (enc : TypeId × Value → H) :
    ReturnsInHanded {} Tryz.checked os 4 .any (fun w args => (Rows.pickKnownSpec.pre enc Tryz.prog Tryz.f4 Rows.pickKnownRow.domain false w args ∧ laidMetH Tryz.prog Rows.pickKnownRow.laid w) ∧ sizedMet enc Tryz.prog Tryz.f4 (OpenSpec.ofChange Rows.pickKnownSpec) false w args)
      (Rows.pickKnownSpec.post enc Tryz.prog Tryz.f4 false true false false) := by
  refine Abs.handed_and_shaped (C := Tryz.checked) (X := fun w _ => laidMetH Tryz.prog Rows.pickKnownRow.laid w) (fun _ _ _ hh h => h.of_heap hh) pickKnown_own started (by kernel_rfl) Tryz.func4
    (ChangeSpec.witness_shaped (enc := enc) (C := Tryz.checked) (os := os) (X := fun w _ => laidMetH Tryz.prog Rows.pickKnownRow.laid w) false (World.laidAll Tryz.prog os Rows.pickKnownRow.laid) #[] 8 (World.laidAll_os _ _ _)
      (World.shaped_of_ZipB (by kernel_rfl) (by kernel_rfl)) (by kernel_rfl) (by kernel_rfl) (by kernel_rfl)
      (by rw [MakeChecks.laidMetH_plain _ _ _ (by kernel_rfl)]; exact laidMet_laidAll _ (by kernel_rfl) (by kernel_rfl))) ?_
  intro W base args ds gs before hval0 hW hcnd hsh hlaid
  have hval : ∀ (j : Nat) t v, Tryz.f4.params[j]? = some t → args[j]? = some v → Value.okWide Tryz.prog W .any base t v := hval0
  have hW' := hW
  obtain ⟨p, q, hA0, hV, rfl, hfz, hnd⟩ := hW
  have hA : DataW.TrodAll enc Tryz.prog W 0 (fun _ => true) true Tryz.f4.params.toList args.toList ds p := hA0
  rw [Tryz.params4] at hA hval
  obtain ⟨rfl, rfl, rfl⟩ := trodAll_none hA
  obtain ⟨rfl, rfl⟩ := trodVars_none hV
  clear hA0 hval0
  simp only [List.append_nil] at hW'
  obtain ⟨vs, m, hw, hv⟩ := Abs.int_of_shape (g := 0) (t := 3) hsh (by kernel_rfl) (by kernel_rfl)
    (Go.Proofs.cell_of_shapedOpen_int (zero := #[.int .i64 0]) (t := 3) hsh (of_decide_eq_true (by kernel_rfl)) (by kernel_rfl) rfl (by kernel_rfl) (by kernel_rfl) Tryz.underlying3)
  refine (pickKnown_walk W hw hv).mono fun e W' ⟨he, hg⟩ => ?_
  subst he
  exact ⟨_, rfl, Abs.post_old (pa := []) (pv := []) hW' (fun _ _ _ => (trodAll_cons_mk (shut_bool Tryz.underlying4 _) trodAll_mk0)) (fun sp _ => rfl) (fun _ _ => rfl) rfl
    (Abs.kept_mono hg)⟩

end Go.Proofs.YtfiefdhgfinbjaaGreatDoor
