/- The walk of the statement 'BuiltKnownCard' of 'YtbjfdogcacpfiaaGreatDoor': the law's call returns true, by runs of the abstract machine in the kernel. No condition. -/
import Derived.Test.YtbjfdogcacpfiaaGreatDoorTie
import Derived.Test.YtbjfdogcacpfiaaGreatDoorCards
import Derived.Test.YtbjfdogcacpfiaaGreatDoorAbs5
import Derived.WalkKit
import Derived.ProofKit
import Derived.OpenShut
import Derived.SevenTiedAt
import Derived.ChangeCalls
import Derived.Shelf.Strings.Search3
import Derived.Shelf.Vars
import Derived.Test.YtbjfdogcacpfiaaGreatDoorBuiltKnownRun2
namespace Go.Proofs.YtbjfdogcacpfiaaGreatDoor
open Go.ChangeShapes Go.WideShapes Go.ChangeAt Go.RowKit

theorem builtKnown_own : ownKnob Tryz.prog.godebug = none := by kernel_rfl

/-! ### the walk: a run in the kernel -/
noncomputable def builtKnown_M : List (FuncId × Abs.Memo) := [(100, builtKnown_m14), (138, builtKnown_m13), (122, builtKnown_m12), (138, builtKnown_m11), (206, builtKnown_m10), (119, builtKnown_m9), (200, builtKnown_m8), (60, builtKnown_m7), (138, builtKnown_m6), (206, builtKnown_m5), (138, builtKnown_m4), (138, builtKnown_m3), (206, builtKnown_m2), (13, builtKnown_m1)]
noncomputable def builtKnown_C : Abs.Ctx := Abs.mkCtx Tryz.prog (fun _ => false) builtKnown_absX builtKnown_M
theorem builtKnown_good : Abs.Good builtKnown_C := Abs.good_ofM (Abs.memos_of (M := builtKnown_M) ⟨builtKnown_ok14, builtKnown_ok13, builtKnown_ok12, builtKnown_ok11, builtKnown_ok10, builtKnown_ok9, builtKnown_ok8, builtKnown_ok7, builtKnown_ok6, builtKnown_ok5, builtKnown_ok4, builtKnown_ok3, builtKnown_ok2, builtKnown_ok1, trivial⟩) builtKnown_absValid builtKnown_absNum (Abs.ext_of builtKnown_absExt)
set_option maxRecDepth 100000 in
theorem builtKnown_absRun : Abs.R.chk Abs.retTrue (Abs.enterA builtKnown_C (Abs.runF builtKnown_C 1000000) 3 [] .normal none (Abs.S1 builtKnown_C.nG 0 3)) = true := by kernel_rfl
theorem builtKnown_walk (w : World) {m : Int} {vs : Array Value} (hw : w.heap[(0 : Nat)]? = some (.cells vs 3 (0, 0))) (hv : vs[0]? = some (.int .i64 m)) :
    Calls Tryz.prog 3 #[] w fun e w' => e = .returned (.bool true) ∧ w.keptBut w' (fun _ => False) :=
  Abs.walk_closed1 builtKnown_good builtKnown_absMixed 1000000 (by kernel_rfl) (by kernel_rfl) builtKnown_absRun w hw hv

set_option maxRecDepth 100000 in
theorem builtKnown_lifted (os : Os) (started : os.Started) (H : Type) (enc : TypeId × Value → H) :
    ReturnsInHanded {} Tryz.checked os 3 .any (fun w args => (Rows.builtKnownSpec.pre enc Tryz.prog Tryz.f3 Rows.builtKnownRow.domain false w args ∧ laidMetH Tryz.prog Rows.builtKnownRow.laid w) ∧ sizedMet enc Tryz.prog Tryz.f3 (OpenSpec.ofChange Rows.builtKnownSpec) false w args)
      (Rows.builtKnownSpec.post enc Tryz.prog Tryz.f3 false true false false) := by
  refine Abs.handed_and_shaped (C := Tryz.checked) (X := fun w _ => laidMetH Tryz.prog Rows.builtKnownRow.laid w) (fun _ _ _ hh h => h.of_heap hh) builtKnown_own started (by kernel_rfl) Tryz.func3
    (ChangeSpec.witness_shaped (enc := enc) (C := Tryz.checked) (os := os) (X := fun w _ => laidMetH Tryz.prog Rows.builtKnownRow.laid w) false (World.laidAll Tryz.prog os Rows.builtKnownRow.laid) #[] 8 (World.laidAll_os _ _ _)
      (World.shaped_of_ZipB (by kernel_rfl) (by kernel_rfl)) (by kernel_rfl) (by kernel_rfl) (by kernel_rfl)
      (by rw [MakeChecks.laidMetH_plain _ _ _ (by kernel_rfl)]; exact laidMet_laidAll _ (by kernel_rfl) (by kernel_rfl))) ?_
  intro W base args ds gs before hval0 hW hcnd hsh hlaid
  have hval : ∀ (j : Nat) t v, Tryz.f3.params[j]? = some t → args[j]? = some v → Value.okWide Tryz.prog W .any base t v := hval0
  have hW' := hW
  obtain ⟨p, q, hA0, hV, rfl, hfz, hnd⟩ := hW
  have hA : DataW.TrodAll enc Tryz.prog W 0 (fun _ => true) true Tryz.f3.params.toList args.toList ds p := hA0
  rw [Tryz.params3] at hA hval
  obtain ⟨rfl, rfl, rfl⟩ := trodAll_none hA
  obtain ⟨rfl, rfl⟩ := trodVars_none hV
  clear hA0 hval0
  simp only [List.append_nil] at hW'
  obtain ⟨vs, m, hw, hv⟩ := Abs.int_of_shape (g := 0) (t := 3) hsh (by kernel_rfl) (by kernel_rfl)
    (Go.Proofs.cell_of_shapedOpen_int (zero := #[.int .i64 0]) (t := 3) hsh (of_decide_eq_true (by kernel_rfl)) (by kernel_rfl) rfl (by kernel_rfl) (by kernel_rfl) Tryz.underlying3)
  refine (builtKnown_walk W hw hv).mono fun e W' ⟨he, hg⟩ => ?_
  subst he
  exact ⟨_, rfl, Abs.post_old (pa := []) (pv := []) hW' (fun _ _ _ => (trodAll_cons_mk (shut_bool Tryz.underlying4 _) trodAll_mk0)) (fun sp _ => rfl) (fun _ _ => rfl) rfl
    (Abs.kept_mono hg)⟩

end Go.Proofs.YtbjfdogcacpfiaaGreatDoor
