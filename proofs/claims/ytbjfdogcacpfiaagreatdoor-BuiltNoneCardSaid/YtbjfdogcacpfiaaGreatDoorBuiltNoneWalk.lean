/- The walk of the statement 'BuiltNoneCard' of 'YtbjfdogcacpfiaaGreatDoor': the law's call returns true, by runs of the abstract machine in the kernel. No condition. -/
import Derived.Test.YtbjfdogcacpfiaaGreatDoorTie
import Derived.Test.YtbjfdogcacpfiaaGreatDoorCards
import Derived.Test.YtbjfdogcacpfiaaGreatDoorAbs5
import Derived.WalkKit
import Derived.ProofKit
import Derived.OpenShut
import Derived.SevenTiedAt
import Derived.ChangeCalls
import Derived.Shelf.Strings.Search3
import Derived.Shelf.Vars
import Derived.Test.YtbjfdogcacpfiaaGreatDoorBuiltNoneRun1
namespace Go.Proofs.YtbjfdogcacpfiaaGreatDoor
open Go.ChangeShapes Go.WideShapes Go.ChangeAt Go.RowKit

theorem builtNone_own : ownKnob Tryz.prog.godebug = none := by kernel_rfl

/-! ### the walk: a run in the kernel -/
noncomputable def builtNone_M : List (FuncId × Abs.Memo) := [(13, builtNone_m1)]
noncomputable def builtNone_C : Abs.Ctx := Abs.mkCtx Tryz.prog (fun _ => false) builtNone_absX builtNone_M
theorem builtNone_good : Abs.Good builtNone_C := Abs.good_ofM (Abs.memos_of (M := builtNone_M) ⟨builtNone_ok1, trivial⟩) builtNone_absValid builtNone_absNum (Abs.ext_of builtNone_absExt)
set_option maxRecDepth 100000 in
noncomputable def builtNone_shs : List Abs.Sh := [.one Abs.kAny, .one Abs.kAny]
set_option maxRecDepth 100000 in
theorem builtNone_absRun : Abs.R.chk Abs.retTrue (Abs.enterA builtNone_C (Abs.runF builtNone_C 1000000) 4 (Abs.absArgs builtNone_shs builtNone_C.nG) .normal none (Abs.S1a builtNone_C.nG (Abs.shN builtNone_shs) 0 3)) = true := by kernel_rfl
theorem builtNone_walk (w : World) {m : Int} {vs : Array Value} (hw : w.heap[(0 : Nat)]? = some (.cells vs 3 (0, 0))) (hv : vs[0]? = some (.int .i64 m)) {args : Array Value} (hargs : Abs.shsOk builtNone_shs args.toList) :
    Calls Tryz.prog 4 args w fun e w' => e = .returned (.bool true) ∧ w.keptBut w' (fun _ => False) :=
  Abs.walk_args1 builtNone_good builtNone_absMixed 1000000 builtNone_shs (by kernel_rfl) (by kernel_rfl) builtNone_absRun w hw hv hargs

set_option maxRecDepth 100000 in
theorem builtNone_lifted (os : Os) (started : os.Started) (H : Type) (enc : TypeId × Value → H) :
    ReturnsInHanded {} Tryz.checked os 4 .any (fun w args => (Rows.builtNoneSpec.pre enc Tryz.prog Tryz.f4 Rows.builtNoneRow.domain false w args ∧ laidMetH Tryz.prog Rows.builtNoneRow.laid w) ∧ sizedMet enc Tryz.prog Tryz.f4 (OpenSpec.ofChange Rows.builtNoneSpec) false w args)
      (Rows.builtNoneSpec.post enc Tryz.prog Tryz.f4 false true false false) := by
  refine Abs.handed_and_shaped (C := Tryz.checked) (X := fun w _ => laidMetH Tryz.prog Rows.builtNoneRow.laid w) (fun _ _ _ hh h => h.of_heap hh) builtNone_own started (by kernel_rfl) Tryz.func4
    (ChangeSpec.witness_shaped (enc := enc) (C := Tryz.checked) (os := os) (X := fun w _ => laidMetH Tryz.prog Rows.builtNoneRow.laid w) false (World.laidAll Tryz.prog os Rows.builtNoneRow.laid) #[.string ⟨#[]⟩, .slice none 0 0] 8 (World.laidAll_os _ _ _)
      (World.shaped_of_ZipB (by kernel_rfl) (by kernel_rfl)) (by kernel_rfl) (by kernel_rfl) (by kernel_rfl)
      (by rw [MakeChecks.laidMetH_plain _ _ _ (by kernel_rfl)]; exact laidMet_laidAll _ (by kernel_rfl) (by kernel_rfl))) ?_
  intro W base args ds gs before hval0 hW hcnd hsh hlaid
  have hval : ∀ (j : Nat) t v, Tryz.f4.params[j]? = some t → args[j]? = some v → Value.okWide Tryz.prog W .any base t v := hval0
  have hW' := hW
  obtain ⟨p, q, hA0, hV, rfl, hfz, hnd⟩ := hW
  have hA : DataW.TrodAll enc Tryz.prog W 0 (fun _ => true) true Tryz.f4.params.toList args.toList ds p := hA0
  rw [Tryz.params4] at hA hval
  have hsh0 := Abs.shs_of (l := builtNone_shs) (ts := [9, 24]) (by kernel_rfl) (Go.trodAll_length hA).1 fun j t v h1 h2 => hval j t v (by rw [← Array.getElem?_toList]; exact h1) (by rw [← Array.getElem?_toList]; exact h2)
  have hA2 := hA
  obtain ⟨v1, v2, d1, d2, p1, p2, rfl, rfl, -, -⟩ := trodAll_two hA2
  obtain ⟨rfl, rfl⟩ := trodVars_none hV
  clear hA0 hval0
  simp only [List.append_nil] at hW'
  obtain ⟨vs, m, hw, hv⟩ := Abs.int_of_shape (g := 0) (t := 3) hsh (by kernel_rfl) (by kernel_rfl)
    (Go.Proofs.cell_of_shapedOpen_int (zero := #[.int .i64 0]) (t := 3) hsh (of_decide_eq_true (by kernel_rfl)) (by kernel_rfl) rfl (by kernel_rfl) (by kernel_rfl) Tryz.underlying3)
  refine (builtNone_walk W hw hv hsh0).mono fun e W' ⟨he, hg⟩ => ?_
  subst he
  exact ⟨_, rfl, Abs.post_old (pa := p) (pv := []) hW' (fun _ _ _ => (trodAll_cons_mk (shut_bool Tryz.underlying4 _) trodAll_mk0)) (fun sp hsp => by rw [Tryz.params4]; exact Abs.args_stay (by kernel_rfl) hg (by kernel_rfl) hA (fun x hx => hW'.lt x hx) hsp) (fun _ _ => rfl) (List.append_nil p).symm
    (Abs.kept_mono hg)⟩

end Go.Proofs.YtbjfdogcacpfiaaGreatDoor
