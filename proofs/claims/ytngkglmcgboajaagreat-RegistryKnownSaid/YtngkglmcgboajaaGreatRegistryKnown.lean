/- The statement 'RegistryKnown' of 'YtngkglmcgboajaaGreat' is proved: the law's call returns true. No condition of ours: by a run of the abstract machine in the kernel, which is proved to carry out what the model does. The shell began as the kit's proof-skeleton. -/
import Derived.Test.YtngkglmcgboajaaGreatRows
import Derived.Test.YtngkglmcgboajaaGreatAbs5
import Derived.WalkKit
import Derived.ProofKit
import Derived.OpenShut
namespace Go.Proofs.YtngkglmcgboajaaGreat
open Go.ChangeShapes Go.WideShapes Go.ChangeAt Go.RowKit
set_option linter.unusedVariables false      -- a walk need not use every 'w<i>' (that an integer argument fits its kind)

theorem registryKnown_own : ownKnob Tryz.prog.godebug = none := by kernel_rfl

/-! ### the walk: a run in the kernel -/
noncomputable def registryKnown_absX : List (FuncId × Abs.Ext) := [(185, .cmp)]
noncomputable def registryKnown_absC : Abs.Ctx := Abs.mkCtx Tryz.prog (fun _ => false) registryKnown_absX
set_option maxRecDepth 100000 in
theorem registryKnown_absExt : Abs.ExtOk Tryz.prog registryKnown_absX := ⟨⟨_, (by kernel_rfl : Tryz.prog.funcs[185]? = some (Tryz.prog.funcs[185]?.getD default)), by kernel_rfl, by kernel_rfl, by kernel_rfl, by kernel_rfl⟩, trivial⟩
set_option maxRecDepth 100000 in
theorem registryKnown_absGood : Abs.Good registryKnown_absC := Abs.good_of (by kernel_rfl) (by kernel_rfl) (Abs.ext_of registryKnown_absExt)
theorem registryKnown_absMixed : registryKnown_absC.P.follows .mixedOrders = true := by kernel_rfl
set_option maxRecDepth 100000 in
theorem registryKnown_absRun : Abs.R.chk Abs.retTrue (Abs.enterA registryKnown_absC (Abs.runF registryKnown_absC 1000000) 3 [] .normal none (Abs.S0 registryKnown_absC.nG)) = true := by kernel_rfl
theorem registryKnown_walk (w : World) : Calls Tryz.prog 3 #[] w fun e w' => e = .returned (.bool true) ∧ w.keptBut w' (fun _ => False) :=
  Abs.walk_closed registryKnown_absGood registryKnown_absMixed 1000000 registryKnown_absRun w

/-! ### THE ROW's STEP: WRITTEN OUT: LEAVE IT -/
set_option maxRecDepth 100000 in
theorem registryKnown_lifted (os : Os) (started : os.Started) (H : Type) (enc : TypeId × Value → H) :
    ReturnsInHanded {} Tryz.checked os 3 .any (Rows.registryKnownSpec.pre6 enc Tryz.prog Tryz.f3 Rows.registryKnownRow.domain false) (Rows.registryKnownSpec.post enc Tryz.prog Tryz.f3 false true false false) := by
  refine returnsInHanded_of_change (C := Tryz.checked) registryKnown_own started (by kernel_rfl) Tryz.func3
    (ChangeSpec.witness6 (enc := enc) (C := Tryz.checked) false ⟨#[], #[], []⟩ 8 (by kernel_rfl) (by kernel_rfl) (by kernel_rfl) (by kernel_rfl)) ?_
  intro W base args ds gs before hval0 hW hcnd _
  have hval : ∀ (j : Nat) t v, Tryz.f3.params[j]? = some t → args[j]? = some v → Value.okWide Tryz.prog W .any base t v := hval0
  have hW' := hW
  obtain ⟨p, q, hA0, hV, rfl, hfz, hnd⟩ := hW
  have hA : DataW.TrodAll enc Tryz.prog W 0 (fun _ => true) true Tryz.f3.params.toList args.toList ds p := hA0
  rw [Tryz.params3] at hA hval
  obtain ⟨rfl, rfl, rfl⟩ := trodAll_none hA
  obtain ⟨rfl, rfl⟩ := trodVars_none hV
  clear hA0 hval0
  simp only [List.append_nil] at hW'
  refine (registryKnown_walk W).mono fun e W' ⟨he, hg⟩ => ?_
  subst he
  exact ⟨_, rfl, Abs.post_old (pa := []) (pv := []) hW' (fun _ _ _ => (trodAll_cons_mk (shut_bool Tryz.underlying4 _) trodAll_mk0)) (fun sp _ => rfl) (fun _ _ => rfl) rfl
    (Abs.kept_mono hg)⟩

theorem registryKnown_over : Rows.registryKnownRow.holds Tryz.pinned (OpenSpec.ofChange Rows.registryKnownSpec) :=
  OpenClaim.holds_of_wide 3 Tryz.f3 rfl rfl rfl rfl rfl rfl rfl ⟨rfl, rfl, rfl, rfl, rfl⟩ rfl rfl rfl rfl rfl (by kernel_rfl) Tryz.func3 (by kernel_rfl)
    (of_decide_eq_true (by kernel_rfl)) (by unfold Func.isWrapper; first | (rw [if_pos (by decide +kernel)]; kernel_rfl) | (rw [if_neg (by decide +kernel)]; exact ⟨rfl, rfl⟩))
    (fun os started H enc _ => registryKnown_lifted os started H enc)

/-- ████ THE STATEMENT ████ -/
theorem registryKnown_proved : Rows.RegistryKnownSaid :=
  registryKnown_over
#print axioms registryKnown_proved
end Go.Proofs.YtngkglmcgboajaaGreat
