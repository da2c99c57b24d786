/- The walk of the statement 'ScriptNoneCard' of 'YtojecidijdhggaaGreatDoor': the law's call returns true, by runs of the abstract machine in the kernel. No condition. -/
import Derived.Test.YtojecidijdhggaaGreatDoorRows
import Derived.Test.YtojecidijdhggaaGreatDoorCards
import Derived.Test.YtojecidijdhggaaGreatDoorAbs5
import Derived.WalkKit
import Derived.ProofKit
import Derived.OpenShut
import Derived.SevenTiedAt
import Derived.ChangeCalls
import Derived.Shelf.Strings.Search3
import Derived.Shelf.Vars
import Derived.Test.YtojecidijdhggaaGreatDoorScriptNoneBase
import Derived.Test.YtojecidijdhggaaGreatDoorScriptNoneWitA
import Derived.Test.YtojecidijdhggaaGreatDoorScriptNoneWitB
import Derived.Test.YtojecidijdhggaaGreatDoorScriptNoneWitC
import Derived.Test.YtojecidijdhggaaGreatDoorScriptNoneFacts1
namespace Go.Proofs.YtojecidijdhggaaGreatDoor
open Go.ChangeShapes Go.WideShapes Go.ChangeAt Go.RowKit

theorem scriptNone_own : ownKnob Tryz.prog.godebug = none := by kernel_rfl

/-! ### the walk: a run in the kernel -/
noncomputable def scriptNone_M : List (FuncId × Abs.Memo) := []
noncomputable def scriptNone_C : Abs.Ctx := Abs.mkCtx Tryz.prog (fun _ => false) scriptNone_absX scriptNone_M
theorem scriptNone_good : Abs.Good scriptNone_C := Abs.good_ofM (Abs.memos_of (M := scriptNone_M) trivial) scriptNone_absValid scriptNone_absNum (Abs.ext_of scriptNone_absExt)
set_option maxRecDepth 100000 in
noncomputable def scriptNone_shs : List Abs.Sh := [.str [Abs.kInt, Abs.kInt, Abs.kAny, Abs.kInt, Abs.kInt, Abs.kAny, Abs.kAny, Abs.kAny]]
noncomputable def scriptNone_vars : List Abs.GV := [⟨0, 3, [.opq Abs.kInt 0]⟩, ⟨1, 229, [.opq Abs.kAny 1]⟩, ⟨2, 229, [.opq Abs.kAny 2]⟩]
set_option maxRecDepth 100000 in
theorem scriptNone_absRun : Abs.R.chk Abs.retTrue (Abs.enterA scriptNone_C (Abs.runF scriptNone_C 1000000) 3 (Abs.absArgs scriptNone_shs scriptNone_C.nG) .normal none (Abs.Sv scriptNone_C.nG (Abs.shN scriptNone_shs) scriptNone_vars)) = true := by kernel_rfl
theorem scriptNone_walk (w : World) (V : Nat → Option Value) {args : Array Value} (hargs : Abs.shsOk scriptNone_shs args.toList) (hv : ∀ x ∈ scriptNone_vars, Abs.gvOk scriptNone_C (Abs.γA scriptNone_C.nG V (Abs.flat scriptNone_shs args.toList)) w x) :
    Calls Tryz.prog 3 args w fun e w' => e = .returned (.bool true) ∧ w.keptBut w' (fun _ => False) :=
  Abs.walk_vars scriptNone_good scriptNone_absMixed 1000000 (Abs.shN scriptNone_shs) scriptNone_shs scriptNone_vars V (by kernel_rfl) scriptNone_absRun w hargs hv

theorem scriptNone_lop : laidOutB Tryz.prog = true := scriptNone_lo
set_option maxHeartbeats 4000000 in
set_option maxRecDepth 100000 in
theorem scriptNone_lifted (os : Os) (started : os.Started) (H : Type) (enc : TypeId × Value → H) :
    ReturnsInHanded {} Tryz.checked os 3 .any (fun w args => (Rows.scriptNoneSpec.pre enc Tryz.prog Tryz.f3 Rows.scriptNoneRow.domain false w args ∧ laidMetH Tryz.prog Rows.scriptNoneRow.laid w) ∧ sizedMet enc Tryz.prog Tryz.f3 (OpenSpec.ofChange Rows.scriptNoneSpec) false w args)
      (Rows.scriptNoneSpec.post enc Tryz.prog Tryz.f3 false true false false) := by
  refine Abs.handed_and_shaped (C := Tryz.checked) (X := fun w _ => laidMetH Tryz.prog Rows.scriptNoneRow.laid w) (fun _ _ _ hh h => h.of_heap hh) scriptNone_own started (by as_aux_lemma => kernel_rfl) Tryz.func3
    (ChangeSpec.witness_shaped (enc := enc) (C := Tryz.checked) (os := os) (X := fun w _ => laidMetH Tryz.prog Rows.scriptNoneRow.laid w) false (World.laidAll Tryz.prog os Rows.scriptNoneRow.laid) scriptNone_zero 8 (World.laidAll_os _ _ _)
      (World.shaped_of_ZipB (scriptNone_w1 os) (scriptNone_w2 os)) (scriptNone_w3 os) (scriptNone_w4 os H enc) (scriptNone_w5 os H enc) (scriptNone_w9 os)) ?_
  intro W base args ds gs before hval0 hW hcnd hsh hlaid
  have hval : ∀ (j : Nat) t v, Tryz.f3.params[j]? = some t → args[j]? = some v → Value.okWide Tryz.prog W .any base t v := hval0
  have hW' := hW
  obtain ⟨p, q, hA0, hV, rfl, hfz, hnd⟩ := hW
  have hA : DataW.TrodAll enc Tryz.prog W 0 (fun _ => true) true Tryz.f3.params.toList args.toList ds p := hA0
  rw [Tryz.params3] at hA hval
  have hsh0 := Abs.shs_of (l := scriptNone_shs) (ts := [26]) (by as_aux_lemma => kernel_rfl) (Go.trodAll_length hA).1 fun j t v h1 h2 => hval j t v (by rw [← Array.getElem?_toList]; exact h1) (by rw [← Array.getElem?_toList]; exact h2)
  have hA2 := hA
  obtain ⟨v1, d1, rfl, rfl, -⟩ := trodAll_one hA2
  obtain ⟨rfl, rfl⟩ := trodVars_none hV
  clear hA0 hval0
  simp only [List.append_nil] at hW'
  obtain ⟨vs, m, hw, hv⟩ := Abs.int_of_shape (g := 0) (t := 3) hsh (by as_aux_lemma => kernel_rfl) (by as_aux_lemma => kernel_rfl)
    (Go.Proofs.cell_of_shapedOpen_int (zero := #[.int .i64 0]) (t := 3) hsh (of_decide_eq_true (by as_aux_lemma => kernel_rfl)) (by as_aux_lemma => kernel_rfl) rfl (by as_aux_lemma => kernel_rfl) (by as_aux_lemma => kernel_rfl) Tryz.underlying3)
  obtain ⟨vs1, z1, hw1, hv1⟩ := Abs.var_of_shape (g := 1) (t := 229) (z := .nilIface) hsh (by as_aux_lemma => kernel_rfl) (by as_aux_lemma => kernel_rfl)
  obtain ⟨u1, q1, hc1, -, -⟩ := Abs.laid_iface hlaid (n := "strconv.ErrSyntax") (List.mem_cons_of_mem _ (List.mem_cons_of_mem _ (List.mem_cons_of_mem _ List.mem_cons_self))) (by as_aux_lemma => kernel_rfl) (g := 1) (t := 229) (by as_aux_lemma => kernel_rfl) (by as_aux_lemma => kernel_rfl) Tryz.underlying229
  have ho1 : Abs.oneV z1 = true := by
    have e : some z1 = some (Value.iface u1 q1) := by rw [← hv1, ← hc1]; simp [World.cell?, hw1]
    rw [Option.some.inj e]; rfl
  obtain ⟨vs2, z2, hw2, hv2⟩ := Abs.var_of_shape (g := 2) (t := 229) (z := .nilIface) hsh (by as_aux_lemma => kernel_rfl) (by as_aux_lemma => kernel_rfl)
  obtain ⟨u2, q2, hc2, -, -⟩ := Abs.laid_iface hlaid (n := "strconv.ErrRange") (List.mem_cons_of_mem _ (List.mem_cons_of_mem _ (List.mem_cons_of_mem _ (List.mem_cons_of_mem _ List.mem_cons_self)))) (by as_aux_lemma => kernel_rfl) (g := 2) (t := 229) (by as_aux_lemma => kernel_rfl) (by as_aux_lemma => kernel_rfl) Tryz.underlying229
  have ho2 : Abs.oneV z2 = true := by
    have e : some z2 = some (Value.iface u2 q2) := by rw [← hv2, ← hc2]; simp [World.cell?, hw2]
    rw [Option.some.inj e]; rfl
  refine (scriptNone_walk W (fun id => if id = 0 then some (.int .i64 m) else if id = 1 then some z1 else if id = 2 then some z2 else none) hsh0 fun x hx => ?_).mono fun e W' ⟨he, hg⟩ => ?_
  · simp only [scriptNone_vars, List.mem_cons, List.not_mem_nil, or_false] at hx
    rcases hx with rfl | rfl | rfl
    · exact Abs.gv_one (by as_aux_lemma => kernel_rfl) (by as_aux_lemma => kernel_rfl) hw hv (Abs.conc_intVar (Nat.le_of_ble_eq_true (by as_aux_lemma => kernel_rfl)) (by simp))
    · exact Abs.gv_one (by as_aux_lemma => kernel_rfl) (by as_aux_lemma => kernel_rfl) hw1 hv1 (Abs.conc_anyVar (Nat.le_of_ble_eq_true (by as_aux_lemma => kernel_rfl)) (by simp) ho1)
    · exact Abs.gv_one (by as_aux_lemma => kernel_rfl) (by as_aux_lemma => kernel_rfl) hw2 hv2 (Abs.conc_anyVar (Nat.le_of_ble_eq_true (by as_aux_lemma => kernel_rfl)) (by simp) ho2)
  subst he
  exact ⟨_, rfl, Abs.post_old (pa := p) (pv := []) hW' (fun _ _ _ => (trodAll_cons_mk (shut_bool Tryz.underlying4 _) trodAll_mk0)) (fun sp hsp => by rw [Tryz.params3]; exact Abs.args_stay scriptNone_lop hg (by as_aux_lemma => kernel_rfl) hA (fun x hx => hW'.lt x hx) hsp) (fun _ _ => rfl) (List.append_nil p).symm
    (Abs.kept_mono hg)⟩

end Go.Proofs.YtojecidijdhggaaGreatDoor
