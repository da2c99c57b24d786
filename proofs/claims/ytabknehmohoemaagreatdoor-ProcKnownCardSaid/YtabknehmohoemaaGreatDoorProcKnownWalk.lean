/- The walk of the statement 'ProcKnownCard' of 'YtabknehmohoemaaGreatDoor': the law's call returns true, by runs of the abstract machine in the kernel. No condition. -/
import Derived.Test.YtabknehmohoemaaGreatDoorRows
import Derived.Test.YtabknehmohoemaaGreatDoorCards
import Derived.Test.YtabknehmohoemaaGreatDoorAbs5
import Derived.Test.YtabknehmohoemaaGreatDoorAs
import Derived.WalkKit
import Derived.ProofKit
import Derived.OpenShut
import Derived.SevenTiedAt
import Derived.ChangeCalls
import Derived.Shelf.Strings.Search3
import Derived.Shelf.Vars
import Derived.Test.YtabknehmohoemaaGreatDoorProcKnownRun3
import Derived.Test.YtabknehmohoemaaGreatDoorProcKnownWitA
import Derived.Test.YtabknehmohoemaaGreatDoorProcKnownWitB
import Derived.Test.YtabknehmohoemaaGreatDoorProcKnownWitD
import Derived.Test.YtabknehmohoemaaGreatDoorTiedg
import Derived.Test.YtabknehmohoemaaGreatDoorProcKnownFacts1
namespace Go.Proofs.YtabknehmohoemaaGreatDoor
open Go.ChangeShapes Go.WideShapes Go.ChangeAt Go.RowKit

theorem procKnown_own : ownKnob Tryz.prog.godebug = none := by kernel_rfl

/-! ### the walk: a run in the kernel -/
noncomputable def procKnown_M : List (FuncId × Abs.Memo) := [(4, procKnown_m12), (7, procKnown_m6)]
noncomputable def procKnown_C : Abs.Ctx := Abs.mkCtx Tryz.prog (fun _ => false) procKnown_absX procKnown_M
theorem procKnown_good : Abs.Good procKnown_C := Abs.good_ofM (Abs.memos_of (M := procKnown_M) ⟨procKnown_ok12, procKnown_ok6, trivial⟩) procKnown_absValid procKnown_absNum (Abs.ext_of procKnown_absExt)
set_option maxRecDepth 100000 in
noncomputable def procKnown_shs : List Abs.Sh := []
noncomputable def procKnown_vars : List Abs.GV := [⟨1, 3, [.opq Abs.kInt 1]⟩, ⟨2, 250, [.opq Abs.kAny 2]⟩, ⟨3, 250, [.opq Abs.kAny 3]⟩, ⟨0, 327, [.iface 450 (.agg [.raw (.pointer (some ⟨7, 250, none⟩))])]⟩]
set_option maxRecDepth 100000 in
theorem procKnown_absRun : Abs.R.chk Abs.retTrue (Abs.enterA procKnown_C (Abs.runF procKnown_C 1000000) 3 (Abs.absArgs procKnown_shs procKnown_C.nG) .normal none (Abs.Sv procKnown_C.nG (Abs.shN procKnown_shs) procKnown_vars)) = true := by kernel_rfl
theorem procKnown_walk (w : World) (V : Nat → Option Value) {args : Array Value} (hargs : Abs.shsOk procKnown_shs args.toList) (hv : ∀ x ∈ procKnown_vars, Abs.gvOk procKnown_C (Abs.γA procKnown_C.nG V (Abs.flat procKnown_shs args.toList)) w x) :
    Calls Tryz.prog 3 args w fun e w' => e = .returned (.bool true) ∧ w.keptBut w' (fun _ => False) :=
  Abs.walk_vars procKnown_good procKnown_absMixed 1000000 (Abs.shN procKnown_shs) procKnown_shs procKnown_vars V (by kernel_rfl) procKnown_absRun w hargs hv

theorem procKnown_dl (os : Os) : World.doorLaid Tryz.prog 400 os = procKnown_dw os := by
  unfold World.doorLaid procKnown_dw
  rw [tie_id]
theorem procKnown_lop : laidOutB Tryz.prog = true := procKnown_lo
set_option maxHeartbeats 4000000 in
set_option maxRecDepth 100000 in
theorem procKnown_lifted (os : Os) (started : os.Started) (H : Type) (enc : TypeId × Value → H) :
    ReturnsInHanded {} Tryz.checked os 3 .any (fun w args => (Rows.procKnownSpec.pre enc Tryz.prog Tryz.f3 Rows.procKnownRow.domain false w args ∧ laidMetH Tryz.prog Rows.procKnownRow.laid w) ∧ sizedMet enc Tryz.prog Tryz.f3 (OpenSpec.ofChange Rows.procKnownSpec) false w args)
      (Rows.procKnownSpec.post enc Tryz.prog Tryz.f3 false true false false) := by
  refine Abs.handed_and_shaped (C := Tryz.checked) (X := fun w _ => laidMetH Tryz.prog Rows.procKnownRow.laid w) (fun _ _ _ hh h => h.of_heap hh) procKnown_own started (by as_aux_lemma => kernel_rfl) Tryz.func3
    (ChangeSpec.witness_shaped (enc := enc) (C := Tryz.checked) (os := os) (X := fun w _ => laidMetH Tryz.prog Rows.procKnownRow.laid w) false (procKnown_dw os) procKnown_zero 8 rfl
      (World.shaped_of_ZipB (procKnown_w1 os) (procKnown_w2 os)) (procKnown_w3 os) (procKnown_w4 os H enc) (procKnown_w5 os H enc) (procKnown_door os _)) ?_
  intro W base args ds gs before hval0 hW hcnd hsh hlaid
  have hval : ∀ (j : Nat) t v, Tryz.f3.params[j]? = some t → args[j]? = some v → Value.okWide Tryz.prog W .any base t v := hval0
  have hW' := hW
  obtain ⟨p, q, hA0, hV, rfl, hfz, hnd⟩ := hW
  have hA : DataW.TrodAll enc Tryz.prog W 0 (fun _ => true) true Tryz.f3.params.toList args.toList ds p := hA0
  rw [Tryz.params3] at hA hval
  obtain ⟨rfl, rfl, rfl⟩ := trodAll_none hA
  obtain ⟨rfl, rfl⟩ := trodVars_none hV
  clear hA0 hval0
  simp only [List.append_nil] at hW'
  obtain ⟨vs, m, hw, hv⟩ := Abs.int_of_shape (g := 1) (t := 3) hsh (by as_aux_lemma => kernel_rfl) (by as_aux_lemma => kernel_rfl)
    (Go.Proofs.cell_of_shapedOpen_int (zero := #[.int .i64 0]) (t := 3) hsh (of_decide_eq_true (by as_aux_lemma => kernel_rfl)) (by as_aux_lemma => kernel_rfl) rfl (by as_aux_lemma => kernel_rfl) (by as_aux_lemma => kernel_rfl) Tryz.underlying3)
  obtain ⟨vs2, z2, hw2, hv2⟩ := Abs.var_of_shape (g := 2) (t := 250) (z := .nilIface) hsh (by as_aux_lemma => kernel_rfl) (by as_aux_lemma => kernel_rfl)
  obtain ⟨u2, q2, hc2, -, -⟩ := Abs.laid_iface hlaid (n := "strconv.ErrSyntax") List.mem_cons_self (by as_aux_lemma => kernel_rfl) (g := 2) (t := 250) (by as_aux_lemma => kernel_rfl) (by as_aux_lemma => kernel_rfl) Tryz.underlying250
  have ho2 : Abs.oneV z2 = true := by
    have e : some z2 = some (Value.iface u2 q2) := by rw [← hv2, ← hc2]; simp [World.cell?, hw2]
    rw [Option.some.inj e]; rfl
  obtain ⟨vs3, z3, hw3, hv3⟩ := Abs.var_of_shape (g := 3) (t := 250) (z := .nilIface) hsh (by as_aux_lemma => kernel_rfl) (by as_aux_lemma => kernel_rfl)
  obtain ⟨u3, q3, hc3, -, -⟩ := Abs.laid_iface hlaid (n := "strconv.ErrRange") (List.mem_cons_of_mem _ List.mem_cons_self) (by as_aux_lemma => kernel_rfl) (g := 3) (t := 250) (by as_aux_lemma => kernel_rfl) (by as_aux_lemma => kernel_rfl) Tryz.underlying250
  have ho3 : Abs.oneV z3 = true := by
    have e : some z3 = some (Value.iface u3 q3) := by rw [← hv3, ← hc3]; simp [World.cell?, hw3]
    rw [Option.some.inj e]; rfl
  obtain ⟨vs0, z0, hw0, hv0⟩ := Abs.var_of_shape (g := 0) (t := 327) (z := .nilIface) hsh (by as_aux_lemma => kernel_rfl) (by as_aux_lemma => kernel_rfl)
  have hc0 := Abs.laid_handle hlaid (n := "errors.errorType") (List.mem_cons_of_mem _ (List.mem_cons_of_mem _ (List.mem_cons_of_mem _ (List.mem_cons_of_mem _ (List.mem_cons_of_mem _ List.mem_cons_self))))) (name := [101, 114, 114, 111, 114]) (by as_aux_lemma => kernel_rfl) (by as_aux_lemma => kernel_rfl) (g := 0) (R := 450) (E := 250) (by as_aux_lemma => kernel_rfl) (by as_aux_lemma => kernel_rfl) (by as_aux_lemma => kernel_rfl) (v := .pointer (some ⟨7, 250, none⟩)) (by as_aux_lemma => kernel_rfl)
  have ho0 : z0 = Value.iface 450 (.agg #[.pointer (some ⟨7, 250, none⟩)]) := by
    have e : some z0 = some (Value.iface 450 (.agg #[.pointer (some ⟨7, 250, none⟩)])) := by rw [← hv0, ← hc0]; simp [World.cell?, hw0]
    exact Option.some.inj e
  subst ho0
  refine (procKnown_walk W (fun id => if id = 1 then some (.int .i64 m) else if id = 2 then some z2 else if id = 3 then some z3 else none) (args := #[]) (show Abs.shsOk procKnown_shs [] from trivial) fun x hx => ?_).mono fun e W' ⟨he, hg⟩ => ?_
  · simp only [procKnown_vars, List.mem_cons, List.not_mem_nil, or_false] at hx
    rcases hx with rfl | rfl | rfl | rfl
    · exact Abs.gv_one (by as_aux_lemma => kernel_rfl) (by as_aux_lemma => kernel_rfl) hw hv (Abs.conc_intVar (Nat.le_of_ble_eq_true (by as_aux_lemma => kernel_rfl)) (by simp))
    · exact Abs.gv_one (by as_aux_lemma => kernel_rfl) (by as_aux_lemma => kernel_rfl) hw2 hv2 (Abs.conc_anyVar (Nat.le_of_ble_eq_true (by as_aux_lemma => kernel_rfl)) (by simp) ho2)
    · exact Abs.gv_one (by as_aux_lemma => kernel_rfl) (by as_aux_lemma => kernel_rfl) hw3 hv3 (Abs.conc_anyVar (Nat.le_of_ble_eq_true (by as_aux_lemma => kernel_rfl)) (by simp) ho3)
    · exact Abs.gv_one (by as_aux_lemma => kernel_rfl) (by as_aux_lemma => kernel_rfl) hw0 hv0 Abs.conc_handle
  subst he
  exact ⟨_, rfl, Abs.post_old (pa := []) (pv := []) hW' (fun _ _ _ => (trodAll_cons_mk (shut_bool Tryz.underlying4 _) trodAll_mk0)) (fun sp _ => rfl) (fun _ _ => rfl) rfl
    (Abs.kept_mono hg)⟩

end Go.Proofs.YtabknehmohoemaaGreatDoor
