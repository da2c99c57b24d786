/- The walk of the statement 'ParseKnownCard' of 'YtbgihphpbmhalaaGreatDoor': the law's call returns true, by runs of the abstract machine in the kernel. No condition. -/
import Derived.Test.YtbgihphpbmhalaaGreatDoorTie
import Derived.Test.YtbgihphpbmhalaaGreatDoorCards
import Derived.Test.YtbgihphpbmhalaaGreatDoorAbs5
import Derived.Test.YtbgihphpbmhalaaGreatDoorAs
import Derived.WalkKit
import Derived.ProofKit
import Derived.OpenShut
import Derived.SevenTiedAt
import Derived.ChangeCalls
import Derived.Shelf.Strings.Search3
import Derived.Shelf.Vars
import Derived.Test.YtbgihphpbmhalaaGreatDoorParseKnownRun1
namespace Go.Proofs.YtbgihphpbmhalaaGreatDoor
open Go.ChangeShapes Go.WideShapes Go.ChangeAt Go.RowKit

theorem parseKnown_own : ownKnob Tryz.prog.godebug = none := by kernel_rfl

/-! ### the walk: a run in the kernel -/
noncomputable def parseKnown_M : List (FuncId × Abs.Memo) := [(9, parseKnown_m3), (9, parseKnown_m2), (14, parseKnown_m1), (14, parseKnown_m0)]
noncomputable def parseKnown_C : Abs.Ctx := Abs.mkCtx Tryz.prog (fun _ => false) parseKnown_absX parseKnown_M
theorem parseKnown_good : Abs.Good parseKnown_C := Abs.good_ofM (Abs.memos_of (M := parseKnown_M) ⟨parseKnown_ok3, parseKnown_ok2, parseKnown_ok1, parseKnown_ok0, trivial⟩) parseKnown_absValid parseKnown_absNum (Abs.ext_of parseKnown_absExt)
set_option maxRecDepth 100000 in
noncomputable def parseKnown_shs : List Abs.Sh := []
noncomputable def parseKnown_vars : List Abs.GV := [⟨1, 3, [.opq Abs.kInt 1]⟩, ⟨3, 70, [.opq Abs.kAny 3]⟩, ⟨4, 70, [.opq Abs.kAny 4]⟩, ⟨0, 110, [.iface 139 (.agg [.raw (.pointer (some ⟨7, 70, none⟩))])]⟩]
set_option maxRecDepth 100000 in
theorem parseKnown_absRun : Abs.R.chk Abs.retTrue (Abs.enterA parseKnown_C (Abs.runF parseKnown_C 1000000) 3 (Abs.absArgs parseKnown_shs parseKnown_C.nG) .normal none (Abs.Sv parseKnown_C.nG (Abs.shN parseKnown_shs) parseKnown_vars)) = true := by kernel_rfl
theorem parseKnown_walk (w : World) (V : Nat → Option Value) {args : Array Value} (hargs : Abs.shsOk parseKnown_shs args.toList) (hv : ∀ x ∈ parseKnown_vars, Abs.gvOk parseKnown_C (Abs.γA parseKnown_C.nG V (Abs.flat parseKnown_shs args.toList)) w x) :
    Calls Tryz.prog 3 args w fun e w' => e = .returned (.bool true) ∧ w.keptBut w' (fun _ => False) :=
  Abs.walk_vars parseKnown_good parseKnown_absMixed 1000000 (Abs.shN parseKnown_shs) parseKnown_shs parseKnown_vars V (by kernel_rfl) parseKnown_absRun w hargs hv

set_option maxRecDepth 100000 in
theorem parseKnown_door (os : Os) (args : Array Value) : laidMetH Tryz.prog Rows.parseKnownRow.laid ((World.doorLaid Tryz.prog 400 os).forCall (fun _ _ => 0) ⟨#[], args, []⟩).memory :=
  laidMetH_of_parts3 (fuel := 8) (laidMet_of_run' 8 (by kernel_rfl) (by kernel_rfl)) (by kernel_rfl) (by kernel_rfl)
set_option maxRecDepth 100000 in
theorem parseKnown_lifted (os : Os) (started : os.Started) (H : Type) (enc : TypeId × Value → H) :
    ReturnsInHanded {} Tryz.checked os 3 .any (fun w args => (Rows.parseKnownSpec.pre enc Tryz.prog Tryz.f3 Rows.parseKnownRow.domain false w args ∧ laidMetH Tryz.prog Rows.parseKnownRow.laid w) ∧ sizedMet enc Tryz.prog Tryz.f3 (OpenSpec.ofChange Rows.parseKnownSpec) false w args)
      (Rows.parseKnownSpec.post enc Tryz.prog Tryz.f3 false true false false) := by
  refine Abs.handed_and_shaped (C := Tryz.checked) (X := fun w _ => laidMetH Tryz.prog Rows.parseKnownRow.laid w) (fun _ _ _ hh h => h.of_heap hh) parseKnown_own started (by kernel_rfl) Tryz.func3
    (ChangeSpec.witness_shaped (enc := enc) (C := Tryz.checked) (os := os) (X := fun w _ => laidMetH Tryz.prog Rows.parseKnownRow.laid w) false (World.doorLaid Tryz.prog 400 os) #[] 8 rfl (World.shaped_of_RefB (by kernel_rfl) (by kernel_rfl)) (by kernel_rfl) (by kernel_rfl) (by kernel_rfl) (parseKnown_door os _)) ?_
  intro W base args ds gs before hval0 hW hcnd hsh hlaid
  have hval : ∀ (j : Nat) t v, Tryz.f3.params[j]? = some t → args[j]? = some v → Value.okWide Tryz.prog W .any base t v := hval0
  have hW' := hW
  obtain ⟨p, q, hA0, hV, rfl, hfz, hnd⟩ := hW
  have hA : DataW.TrodAll enc Tryz.prog W 0 (fun _ => true) true Tryz.f3.params.toList args.toList ds p := hA0
  rw [Tryz.params3] at hA hval
  obtain ⟨rfl, rfl, rfl⟩ := trodAll_none hA
  obtain ⟨rfl, rfl⟩ := trodVars_none hV
  clear hA0 hval0
  simp only [List.append_nil] at hW'
  obtain ⟨vs, m, hw, hv⟩ := Abs.int_of_shape (g := 1) (t := 3) hsh (by kernel_rfl) (by kernel_rfl)
    (Go.Proofs.cell_of_shapedOpen_int (zero := #[.int .i64 0]) (t := 3) hsh (of_decide_eq_true (by kernel_rfl)) (by kernel_rfl) rfl (by kernel_rfl) (by kernel_rfl) Tryz.underlying3)
  obtain ⟨vs3, z3, hw3, hv3⟩ := Abs.var_of_shape (g := 3) (t := 70) (z := .nilIface) hsh (by kernel_rfl) (by kernel_rfl)
  obtain ⟨u3, q3, hc3, -, -⟩ := Abs.laid_iface hlaid (n := "strconv.ErrSyntax") (List.mem_cons_of_mem _ (List.mem_cons_of_mem _ (List.mem_cons_of_mem _ (List.mem_cons_of_mem _ (List.mem_cons_of_mem _ List.mem_cons_self))))) (by kernel_rfl) (g := 3) (t := 70) (by kernel_rfl) (by kernel_rfl) Tryz.underlying70
  have ho3 : Abs.oneV z3 = true := by
    have e : some z3 = some (Value.iface u3 q3) := by rw [← hv3, ← hc3]; simp [World.cell?, hw3]
    rw [Option.some.inj e]; rfl
  obtain ⟨vs4, z4, hw4, hv4⟩ := Abs.var_of_shape (g := 4) (t := 70) (z := .nilIface) hsh (by kernel_rfl) (by kernel_rfl)
  obtain ⟨u4, q4, hc4, -, -⟩ := Abs.laid_iface hlaid (n := "strconv.ErrRange") (List.mem_cons_of_mem _ (List.mem_cons_of_mem _ (List.mem_cons_of_mem _ (List.mem_cons_of_mem _ List.mem_cons_self)))) (by kernel_rfl) (g := 4) (t := 70) (by kernel_rfl) (by kernel_rfl) Tryz.underlying70
  have ho4 : Abs.oneV z4 = true := by
    have e : some z4 = some (Value.iface u4 q4) := by rw [← hv4, ← hc4]; simp [World.cell?, hw4]
    rw [Option.some.inj e]; rfl
  obtain ⟨vs0, z0, hw0, hv0⟩ := Abs.var_of_shape (g := 0) (t := 110) (z := .nilIface) hsh (by kernel_rfl) (by kernel_rfl)
  have hc0 := Abs.laid_handle hlaid (n := "errors.errorType") (List.mem_cons_of_mem _ (List.mem_cons_of_mem _ (List.mem_cons_of_mem _ List.mem_cons_self))) (name := [101, 114, 114, 111, 114]) (by kernel_rfl) (by kernel_rfl) (g := 0) (R := 139) (E := 70) (by kernel_rfl) (by kernel_rfl) (by kernel_rfl) (v := .pointer (some ⟨7, 70, none⟩)) (by kernel_rfl)
  have ho0 : z0 = Value.iface 139 (.agg #[.pointer (some ⟨7, 70, none⟩)]) := by
    have e : some z0 = some (Value.iface 139 (.agg #[.pointer (some ⟨7, 70, none⟩)])) := by rw [← hv0, ← hc0]; simp [World.cell?, hw0]
    exact Option.some.inj e
  subst ho0
  refine (parseKnown_walk W (fun id => if id = 1 then some (.int .i64 m) else if id = 3 then some z3 else if id = 4 then some z4 else none) (args := #[]) (show Abs.shsOk parseKnown_shs [] from trivial) fun x hx => ?_).mono fun e W' ⟨he, hg⟩ => ?_
  · simp only [parseKnown_vars, List.mem_cons, List.not_mem_nil, or_false] at hx
    rcases hx with rfl | rfl | rfl | rfl
    · exact Abs.gv_one (by kernel_rfl) (by kernel_rfl) hw hv (Abs.conc_intVar (Nat.le_of_ble_eq_true (by kernel_rfl)) (by simp))
    · exact Abs.gv_one (by kernel_rfl) (by kernel_rfl) hw3 hv3 (Abs.conc_anyVar (Nat.le_of_ble_eq_true (by kernel_rfl)) (by simp) ho3)
    · exact Abs.gv_one (by kernel_rfl) (by kernel_rfl) hw4 hv4 (Abs.conc_anyVar (Nat.le_of_ble_eq_true (by kernel_rfl)) (by simp) ho4)
    · exact Abs.gv_one (by kernel_rfl) (by kernel_rfl) hw0 hv0 Abs.conc_handle
  subst he
  exact ⟨_, rfl, Abs.post_old (pa := []) (pv := []) hW' (fun _ _ _ => (trodAll_cons_mk (shut_bool Tryz.underlying4 _) trodAll_mk0)) (fun sp _ => rfl) (fun _ _ => rfl) rfl
    (Abs.kept_mono hg)⟩

end Go.Proofs.YtbgihphpbmhalaaGreatDoor
