/- The walk of the statement 'EvalCatchesCard' of 'YtkgnlfmfenmihaaGreatDoor': the law's call returns true, by runs of the abstract machine in the kernel. No condition. -/
import Derived.Test.YtkgnlfmfenmihaaGreatDoorTie
import Derived.Test.YtkgnlfmfenmihaaGreatDoorCards
import Derived.Test.YtkgnlfmfenmihaaGreatDoorEvalCatchesCon
import Derived.WalkKit
import Derived.ProofKit
import Derived.OpenShut
import Derived.SevenTiedAt
import Derived.ChangeCalls
import Derived.Shelf.Strings.Search3
import Derived.Shelf.Vars
import Derived.Test.YtkgnlfmfenmihaaGreatDoorEvalCatchesRun4
import Derived.Test.YtkgnlfmfenmihaaGreatDoorEvalCatchesObl
namespace Go.Proofs.YtkgnlfmfenmihaaGreatDoor
open Go.ChangeShapes Go.WideShapes Go.ChangeAt Go.RowKit

theorem evalCatches_own : ownKnob Tryz.prog.godebug = none := by kernel_rfl
noncomputable def evalCatches_M : List (FuncId × Abs.Memo) := [(13, evalCatches_m9), (6, evalCatches_m3)]
noncomputable def evalCatches_C (N : Nat) : Abs.Ctx := Abs.j1i Tryz.prog (fun _ => false) evalCatches_absX evalCatches_M [Abs.conCheckA Tryz.prog kU (Abs.j0r kK kT kB) Abs.j3a, Abs.conSize Tryz.prog kU kA "terms" (Abs.j0r kK kT (N + 1)) Abs.pMost (Abs.pSz kT), Abs.conCopy Tryz.prog kU kA "term" (Abs.j0r kK kT kB) (Abs.pCop kK kT), Abs.conTupB Tryz.prog kU (Abs.j0r kK kT kB) Abs.j3a Abs.pAtom, Abs.conSame Tryz.prog kU 27 27 "al" (Abs.pAl kK kT 1073741824)]
theorem evalCatches_good (N : Nat) : Abs.Good (evalCatches_C N) := Abs.j3g (fun c h => by cases h with | head => exact ec_kcok | tail _ h => cases h with | head => exact ec_ksok (N + 1) | tail _ h => cases h with | head => exact ec_kdok kB (of_decide_eq_true (by kernel_rfl)) | tail _ h => cases h with | head => exact ec_ktok | tail _ h => cases h with | head => exact ec_kalok 1073741824 (Nat.le_refl _) | tail _ h => cases h) (Abs.j3y (M := evalCatches_M) ⟨evalCatches_ok9, evalCatches_ok3, trivial⟩) j0l j0t (Abs.j3p evalCatches_absExt)
noncomputable def evalCatches_vars : List Abs.GV := [⟨1, 3, [.opq (.int .i64) (.var 1)]⟩, ⟨2, 114, [.opq .any (.var 2)]⟩, ⟨3, 114, [.opq .any (.var 3)]⟩]
set_option maxRecDepth 100000 in
theorem evalCatches_absRun (N : Nat) : Abs.R.res (fun _ => true) ((Abs.j4h (evalCatches_C N) (Abs.runF (evalCatches_C N) 1000000) 3 (Abs.argAVs (evalCatches_C N) kTs (evalCatches_C N).nG) .normal none (Abs.SDv (evalCatches_C N) kTs N evalCatches_vars)).bind Abs.lookT) = some (evalCatches_kaR.map fun r => r.map (evalCatches_ka N)) := by kernel_rfl
set_option maxRecDepth 100000 in
theorem evalCatches_door (os : Os) (args : Array Value) : laidMetH Tryz.prog Rows.evalCatchesRow.laid ((World.doorLaid Tryz.prog 400 os).forCall (fun _ _ => 0) ⟨#[], args, []⟩).memory :=
  laidMetH_of_parts3 (fuel := 8) (laidMet_of_run' 8 (by kernel_rfl) (by kernel_rfl)) (by kernel_rfl) (by kernel_rfl)
set_option maxRecDepth 100000 in
theorem evalCatches_lifted (os : Os) (started : os.Started) (H : Type) (enc : TypeId × Value → H) :
    ReturnsInHanded {} Tryz.checked os 3 .any (fun w args => (Rows.evalCatchesSpec.pre enc Tryz.prog Tryz.f3 Rows.evalCatchesRow.domain false w args ∧ laidMetH Tryz.prog Rows.evalCatchesRow.laid w) ∧ sizedMet enc Tryz.prog Tryz.f3 (OpenSpec.ofChange Rows.evalCatchesSpec) false w args)
      (Rows.evalCatchesSpec.post enc Tryz.prog Tryz.f3 false true false false) := by
  refine Abs.handed_and_shaped (C := Tryz.checked) (X := fun w _ => laidMetH Tryz.prog Rows.evalCatchesRow.laid w) (fun _ _ _ hh h => h.of_heap hh) evalCatches_own started (by kernel_rfl) Tryz.func3
    (ChangeSpec.witness_shaped (enc := enc) (C := Tryz.checked) (os := os) (X := fun w _ => laidMetH Tryz.prog Rows.evalCatchesRow.laid w) false (World.doorLaid Tryz.prog 400 os) #[.agg #[.int .i64 0, .int .i64 0, .string ⟨#[]⟩, .slice none 0 0], .string ⟨#[]⟩] 8 rfl (World.shaped_of_RefB (by kernel_rfl) (by kernel_rfl)) (by kernel_rfl) (by kernel_rfl) (by kernel_rfl) (evalCatches_door os _)) ?_
  intro W base args ds gs before hval0 hW hcnd hsh hlaid
  have hval : ∀ (j : Nat) t v, Tryz.f3.params[j]? = some t → args[j]? = some v → Value.okWide Tryz.prog W .any base t v := hval0
  have hW' := hW
  obtain ⟨p, q, hA0, hV, rfl, hfz, hnd⟩ := hW
  have hA : DataW.TrodAll enc Tryz.prog W 0 (fun _ => true) true Tryz.f3.params.toList args.toList ds p := hA0
  rw [Tryz.params3] at hA hval
  obtain ⟨rfl, rfl⟩ := trodVars_none hV
  have hA2 := hA
  obtain ⟨v1, r1, d1, e1, p1, q1, -, rfl, -, -, hA2⟩ := trodAll_cons hA2
  obtain ⟨v2, r2, d2, e2, p2, q2, -, rfl, -, -, hA2⟩ := trodAll_cons hA2
  obtain ⟨-, rfl, -⟩ := trodAll_nil hA2
  clear hA0 hval0
  simp only [List.append_nil] at hW'
  obtain ⟨vs, m, hw, hv⟩ := Abs.int_of_shape (g := 1) (t := 3) hsh (by kernel_rfl) (by kernel_rfl)
    (Go.Proofs.cell_of_shapedOpen_int (zero := #[.int .i64 0]) (t := 3) hsh (of_decide_eq_true (by kernel_rfl)) (by kernel_rfl) rfl (by kernel_rfl) (by kernel_rfl) Tryz.underlying3)
  obtain ⟨vs2, z2, hw2, hv2⟩ := Abs.var_of_shape (g := 2) (t := 114) (z := .nilIface) hsh (by kernel_rfl) (by kernel_rfl)
  obtain ⟨u2, q2, hc2, -, -⟩ := Abs.laid_iface hlaid (n := "strconv.ErrSyntax") (List.mem_cons_of_mem _ (List.mem_cons_of_mem _ (List.mem_cons_of_mem _ (List.mem_cons_of_mem _ (List.mem_cons_of_mem _ List.mem_cons_self))))) (by kernel_rfl) (g := 2) (t := 114) (by kernel_rfl) (by kernel_rfl) Tryz.underlying114
  have ho2 : Abs.oneV z2 = true := by
    have e : some z2 = some (Value.iface u2 q2) := by rw [← hv2, ← hc2]; simp [World.cell?, hw2]
    rw [Option.some.inj e]; rfl
  obtain ⟨vs3, z3, hw3, hv3⟩ := Abs.var_of_shape (g := 3) (t := 114) (z := .nilIface) hsh (by kernel_rfl) (by kernel_rfl)
  obtain ⟨u3, q3, hc3, -, -⟩ := Abs.laid_iface hlaid (n := "strconv.ErrRange") (List.mem_cons_of_mem _ (List.mem_cons_of_mem _ (List.mem_cons_of_mem _ (List.mem_cons_of_mem _ List.mem_cons_self)))) (by kernel_rfl) (g := 3) (t := 114) (by kernel_rfl) (by kernel_rfl) Tryz.underlying114
  have ho3 : Abs.oneV z3 = true := by
    have e : some z3 = some (Value.iface u3 q3) := by rw [← hv3, ← hc3]; simp [World.cell?, hw3]
    rw [Option.some.inj e]; rfl
  refine (Abs.walk_dataV (evalCatches_good (Abs.j3t [d1, d2])) j0k 1000000 (N := Abs.j3t [d1, d2]) (L := [24, 3, 9, 22]) (ts := kTs) (by kernel_rfl) (fun u hu => by
      simp only [kTs, List.mem_cons, List.not_mem_nil, or_false] at hu
      rcases hu with rfl | rfl <;> simp) evalCatches_vars (fun id => if id = 1 then some (.int .i64 m) else if id = 2 then some z2 else if id = 3 then some z3 else none)
    (evalCatches_absRun _) (evalCatches_uns _) W hA (fun j t v h1 h2 => hval j t v (by rw [← Array.getElem?_toList]; exact h1) h2) (Nat.le_refl _)
    (fun gg v hgg => by
      by_cases h0 : gg = 1
      · rw [if_pos h0] at hgg; obtain rfl := Option.some.inj hgg; rfl
      rw [if_neg h0] at hgg
      by_cases h1 : gg = 2
      · rw [if_pos h1] at hgg; obtain rfl := Option.some.inj hgg; exact ho2
      rw [if_neg h1] at hgg
      by_cases h2 : gg = 3
      · rw [if_pos h2] at hgg; obtain rfl := Option.some.inj hgg; exact ho3
      rw [if_neg h2] at hgg
      cases hgg)
    (fun Ld x hx => by
      simp only [evalCatches_vars, List.mem_cons, List.not_mem_nil, or_false] at hx
      rcases hx with rfl | rfl | rfl
      · exact Abs.gv_one (by kernel_rfl) (by kernel_rfl) hw hv (Abs.conc_intVar (Nat.le_of_ble_eq_true (by kernel_rfl)) (by simp))
      · exact Abs.gv_one (by kernel_rfl) (by kernel_rfl) hw2 hv2 (Abs.conc_anyVar (Nat.le_of_ble_eq_true (by kernel_rfl)) (by simp) ho2)
      · exact Abs.gv_one (by kernel_rfl) (by kernel_rfl) hw3 hv3 (Abs.conc_anyVar (Nat.le_of_ble_eq_true (by kernel_rfl)) (by simp) ho3))).mono fun e W' ⟨he, hg⟩ => ?_
  subst he
  exact ⟨_, rfl, Abs.post_old (pa := p) (pv := []) hW' (fun _ _ _ => (trodAll_cons_mk (shut_bool Tryz.underlying4 _) trodAll_mk0)) (fun sp hsp => by rw [Tryz.params3]; exact Abs.args_stay (by kernel_rfl) hg (by kernel_rfl) hA (fun x hx => hW'.lt x hx) hsp) (fun _ _ => rfl) (List.append_nil p).symm
    (Abs.kept_mono hg)⟩

end Go.Proofs.YtkgnlfmfenmihaaGreatDoor
