/- The walk of the statement 'RegistryNoneUptoCard' of 'YtheiiffocibnoaaGreat': the law's call returns true at any term of a bounded bulk, by a run of the abstract machine in the kernel and the contract of term.Check. No condition. -/
import Derived.Test.YtheiiffocibnoaaGreatRows
import Derived.Test.YtheiiffocibnoaaGreatAbs6
import Derived.WalkKit
import Derived.ProofKit
import Derived.OpenShut
import Derived.SevenTiedAt
import Derived.ChangeCalls
import Derived.Shelf.Vars
import Derived.Test.YtheiiffocibnoaaGreatRegistryNoneCon
namespace Go.Proofs.YtheiiffocibnoaaGreat
open Go.ChangeShapes Go.WideShapes Go.ChangeAt Go.RowKit

theorem registryNone_own : ownKnob Tryz.prog.godebug = none := by kernel_rfl
noncomputable def registryNone_C : Abs.Ctx := Abs.mkCtx Tryz.prog (fun _ => false) registryNone_absX [] [Abs.conCheck Tryz.prog kU (Abs.pTerm kK kT kB)]
theorem registryNone_good : Abs.Good registryNone_C := (Abs.good_ofK (fun c hc => by cases hc with | head => exact registryNone_kcok | tail _ h => cases h) (fun _ h => by cases h) registryNone_absValid registryNone_absNum (Abs.ext_of registryNone_absExt))
noncomputable def registryNone_kl  : Nat → Abs.Fact := fun i => ([
  .rel "term" true (Abs.pTerm kK kT kB) [(.var 1), (.var 2), (.var 3), (.var 4)],
  .rel "args" false (Abs.pArgs kK kTs kN) [(.var 1), (.var 2), (.var 3), (.var 4)]] : List Abs.Fact).getD i (.tr (.bool true))
noncomputable def registryNone_klR : List (List Nat) := [[0, 1], [0, 1], [0, 1], [0, 1]]
set_option maxRecDepth 100000 in
theorem registryNone_absRun : Abs.R.res (fun _ => true) ((Abs.enterA registryNone_C (Abs.runF registryNone_C 1000000) 3 (Abs.argAVs registryNone_C [24] registryNone_C.nG) .normal none (Abs.SD registryNone_C [24] 0 3 kN)).bind (Abs.lookB Abs.retTrue)) = some (registryNone_klR.map fun r => r.map registryNone_kl) := by kernel_rfl
/-! how much a reading holds, in the rows' words -/
mutual
theorem registryNone_ub1 {H : Type} : ∀ d : DataW H, Abs.bulk d = Rows.uptoBulk d
  | .lit l => by cases l <;> rfl
  | .nil => rfl
  | .ptr d => by rw [Abs.bulk, Rows.uptoBulk, registryNone_ub1 d]
  | .slice e s => by rw [Abs.bulk, Rows.uptoBulk, registryNone_ub2 e, registryNone_ub2 s]
  | .agg p => by rw [Abs.bulk, Rows.uptoBulk, registryNone_ub2 p]
  | .iface _ d => by rw [Abs.bulk, Rows.uptoBulk, registryNone_ub1 d]
  | .map es => by rw [Abs.bulk, Rows.uptoBulk, registryNone_ub3 es]
  | .held _ => rfl
theorem registryNone_ub2 {H : Type} : ∀ l : List (DataW H), Abs.bulkAll l = Rows.uptoBulkAll l
  | [] => rfl
  | d :: r => by rw [Abs.bulkAll, Rows.uptoBulkAll, registryNone_ub1 d, registryNone_ub2 r]
theorem registryNone_ub3 {H : Type} : ∀ l : List (Lit × DataW H), Abs.bulkEntries l = Rows.uptoBulkEntries l
  | [] => rfl
  | x :: r => by rw [Abs.bulkEntries, Rows.uptoBulkEntries, registryNone_ub4 x, registryNone_ub3 r]
theorem registryNone_ub4 {H : Type} : ∀ x : Lit × DataW H, Abs.bulkEntry x = Rows.uptoBulkEntry x
  | (l, d) => by cases l <;> simp only [Abs.bulkEntry, Rows.uptoBulkEntry, registryNone_ub1 d]
end

set_option maxRecDepth 100000 in
theorem registryNone_lifted (os : Os) (started : os.Started) (H : Type) (enc : TypeId × Value → H) (F : Stop.Interp) :
    ReturnsInHanded {} Tryz.checked os 3 .any ((Rows.OpenSpec.upto Rows.registryNoneSpec).preRow enc Tryz.prog Tryz.f3 Rows.registryNoneUptoRow.domain false Rows.registryNoneUptoRow.laid) (((Rows.OpenSpec.upto Rows.registryNoneSpec).at F).post enc Tryz.prog Tryz.f3 false true false false) := by
  refine returnsInHanded_of_row (C := Tryz.checked) registryNone_own started (by kernel_rfl) Tryz.func3
    (Abs.witness_upto (C := Tryz.checked) (k := Rows.uptoSmall) rfl (World.laidAll Tryz.prog os Rows.registryNoneUptoRow.laid) #[.agg #[.int .i64 0, .int .i64 0, .string ⟨#[]⟩, .slice none 0 0]] 8 (World.laidAll_os _ _ _)
      (World.shaped_of_ZipB (by kernel_rfl) (by kernel_rfl)) (by kernel_rfl) (by kernel_rfl) (by kernel_rfl)
      (laidMetH_nil _ _)) ?_
  intro W base args ds gs before hval0 hW hcnd hcond hsz hlaid hsh _
  have hval : ∀ (j : Nat) t v, Tryz.f3.params[j]? = some t → args[j]? = some v → Value.okWide Tryz.prog W .any base t v := hval0
  have hW' := hW
  obtain ⟨p, q, hA0, hV, rfl, hfz, hnd⟩ := hW
  have hA : DataW.TrodAll enc Tryz.prog W 0 (fun _ => true) true Tryz.f3.params.toList args.toList ds p := hA0
  rw [Tryz.params3] at hA hval
  obtain ⟨rfl, rfl⟩ := trodVars_none hV
  have hb : Abs.bulkAll ds ≤ kN := by
    have h := hcond Rows.uptoSmall rfl
    rw [List.append_nil] at h
    rw [registryNone_ub2]
    exact of_decide_eq_true h
  have hA2 := hA
  obtain ⟨v1, d1, hv1, rfl, -⟩ := trodAll_one hA2
  clear hA0 hval0
  simp only [List.append_nil] at hW'
  obtain ⟨vs, m, hw, hv⟩ := Abs.int_of_shape (g := 0) (t := 3) hsh (by kernel_rfl) (by kernel_rfl)
    (Go.Proofs.cell_of_shapedOpen_int (zero := #[.int .i64 0]) (t := 3) hsh (of_decide_eq_true (by kernel_rfl)) (by kernel_rfl) rfl (by kernel_rfl) (by kernel_rfl) Tryz.underlying3)
  refine (Abs.walk_data registryNone_good registryNone_absMixed 1000000 (N := kN) (L := [24, 3, 9, 22]) (ts := [24]) (by kernel_rfl) (fun u hu => by simpa using List.mem_of_elem_eq_true (show List.elem u [24, 3, 9, 22] = true from by simp only [List.mem_cons, List.not_mem_nil, or_false] at hu; subst hu; rfl)) (by kernel_rfl) (by kernel_rfl) registryNone_absRun
    (Abs.unsats_of (F := registryNone_kl) (pats := [[0, 1]]) (fun p hp γ h => by
    simp only [List.mem_cons, List.not_mem_nil, or_false] at hp
    rcases hp with rfl
    · exact Abs.args_term kHK (h 1 (by simp)) (h 0 (by simp))) (by kernel_rfl))
    W hw hv hA (fun j t v h1 h2 => hval j t v (by rw [← Array.getElem?_toList]; exact h1) h2) hb).mono fun e W' ⟨he, hg⟩ => ?_
  subst he
  exact ⟨_, rfl, Abs.post_old (pa := p) (pv := []) hW' (fun _ _ _ => (trodAll_cons_mk (shut_bool Tryz.underlying4 _) trodAll_mk0)) (fun sp hsp => by rw [Tryz.params3]; exact Abs.args_stay (by kernel_rfl) hg (by kernel_rfl) hA (fun x hx => hW'.lt x hx) hsp) (fun _ _ => rfl) (List.append_nil p).symm
    (Abs.kept_mono hg)⟩

end Go.Proofs.YtheiiffocibnoaaGreat
