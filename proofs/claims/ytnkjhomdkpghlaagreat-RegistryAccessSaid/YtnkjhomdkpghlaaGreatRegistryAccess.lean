/- The statement 'RegistryAccess' of 'YtnkjhomdkpghlaaGreat' is proved: whatever the input, the law's call returns true, and the input reads as it did. No condition of ours: by runs of the abstract machine in the kernel, which is proved to carry out what the model does; term.Check, tenurekit.size and term.Copy by contracts, each proved by induction. -/
import Derived.Test.YtnkjhomdkpghlaaGreatRegistryAccessRun1
import Derived.Test.YtnkjhomdkpghlaaGreatRegistryAccessRun2
import Derived.Test.YtnkjhomdkpghlaaGreatRegistryAccessRun3
import Derived.Test.YtnkjhomdkpghlaaGreatRegistryAccessRun4
import Derived.Test.YtnkjhomdkpghlaaGreatRegistryAccessRun5
import Derived.Test.YtnkjhomdkpghlaaGreatRegistryAccessRun6
import Derived.Test.YtnkjhomdkpghlaaGreatRegistryAccessRun7
import Derived.Test.YtnkjhomdkpghlaaGreatRegistryAccessRun8
import Derived.Test.YtnkjhomdkpghlaaGreatRegistryAccessRun9
import Derived.WalkKit
import Derived.ProofKit
import Derived.OpenShut
import Derived.JoinedOf
namespace Go.Proofs.YtnkjhomdkpghlaaGreat
open Go.ChangeShapes Go.WideShapes Go.ChangeAt Go.RowKit

theorem registryAccess_own : ownKnob Tryz.prog.godebug = none := by kernel_rfl
noncomputable def ra_cases : List Abs.Case := [ra_c0, ra_c1, ra_c2, ra_c3, ra_c4, ra_c5, ra_c6, ra_c7, ra_c8, ra_c9, ra_c10, ra_c11, ra_c12, ra_c13, ra_c14, ra_c15, ra_c16, ra_c17, ra_c18, ra_c19, ra_c20, ra_c21, ra_c22, ra_c23, ra_c24, ra_c25, ra_c26, ra_c27, ra_c28, ra_c29, ra_c30, ra_c31, ra_c32, ra_c33, ra_c34, ra_c35, ra_c36, ra_c37, ra_c38, ra_c39]
theorem ra_prod : Abs.prodC [Abs.litG 0 [1, 2, 3, 4], Abs.litG 2 [1, 2, 3], Abs.boolG 3] = ra_cases := rfl
theorem ra_cover (N : Nat) (γ : Abs.G) (h : (Abs.argFact (ra_C N) kTs N).holds γ) : ∃ c ∈ ra_cases, c.holds γ := by
  rw [← ra_prod]
  have c0 := Abs.args_cell h (i := 0) (k := .int .i64) (by kernel_rfl) (x := .var 0) (by kernel_rfl)
  have c2 := Abs.args_cell h (i := 2) (k := .int .i64) (by kernel_rfl) (x := .var 2) (by kernel_rfl)
  have c3 := Abs.args_cell h (i := 3) (k := .bool) (by kernel_rfl) (x := .var 3) (by kernel_rfl)
  obtain ⟨d0, h0, n0, rfl⟩ := c0
  obtain ⟨d2, h2, n2, rfl⟩ := c2
  obtain ⟨d3, h3, b3, rfl⟩ := c3
  refine Abs.prodC_holds fun g hg => ?_
  simp only [List.mem_cons, List.not_mem_nil, or_false] at hg
  rcases hg with rfl | rfl | rfl
  · exact Abs.litG_holds h0 _
  · exact Abs.litG_holds h2 _
  · exact Abs.boolG_holds h3
theorem ra_runs (N : Nat) : ∀ c ∈ ra_cases, ∃ l, Abs.runCase (ra_C N) 1000000 3 kTs N c = some l ∧ Abs.Unsats l := by
  intro c hc
  simp only [ra_cases, List.mem_cons, List.not_mem_nil, or_false] at hc
  rcases hc with rfl | rfl | rfl | rfl | rfl | rfl | rfl | rfl | rfl | rfl | rfl | rfl | rfl | rfl | rfl | rfl | rfl | rfl | rfl | rfl | rfl | rfl | rfl | rfl | rfl | rfl | rfl | rfl | rfl | rfl | rfl | rfl | rfl | rfl | rfl | rfl | rfl | rfl | rfl | rfl
  · exact ⟨_, ra_r0 N, ra_u0 N⟩
  · exact ⟨_, ra_r1 N, ra_u1 N⟩
  · exact ⟨_, ra_r2 N, ra_u2 N⟩
  · exact ⟨_, ra_r3 N, ra_u1 N⟩
  · exact ⟨_, ra_r4 N, ra_u2 N⟩
  · exact ⟨_, ra_r5 N, ra_u1 N⟩
  · exact ⟨_, ra_r6 N, ra_u3 N⟩
  · exact ⟨_, ra_r7 N, ra_u3 N⟩
  · exact ⟨_, ra_r8 N, ra_u4 N⟩
  · exact ⟨_, ra_r9 N, ra_u5 N⟩
  · exact ⟨_, ra_r10 N, ra_u6 N⟩
  · exact ⟨_, ra_r11 N, ra_u5 N⟩
  · exact ⟨_, ra_r12 N, ra_u6 N⟩
  · exact ⟨_, ra_r13 N, ra_u5 N⟩
  · exact ⟨_, ra_r14 N, ra_u3 N⟩
  · exact ⟨_, ra_r15 N, ra_u3 N⟩
  · exact ⟨_, ra_r16 N, ra_u0 N⟩
  · exact ⟨_, ra_r17 N, ra_u1 N⟩
  · exact ⟨_, ra_r18 N, ra_u2 N⟩
  · exact ⟨_, ra_r19 N, ra_u1 N⟩
  · exact ⟨_, ra_r20 N, ra_u2 N⟩
  · exact ⟨_, ra_r21 N, ra_u1 N⟩
  · exact ⟨_, ra_r22 N, ra_u3 N⟩
  · exact ⟨_, ra_r23 N, ra_u3 N⟩
  · exact ⟨_, ra_r24 N, ra_u0 N⟩
  · exact ⟨_, ra_r25 N, ra_u1 N⟩
  · exact ⟨_, ra_r26 N, ra_u2 N⟩
  · exact ⟨_, ra_r27 N, ra_u1 N⟩
  · exact ⟨_, ra_r28 N, ra_u2 N⟩
  · exact ⟨_, ra_r29 N, ra_u1 N⟩
  · exact ⟨_, ra_r30 N, ra_u3 N⟩
  · exact ⟨_, ra_r31 N, ra_u3 N⟩
  · exact ⟨_, ra_r32 N, ra_u7 N⟩
  · exact ⟨_, ra_r33 N, ra_u7 N⟩
  · exact ⟨_, ra_r34 N, ra_u7 N⟩
  · exact ⟨_, ra_r35 N, ra_u7 N⟩
  · exact ⟨_, ra_r36 N, ra_u7 N⟩
  · exact ⟨_, ra_r37 N, ra_u7 N⟩
  · exact ⟨_, ra_r38 N, ra_u8 N⟩
  · exact ⟨_, ra_r39 N, ra_u8 N⟩

set_option maxRecDepth 100000 in
theorem registryAccess_lifted (os : Os) (started : os.Started) (H : Type) (enc : TypeId × Value → H) :
    ReturnsInHanded {} Tryz.checked os 3 .any (Rows.registryAccessSpec.pre6 enc Tryz.prog Tryz.f3 Rows.registryAccessRow.domain false) (Rows.registryAccessSpec.post enc Tryz.prog Tryz.f3 false true false false) := by
  refine returnsInHanded_of_change (C := Tryz.checked) registryAccess_own started (by kernel_rfl) Tryz.func3
    (ChangeSpec.witness6 (enc := enc) (C := Tryz.checked) false ⟨#[], #[.agg #[.int .i64 0, .int .i64 0, .int .i64 0, .bool false, .string ⟨#[]⟩, .int .i64 0, .int .i64 0, .int .i64 0, .string ⟨#[]⟩, .slice none 0 0], .int .i64 0, .int .i64 0, .agg #[.int .i64 0, .int .i64 0, .string ⟨#[]⟩, .slice none 0 0]], []⟩ 8 (by kernel_rfl) (by kernel_rfl) (by kernel_rfl) (by kernel_rfl)) ?_
  intro W base args ds gs before hval0 hW hcnd _
  have hval : ∀ (j : Nat) t v, Tryz.f3.params[j]? = some t → args[j]? = some v → Value.okWide Tryz.prog W .any base t v := hval0
  have hW' := hW
  obtain ⟨p, q, hA0, hV, rfl, hfz, hnd⟩ := hW
  have hA : DataW.TrodAll enc Tryz.prog W 0 (fun _ => true) true Tryz.f3.params.toList args.toList ds p := hA0
  rw [Tryz.params3] at hA hval
  obtain ⟨rfl, rfl⟩ := trodVars_none hV
  have hA2 := hA
  obtain ⟨v1, r1, d1, e1, p1, q1, -, rfl, -, -, hA2⟩ := trodAll_cons hA2
  obtain ⟨v2, r2, d2, e2, p2, q2, -, rfl, -, -, hA2⟩ := trodAll_cons hA2
  obtain ⟨v3, r3, d3, e3, p3, q3, -, rfl, -, -, hA2⟩ := trodAll_cons hA2
  obtain ⟨v4, r4, d4, e4, p4, q4, -, rfl, -, -, hA2⟩ := trodAll_cons hA2
  obtain ⟨-, rfl, -⟩ := trodAll_nil hA2
  clear hA0 hval0
  simp only [List.append_nil] at hW'
  refine (Abs.walk_data0C (ra_good (Abs.bulkAll [d1, d2, d3, d4])) ra_absMixed 1000000 (N := Abs.bulkAll [d1, d2, d3, d4]) (L := [26, 3, 4, 9, 24, 22]) (ts := kTs) (by kernel_rfl) (fun u hu => by
      simp only [kTs, List.mem_cons, List.not_mem_nil, or_false] at hu
      rcases hu with rfl | rfl | rfl | rfl <;> simp)
    (ra_cover _) (ra_runs _) W hA (fun j t v h1 h2 => hval j t v (by rw [← Array.getElem?_toList]; exact h1) h2) (Nat.le_refl _)).mono fun e W' ⟨he, hg⟩ => ?_
  subst he
  exact ⟨_, rfl, Abs.post_old (pa := p) (pv := []) hW' (fun _ _ _ => (trodAll_cons_mk (shut_bool Tryz.underlying4 _) trodAll_mk0)) (fun sp hsp => by rw [Tryz.params3]; exact Abs.args_stay (by kernel_rfl) hg (by kernel_rfl) hA (fun x hx => hW'.lt x hx) hsp) (fun _ _ => rfl) (List.append_nil p).symm
    (Abs.kept_mono hg)⟩

theorem registryAccess_over : Rows.registryAccessRow.holds Tryz.pinned (OpenSpec.ofChange Rows.registryAccessSpec) :=
  OpenClaim.holds_of_wide 3 Tryz.f3 rfl rfl rfl rfl rfl rfl rfl ⟨rfl, rfl, rfl, rfl, rfl⟩ rfl rfl rfl rfl rfl (by kernel_rfl) Tryz.func3 (by kernel_rfl)
    (of_decide_eq_true (by kernel_rfl)) (by unfold Func.isWrapper; first | (rw [if_pos (by decide +kernel)]; kernel_rfl) | (rw [if_neg (by decide +kernel)]; exact ⟨rfl, rfl⟩))
    (fun os started H enc _ => registryAccess_lifted os started H enc)

/-- ████ THE STATEMENT ████ -/
theorem registryAccess_proved : Rows.RegistryAccessSaid :=
  registryAccess_over
#print axioms registryAccess_proved
end Go.Proofs.YtnkjhomdkpghlaaGreat
