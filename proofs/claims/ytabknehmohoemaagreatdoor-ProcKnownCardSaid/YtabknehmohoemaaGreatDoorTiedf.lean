/- The sixth closed fact of the tie of 'YtabknehmohoemaaGreatDoor', piece by piece, by the kernel. No condition. -/
import Derived.Test.YtabknehmohoemaaGreatDoorTiedg
import Derived.Test.YtabknehmohoemaaGreatDoorTiedf1
import Derived.Test.YtabknehmohoemaaGreatDoorTiedf2
import Derived.Test.YtabknehmohoemaaGreatDoorTiedf3
import Derived.Test.YtabknehmohoemaaGreatDoorTiedf4
import Derived.Test.YtabknehmohoemaaGreatDoorTiedf5
import Derived.Test.YtabknehmohoemaaGreatDoorTiedf6
import Derived.Test.YtabknehmohoemaaGreatDoorTiedf7
import Derived.Test.YtabknehmohoemaaGreatDoorTiedf8
namespace Go.Proofs.YtabknehmohoemaaGreatDoor
open Go
theorem tie_c3 : Tryz.prog.callsLaidAlone 821 tieBody = true := by
  unfold Program.callsLaidAlone
  rw [tie_d1, tie_d2, tie_d3, tie_d4, tie_d5, Bool.or_true]
  rfl
theorem tie_one {x : String × DataW Unit} {k : LaidKind} (h1 : Tryz.prog.kindBase x.1 = some k) (h2 : (Tryz.prog.globalNamed x.1).isSome = true) (h3 : tieEntry (some k) ((Tryz.prog.globalNamed x.1).getD 0) x = true) :
    ((Tryz.prog.globalNamed x.1).any fun v => (tieStored.contains v == (Tryz.prog.kindBase x.1 != some .zero)) && callsFit tieBody v (Tryz.prog.kindBase x.1) &&
          ((tieBody.storedByHandle Tryz.prog).contains v == (Tryz.prog.kindBase x.1 == some .handle)) && (x.2.handleName?.isSome == (Tryz.prog.kindBase x.1 == some .handle || Tryz.prog.kindBase x.1 == some .funcs)) &&
          (Tryz.prog.kindBase x.1 != some .handle || handlePair x) && (x.2.funcsIn?.isSome == (Tryz.prog.kindBase x.1 == some .funcs)) && mapsFit tieBody v x.2 (Tryz.prog.kindBase x.1)) = true := by
  rw [h1]
  obtain ⟨v, hv⟩ := Option.isSome_iff_exists.1 h2
  rw [hv, Option.getD_some] at h3
  rw [hv, Option.any_some]
  unfold tieEntry at h3
  exact h3
theorem tie_named {P : Program} {g : FuncId} {laid : List (String × DataW Unit)} {code : Code} {stored : List Nat} (h0 : (P.funcs[g]?).bind (·.body) = some code) (h1 : code.laysInOrder [] = some stored) (h2 : (stored.eraseDups.length == stored.length) = true) (h3 : P.callsLaidAlone g code = true)
    (h4 : ∀ x ∈ laid, ((P.globalNamed x.1).any fun v => (stored.contains v == (P.kindBase x.1 != some .zero)) && callsFit code v (P.kindBase x.1) &&
          ((code.storedByHandle P).contains v == (P.kindBase x.1 == some .handle)) && (x.2.handleName?.isSome == (P.kindBase x.1 == some .handle || P.kindBase x.1 == some .funcs)) &&
          (P.kindBase x.1 != some .handle || handlePair x) && (x.2.funcsIn?.isSome == (P.kindBase x.1 == some .funcs)) && mapsFit code v x.2 (P.kindBase x.1)) = true) : varsNamedLaterB P g laid = true := by
  unfold varsNamedLaterB
  rw [h0]
  simp only
  rw [h1]
  simp only
  rw [h2, h3, Bool.true_and, Bool.true_and]
  exact List.all_eq_true.2 h4
set_option maxRecDepth 100000 in
theorem tie_t6 : varsNamedLaterB Tryz.prog (varsId Tryz.prog) tieLaid = true := by
  rw [tie_id]
  refine tie_named tie_c0 tie_c1 tie_c2 tie_c3 fun x hx => ?_
  have hx : x = ("strconv.ErrSyntax", Rows.laid_strconv_ErrSyntax) ∨ x = ("strconv.ErrRange", Rows.laid_strconv_ErrRange) ∨ x = ("internal/strconv.uint64pow10", Rows.laid_internal_strconv_uint64pow10) ∨ x = ("math/bits.deBruijn32tab", Rows.laid_math_bits_deBruijn32tab) ∨ x = ("math/bits.deBruijn64tab", Rows.laid_math_bits_deBruijn64tab) ∨ x = ("errors.errorType", Rows.laid_errors_errorType) := by simpa only [tieLaid, List.mem_cons, List.not_mem_nil, or_false] using hx
  rcases hx with rfl | rfl | rfl | rfl | rfl | rfl
  · exact tie_one (x := ("strconv.ErrSyntax", Rows.laid_strconv_ErrSyntax)) tie_k0 tie_g0 tie_e0
  · exact tie_one (x := ("strconv.ErrRange", Rows.laid_strconv_ErrRange)) tie_k1 tie_g1 tie_e1
  · exact tie_one (x := ("internal/strconv.uint64pow10", Rows.laid_internal_strconv_uint64pow10)) tie_k2 tie_g2 tie_e2
  · exact tie_one (x := ("math/bits.deBruijn32tab", Rows.laid_math_bits_deBruijn32tab)) tie_k3 tie_g3 tie_e3
  · exact tie_one (x := ("math/bits.deBruijn64tab", Rows.laid_math_bits_deBruijn64tab)) tie_k4 tie_g4 tie_e4
  · exact tie_one (x := ("errors.errorType", Rows.laid_errors_errorType)) tie_k5 tie_g5 tie_e5
end Go.Proofs.YtabknehmohoemaaGreatDoor
