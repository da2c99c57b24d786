/- The sixth closed fact of the tie of 'YtabknehmohoemaaGreatDoor', piece by piece, by the kernel. No condition. -/
import Derived.Test.YtabknehmohoemaaGreatDoorTiedd
namespace Go.Proofs.YtabknehmohoemaaGreatDoor
open Go
noncomputable def tieBody : Code := ((Tryz.prog.funcs[821]?).bind (·.body)).getD default
noncomputable def tieStored : List Nat := (tieBody.laysInOrder []).getD []
noncomputable def tieEntry (k : Option LaidKind) (v : Nat) (x : String × DataW Unit) : Bool :=
  (tieStored.contains v == (k != some .zero)) && callsFit tieBody v k &&
    ((tieBody.storedByHandle Tryz.prog).contains v == (k == some .handle)) && (x.2.handleName?.isSome == (k == some .handle || k == some .funcs)) &&
    (k != some .handle || handlePair x) && (x.2.funcsIn?.isSome == (k == some .funcs)) && mapsFit tieBody v x.2 k
end Go.Proofs.YtabknehmohoemaaGreatDoor
