/- The statement 'EvalSumsCard' of 'YtjioppomopfifaaGreatDoor' is proved: the law's call returns true. No condition of ours: by runs of the abstract machine in the kernel, which is proved to carry out what the model does; strings.Index by the library's contract. -/
import Derived.Test.YtjioppomopfifaaGreatDoorTie
import Derived.Test.YtjioppomopfifaaGreatDoorCards
import Derived.Test.YtjioppomopfifaaGreatDoorEvalSumsCon
import Derived.WalkKit
import Derived.ProofKit
import Derived.OpenShut
import Derived.SevenTiedAt
import Derived.ChangeCalls
import Derived.Shelf.Strings.Search3
import Derived.Shelf.Vars
import Derived.Test.YtjioppomopfifaaGreatDoorEvalSumsWalk
import Derived.Test.YtjioppomopfifaaGreatDoorEvalSumsFacts5
import Derived.Test.YtjioppomopfifaaGreatDoorEvalSumsFacts6
import Derived.Test.YtjioppomopfifaaGreatDoorEvalSumsFacts7
namespace Go.Proofs.YtjioppomopfifaaGreatDoor
open Go.ChangeShapes Go.WideShapes Go.ChangeAt Go.RowKit
theorem SS:Rows.evalSumsRow.holds Tryz.pinned (OpenSpec.ofChange Rows.evalSumsSpec):=
 OpenClaim.holds_of_wide 3 Tryz.f3 rfl rfl rfl rfl rfl rfl rfl ⟨rfl,rfl,rfl,rfl,rfl⟩ rfl rfl rfl rfl rfl (by kernel_rfl) Tryz.func3 QB
  (of_decide_eq_true (by kernel_rfl)) (by unfold Func.isWrapper;first| (rw [if_pos (by decide+kernel)];kernel_rfl)| (rw [if_neg (by decide+kernel)];exact ⟨rfl,rfl⟩))
  (fun os started H enc _=>MR os started H enc)
theorem evalSums_proved:Rows.EvalSumsCardSaid:=
 Claim7.holds_tied_plain_at .later [] Rows.evalSumsCard.laidKinds true Rows.evalSumsCard.stood.harness Rows.evalSumsCard.stood.looks SS (fun _ h=>by cases h) Zt (fun _ h=>by cases h) evalSums_row_tie rfl ⟨rfl,rfl⟩ Zu rfl
  (fun f fn hf hfn=>by
    obtain rfl:f=3:=Option.some.inj ((show Tryz.prog.funcNamed Rows.evalSumsRow.func=some 3 by kernel_rfl).symm.trans hf) |>.symm
    obtain rfl:fn=Tryz.f3:=(Option.some.inj (Tryz.func3.symm.trans hfn)).symm
    exact ⟨Zr,fun j t ht=>by
     rw [Tryz.params3] at ht
     exact Abs.a8K (ts:=[3,24]) (by kernel_rfl) j t (by rw [←Array.getElem?_toList] at ht;exact ht)⟩)
  Zv
#print axioms evalSums_proved
end Go.Proofs.YtjioppomopfifaaGreatDoor
