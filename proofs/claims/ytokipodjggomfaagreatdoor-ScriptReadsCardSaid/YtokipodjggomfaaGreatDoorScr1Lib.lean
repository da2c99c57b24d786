/- A part of the proof of ScriptReads: 1Lib. Conditions: those of each theorem. -/
import Derived.Test.YtokipodjggomfaaGreatDoorScr1Base
set_option linter.unusedVariables false
set_option linter.unusedSimpArgs false
namespace Go.Proofs.YtokipodjggomfaaGreatDoor
open Go.Proofs.YtokipodjggomfaaGreatDoor.Abs
theorem a5N:j3 Tryz.prog (nY kU.L):=Mc (u:=kU.L) ⟨_,Tryz.func125⟩ (b7 (by kernel_rfl)) λs sub m w a b=>Tryz.strings_Contains s sub m w a b
theorem a5M:j3 Tryz.prog (HQ kU.L):=a3E (u:=kU.L) ⟨_,Tryz.func21⟩ (b7 (by kernel_rfl)) λs sep m w a b=>Tryz.strings_Cut s sep m w a b
theorem a0m:j3 Tryz.prog (Ft kU.L):=a3D (u:=kU.L) ⟨_,Tryz.func151⟩ λs c w=>Tryz.strings_IndexByte s c w
theorem Mf:j3 Tryz.prog (Cg kU.L):=a0c (u:=kU.L) ⟨_,Tryz.func43⟩ (b7 (by kernel_rfl)) λn w a I b=>
 (Tryz.strconv_Itoa n a I w (by unfold Lib.TabIs World.var?;rw[show Tryz.prog.globalNamed "internal/strconv.uint64pow10"=some kU.L.Mv from by kernel_rfl,bn,b])).mono λe M h=>⟨h.1,by obtain⟨-,k,os,rfl⟩:=h;exact WE w k os⟩
theorem Mh:j3 Tryz.prog (xM kU.L):=a0d (u:=kU.L) ⟨_,Tryz.func54⟩ (b7 (by kernel_rfl)) (b7 (by kernel_rfl)) (by decide)
 (λs v w b h=>(Tryz.strconv_Atoi_ok s (by omega) v h w).mono λe M h=>⟨h.1,by
   rcases h.2 with rfl|⟨t,rfl⟩
   .exact⟨bD _,rfl,rfl,rfl,λ_ _ h=>h⟩
   .exact r7 (Lib.bytesWorld_below _ _ _)⟩)
 λs ev c w b h g d f a=>by
  cases e:Lib.atoiAll s.data.toList with
  |ok v=>exact(h v e).elim
  |range=>
   exact(Tryz.strconv_Atoi_range s b e c w f a).mono λ_ M h=>by
    obtain⟨N,I,_,_,U⟩:=h;exact⟨⟨_,N,I⟩,r7 U⟩
  |_=>
   exact(Tryz.strconv_Atoi_syntax s b e ev w g d).mono λ_ M h=>by
    obtain⟨N,I,_,_,U⟩:=h;exact⟨⟨_,N,I⟩,r7 U⟩
end Go.Proofs.YtokipodjggomfaaGreatDoor
