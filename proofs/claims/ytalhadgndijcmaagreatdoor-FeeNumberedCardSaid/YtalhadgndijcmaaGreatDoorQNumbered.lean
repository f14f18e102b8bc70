/- The given statement FeeNumberedCardSaid holds: FeeNumbered says true for every list of numbers, with its card; no condition beside the statement itself. -/
import Derived.Test.YtalhadgndijcmaaGreatDoorRNumbered1
import Derived.Test.YtalhadgndijcmaaGreatDoorCards
set_option maxHeartbeats 8000000
set_option maxRecDepth 100000
set_option linter.all false
namespace Go.Proofs.YtalhadgndijcmaaGreatDoor
open Go Go.aN Go.Proofs Go.Conc Go.ConcN Go.ChangeShapes Go.WideShapes Go.ChangeAt Go.RowKit
def QB(w:World)(L:Value)(h:mP w L):Calls bS 13 #[L] w λe _=>e=.returned (.bool true):=
 Qy (A:=bS.list.toArray) Pa w L h.to.1 h.to.2
def QA(os:Os)(d:os.Started)(H:Type)(c:TypeId×Value->H)(F:Stop.Interp):
 ReturnsInLeavingWide {calm:=true} Tryz.checked os 13 .any (λw args=>(Rows.feeNumberedSpec.pre c Tryz.prog Tryz.f13 [] false w args/\laidMetH Tryz.prog A8 w)/\sizedMet c Tryz.prog Tryz.f13 (OpenSpec.ofChange Rows.feeNumberedSpec) false w args)
  ((OpenSpec.ofChange Rows.feeNumberedSpec).postWith c Tryz.prog Tryz.f13 F (outsideKept [.timePasses]) false true false):=
 O9 (f:=13) (fn:=Tryz.f13) (spec:=Rows.feeNumberedSpec) (by kernel_rfl) (by kernel_rfl) (by kernel_rfl) rfl (λ_ _=>rfl) (by decide) (by rintro(h|h|h|h)<;>cases h) (by kernel_rfl) QB os d H c F
  (by kernel_rfl) (by kernel_rfl) (by kernel_rfl) (by kernel_rfl) (by kernel_rfl)
def Qz:Rows.FeeNumberedSaid:=
 OpenClaim.holds_of_wide_leaving_time 13 Tryz.f13 rfl rfl rfl rfl rfl rfl rfl ⟨rfl,rfl,rfl,rfl,rfl⟩ rfl rfl rfl rfl rfl (by kernel_rfl) (by kernel_rfl) (by kernel_rfl)
  (of_decide_eq_true (by kernel_rfl)) (by unfold Func.isWrapper;first|(rw[if_pos (by decide+kernel)];kernel_rfl)|(rw[if_neg (by decide+kernel)];exact⟨rfl,rfl⟩))
  (λos d H c _ F=>QA os d H c F)
theorem feeNumbered_card:Rows.FeeNumberedCardSaid:=
 O8 (true,"1f88c90e5c791502b70ce72e3325ad9c03d054959b0ba62d78cba7e1a1d894ef") Qz (by kernel_rfl) feeNumbered_row_tie rfl ⟨rfl,rfl⟩ (by kernel_rfl) rfl
  (λf fn aB c=>by
   obtain rfl:f=13:=Pm ((show Tryz.prog.funcNamed Rows.feeNumberedRow.func=some 13 by kernel_rfl).symm.trans aB) |>.symm
   obtain rfl:fn=Tryz.f13:=(Pm ((show Tryz.prog.funcs[13]?=some Tryz.f13 by kernel_rfl).symm.trans c)).symm;exact⟨by kernel_rfl,λj t az=>by
    have aQ:Tryz.f13.params=#[22]:=by kernel_rfl
    rw[aQ]at az;have ax:t=22:=by
     rcases j with _|j
     .simpa using az.symm
     .simp at az
    subst ax;exact(show Tryz.prog.wantsStandIn 22=false by kernel_rfl)⟩)
  (by kernel_rfl)
#print axioms feeNumbered_card
end Go.Proofs.YtalhadgndijcmaaGreatDoor
