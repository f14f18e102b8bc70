/- The given statement FeeCarriedCardSaid holds: FeeCarried says true for every list of numbers, with its card; no condition beside the statement itself. -/
import Derived.Test.YtalhadgndijcmaaGreatDoorRCarried0
import Derived.Test.YtalhadgndijcmaaGreatDoorCards
set_option maxHeartbeats 8000000
set_option maxRecDepth 100000
set_option linter.all false
namespace Go.Proofs.YtalhadgndijcmaaGreatDoor
open Go Go.aN Go.Proofs Go.Conc Go.ConcN Go.ChangeShapes Go.WideShapes Go.ChangeAt Go.RowKit
def Qj(w:World)(L:Value)(h:mP w L):Calls bS 10 #[L] w λe _=>e=.returned (.bool true):=
 Qg (A:=bS.list.toArray) Pa w L h.to.1 h.to.2
def Qi(os:Os)(d:os.Started)(H:Type)(c:TypeId×Value->H)(F:Stop.Interp):
 ReturnsInLeavingWide {calm:=true} Tryz.checked os 10 .any (λw args=>(Rows.feeCarriedSpec.pre c Tryz.prog Tryz.f10 [] false w args/\laidMetH Tryz.prog A8 w)/\sizedMet c Tryz.prog Tryz.f10 (OpenSpec.ofChange Rows.feeCarriedSpec) false w args)
  ((OpenSpec.ofChange Rows.feeCarriedSpec).postWith c Tryz.prog Tryz.f10 F (outsideKept [.timePasses]) false true false):=
 O9 (f:=10) (fn:=Tryz.f10) (spec:=Rows.feeCarriedSpec) (by kernel_rfl) (by kernel_rfl) (by kernel_rfl) rfl (λ_ _=>rfl) (by decide) (by rintro(h|h|h|h)<;>cases h) (by kernel_rfl) Qj os d H c F
  (by kernel_rfl) (by kernel_rfl) (by kernel_rfl) (by kernel_rfl) (by kernel_rfl)
def Qh:Rows.FeeCarriedSaid:=
 OpenClaim.holds_of_wide_leaving_time 10 Tryz.f10 rfl rfl rfl rfl rfl rfl rfl ⟨rfl,rfl,rfl,rfl,rfl⟩ rfl rfl rfl rfl rfl (by kernel_rfl) (by kernel_rfl) (by kernel_rfl)
  (of_decide_eq_true (by kernel_rfl)) (by unfold Func.isWrapper;first|(rw[if_pos (by decide+kernel)];kernel_rfl)|(rw[if_neg (by decide+kernel)];exact⟨rfl,rfl⟩))
  (λos d H c _ F=>Qi os d H c F)
theorem feeCarried_card:Rows.FeeCarriedCardSaid:=
 O8 (true,"1f88c90e5c791502b70ce72e3325ad9c03d054959b0ba62d78cba7e1a1d894ef") Qh (by kernel_rfl) feeCarried_row_tie rfl ⟨rfl,rfl⟩ (by kernel_rfl) rfl
  (λf fn c d=>by
   obtain rfl:f=10:=Pm ((show Tryz.prog.funcNamed Rows.feeCarriedRow.func=some 10 by kernel_rfl).symm.trans c) |>.symm
   obtain rfl:fn=Tryz.f10:=(Pm ((show Tryz.prog.funcs[10]?=some Tryz.f10 by kernel_rfl).symm.trans d)).symm;exact⟨by kernel_rfl,λj t az=>by
    have aQ:Tryz.f10.params=#[22]:=by kernel_rfl
    rw[aQ]at az;have ax:t=22:=by
     rcases j with _|j
     .simpa using az.symm
     .simp at az
    subst ax;exact(show Tryz.prog.wantsStandIn 22=false by kernel_rfl)⟩)
  (by kernel_rfl)
#print axioms feeCarried_card
end Go.Proofs.YtalhadgndijcmaaGreatDoor
