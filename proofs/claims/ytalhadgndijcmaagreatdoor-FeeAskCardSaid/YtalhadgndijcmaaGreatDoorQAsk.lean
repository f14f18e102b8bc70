/- The given statement FeeAskCardSaid holds: FeeAsk says true for every list of numbers, with its card; no condition beside the statement itself. -/
import Derived.Test.YtalhadgndijcmaaGreatDoorRAsk0
import Derived.Test.YtalhadgndijcmaaGreatDoorCards
set_option maxHeartbeats 8000000
set_option maxRecDepth 100000
set_option linter.all false
namespace Go.Proofs.YtalhadgndijcmaaGreatDoor
open Go Go.aN Go.Proofs Go.Conc Go.ConcN Go.ChangeShapes Go.WideShapes Go.ChangeAt Go.RowKit
def Qs(w:World)(L:Value)(h:mP w L):Calls bS 7 #[L] w λe _=>e=.returned (.bool true):=
 Qp (A:=bS.list.toArray) Pa w L h.to.1 h.to.2
def Qr(os:Os)(d:os.Started)(H:Type)(c:TypeId×Value->H)(F:Stop.Interp):
 ReturnsInLeavingWide {calm:=true} Tryz.checked os 7 .any (λw args=>(Rows.feeAskSpec.pre c Tryz.prog Tryz.f7 [] false w args/\laidMetH Tryz.prog A8 w)/\sizedMet c Tryz.prog Tryz.f7 (OpenSpec.ofChange Rows.feeAskSpec) false w args)
  ((OpenSpec.ofChange Rows.feeAskSpec).postWith c Tryz.prog Tryz.f7 F (outsideKept [.timePasses]) false true false):=
 O9 (f:=7) (fn:=Tryz.f7) (spec:=Rows.feeAskSpec) (by kernel_rfl) (by kernel_rfl) (by kernel_rfl) rfl (λ_ _=>rfl) (by decide) (by rintro(h|h|h|h)<;>cases h) (by kernel_rfl) Qs os d H c F
  (by kernel_rfl) (by kernel_rfl) (by kernel_rfl) (by kernel_rfl) (by kernel_rfl)
def Qq:Rows.FeeAskSaid:=
 OpenClaim.holds_of_wide_leaving_time 7 Tryz.f7 rfl rfl rfl rfl rfl rfl rfl ⟨rfl,rfl,rfl,rfl,rfl⟩ rfl rfl rfl rfl rfl (by kernel_rfl) (by kernel_rfl) (by kernel_rfl)
  (of_decide_eq_true (by kernel_rfl)) (by unfold Func.isWrapper;first|(rw[if_pos (by decide+kernel)];kernel_rfl)|(rw[if_neg (by decide+kernel)];exact⟨rfl,rfl⟩))
  (λos d H c _ F=>Qr os d H c F)
theorem feeAsk_card:Rows.FeeAskCardSaid:=
 O8 (true,"1f88c90e5c791502b70ce72e3325ad9c03d054959b0ba62d78cba7e1a1d894ef") Qq (by kernel_rfl) feeAsk_row_tie rfl ⟨rfl,rfl⟩ (by kernel_rfl) rfl
  (λf fn aB c=>by
   obtain rfl:f=7:=Pm ((show Tryz.prog.funcNamed Rows.feeAskRow.func=some 7 by kernel_rfl).symm.trans aB) |>.symm
   obtain rfl:fn=Tryz.f7:=(Pm ((show Tryz.prog.funcs[7]?=some Tryz.f7 by kernel_rfl).symm.trans c)).symm;exact⟨by kernel_rfl,λj t az=>by
    have aQ:Tryz.f7.params=#[22]:=by kernel_rfl
    rw[aQ]at az;have ax:t=22:=by
     rcases j with _|j
     .simpa using az.symm
     .simp at az
    subst ax;exact(show Tryz.prog.wantsStandIn 22=false by kernel_rfl)⟩)
  (by kernel_rfl)
#print axioms feeAsk_card
end Go.Proofs.YtalhadgndijcmaaGreatDoor
