/- The given statement FeeCheapCardSaid holds: FeeCheap says true for every list of numbers, with its card; no condition beside the statement itself. -/
import Derived.Test.YtalhadgndijcmaaGreatDoorRCheap1
import Derived.Test.YtalhadgndijcmaaGreatDoorCards
set_option maxHeartbeats 8000000
set_option maxRecDepth 100000
set_option linter.all false
namespace Go.Proofs.YtalhadgndijcmaaGreatDoor
open Go Go.aN Go.Proofs Go.Conc Go.ConcN Go.ChangeShapes Go.WideShapes Go.ChangeAt Go.RowKit
def QL(w:World)(L:Value)(h:mP w L):Calls bS 9 #[L] w λe _=>e=.returned (.bool true):=
 QI (A:=bS.list.toArray) Pa w L h.to.1 h.to.2
def QK(os:Os)(d:os.Started)(H:Type)(c:TypeId×Value->H)(F:Stop.Interp):
 ReturnsInLeavingWide {calm:=true} Tryz.checked os 9 .any (λw args=>(Rows.feeCheapSpec.pre c Tryz.prog Tryz.f9 [] false w args/\laidMetH Tryz.prog A8 w)/\sizedMet c Tryz.prog Tryz.f9 (OpenSpec.ofChange Rows.feeCheapSpec) false w args)
  ((OpenSpec.ofChange Rows.feeCheapSpec).postWith c Tryz.prog Tryz.f9 F (outsideKept [.timePasses]) false true false):=
 O9 (f:=9) (fn:=Tryz.f9) (spec:=Rows.feeCheapSpec) (by kernel_rfl) (by kernel_rfl) (by kernel_rfl) rfl (λ_ _=>rfl) (by decide) (by rintro(h|h|h|h)<;>cases h) (by kernel_rfl) QL os d H c F
  (by kernel_rfl) (by kernel_rfl) (by kernel_rfl) (by kernel_rfl) (by kernel_rfl)
def QJ:Rows.FeeCheapSaid:=
 OpenClaim.holds_of_wide_leaving_time 9 Tryz.f9 rfl rfl rfl rfl rfl rfl rfl ⟨rfl,rfl,rfl,rfl,rfl⟩ rfl rfl rfl rfl rfl (by kernel_rfl) (by kernel_rfl) (by kernel_rfl)
  (of_decide_eq_true (by kernel_rfl)) (by unfold Func.isWrapper;first|(rw[if_pos (by decide+kernel)];kernel_rfl)|(rw[if_neg (by decide+kernel)];exact⟨rfl,rfl⟩))
  (λos d H c _ F=>QK os d H c F)
theorem feeCheap_card:Rows.FeeCheapCardSaid:=
 O8 (true,"1f88c90e5c791502b70ce72e3325ad9c03d054959b0ba62d78cba7e1a1d894ef") QJ (by kernel_rfl) feeCheap_row_tie rfl ⟨rfl,rfl⟩ (by kernel_rfl) rfl
  (λf fn c d=>by
   obtain rfl:f=9:=Pm ((show Tryz.prog.funcNamed Rows.feeCheapRow.func=some 9 by kernel_rfl).symm.trans c) |>.symm
   obtain rfl:fn=Tryz.f9:=(Pm ((show Tryz.prog.funcs[9]?=some Tryz.f9 by kernel_rfl).symm.trans d)).symm;exact⟨by kernel_rfl,λj t az=>by
    have aQ:Tryz.f9.params=#[22]:=by kernel_rfl
    rw[aQ]at az;have ax:t=22:=by
     rcases j with _|j
     .simpa using az.symm
     .simp at az
    subst ax;exact(show Tryz.prog.wantsStandIn 22=false by kernel_rfl)⟩)
  (by kernel_rfl)
#print axioms feeCheap_card
end Go.Proofs.YtalhadgndijcmaaGreatDoor
