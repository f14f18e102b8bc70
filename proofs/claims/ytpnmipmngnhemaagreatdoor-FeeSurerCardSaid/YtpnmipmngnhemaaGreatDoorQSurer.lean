/- The given statement FeeSurerCardSaid holds: FeeSurer says true for every list of numbers, with its card; no condition beside the statement itself. -/
import Derived.Test.YtpnmipmngnhemaaGreatDoorRSurer2
import Derived.Test.YtpnmipmngnhemaaGreatDoorCards
set_option maxHeartbeats 8000000
set_option maxRecDepth 100000
set_option linter.all false
namespace Go.Proofs.YtpnmipmngnhemaaGreatDoor
open Go Go.aN Go.Proofs Go.Conc Go.ConcN Go.ChangeShapes Go.WideShapes Go.ChangeAt Go.RowKit
def QP(w:World)(L:Value)(h:mP w L):Calls bS 5 #[L] w λe _=>e=.returned (.bool true):=
 QM (A:=bS.list.toArray) Pa w L h.to.1 h.to.2
def QO(os:Os)(d:os.Started)(H:Type)(c:TypeId×Value->H)(F:Stop.Interp):
 ReturnsInLeavingWide {calm:=true} Tryz.checked os 5 .any (λw args=>(Rows.feeSurerSpec.pre c Tryz.prog Tryz.f5 [] false w args/\laidMetH Tryz.prog A8 w)/\sizedMet c Tryz.prog Tryz.f5 (OpenSpec.ofChange Rows.feeSurerSpec) false w args)
  ((OpenSpec.ofChange Rows.feeSurerSpec).postWith c Tryz.prog Tryz.f5 F (outsideKept [.timePasses]) false true false):=
 O9 (f:=5) (fn:=Tryz.f5) (spec:=Rows.feeSurerSpec) (by kernel_rfl) (by kernel_rfl) (by kernel_rfl) rfl (λ_ _=>rfl) (by decide) (by rintro(h|h|h|h)<;>cases h) (by kernel_rfl) QP os d H c F
  (by kernel_rfl) (by kernel_rfl) (by kernel_rfl) (by kernel_rfl) (by kernel_rfl)
def QN:Rows.FeeSurerSaid:=
 OpenClaim.holds_of_wide_leaving_time 5 Tryz.f5 rfl rfl rfl rfl rfl rfl rfl ⟨rfl,rfl,rfl,rfl,rfl⟩ rfl rfl rfl rfl rfl (by kernel_rfl) (by kernel_rfl) (by kernel_rfl)
  (of_decide_eq_true (by kernel_rfl)) (by unfold Func.isWrapper;first|(rw[if_pos (by decide+kernel)];kernel_rfl)|(rw[if_neg (by decide+kernel)];exact⟨rfl,rfl⟩))
  (λos d H c _ F=>QO os d H c F)
theorem feeSurer_card:Rows.FeeSurerCardSaid:=
 O8 (true,"1e72b21553e005598baed9e5044fd4122232fcda2485c28f57d71aabcccc648f") QN (by kernel_rfl) feeSurer_row_tie rfl ⟨rfl,rfl⟩ (by kernel_rfl) rfl
  (λf fn aB c=>by
   obtain rfl:f=5:=Pm ((show Tryz.prog.funcNamed Rows.feeSurerRow.func=some 5 by kernel_rfl).symm.trans aB) |>.symm
   obtain rfl:fn=Tryz.f5:=(Pm ((show Tryz.prog.funcs[5]?=some Tryz.f5 by kernel_rfl).symm.trans c)).symm;exact⟨by kernel_rfl,λj t az=>by
    have aQ:Tryz.f5.params=#[22]:=by kernel_rfl
    rw[aQ]at az;have ax:t=22:=by
     rcases j with _|j
     .simpa using az.symm
     .simp at az
    subst ax;exact(show Tryz.prog.wantsStandIn 22=false by kernel_rfl)⟩)
  (by kernel_rfl)
#print axioms feeSurer_card
end Go.Proofs.YtpnmipmngnhemaaGreatDoor
