/- The given statement FeeFreeCardSaid holds: FeeFree says true for every list of numbers, with its card; no condition beside the statement itself. -/
import Derived.Test.YtpnmipmngnhemaaGreatDoorRFree1
import Derived.Test.YtpnmipmngnhemaaGreatDoorCards
set_option maxHeartbeats 8000000
set_option maxRecDepth 100000
set_option linter.all false
namespace Go.Proofs.YtpnmipmngnhemaaGreatDoor
open Go Go.aN Go.Proofs Go.Conc Go.ConcN Go.ChangeShapes Go.WideShapes Go.ChangeAt Go.RowKit
def Q3(w:World)(L:Value)(h:mP w L):Calls bS 4 #[L] w λe _=>e=.returned (.bool true):=
 Q0 (A:=bS.list.toArray) Pa w L h.to.1 h.to.2
def Q2(os:Os)(d:os.Started)(H:Type)(c:TypeId×Value->H)(F:Stop.Interp):
 ReturnsInLeavingWide {calm:=true} Tryz.checked os 4 .any (λw args=>(Rows.feeFreeSpec.pre c Tryz.prog Tryz.f4 [] false w args/\laidMetH Tryz.prog A8 w)/\sizedMet c Tryz.prog Tryz.f4 (OpenSpec.ofChange Rows.feeFreeSpec) false w args)
  ((OpenSpec.ofChange Rows.feeFreeSpec).postWith c Tryz.prog Tryz.f4 F (outsideKept [.timePasses]) false true false):=
 O9 (f:=4) (fn:=Tryz.f4) (spec:=Rows.feeFreeSpec) (by kernel_rfl) (by kernel_rfl) (by kernel_rfl) rfl (λ_ _=>rfl) (by decide) (by rintro(h|h|h|h)<;>cases h) (by kernel_rfl) Q3 os d H c F
  (by kernel_rfl) (by kernel_rfl) (by kernel_rfl) (by kernel_rfl) (by kernel_rfl)
def Q1:Rows.FeeFreeSaid:=
 OpenClaim.holds_of_wide_leaving_time 4 Tryz.f4 rfl rfl rfl rfl rfl rfl rfl ⟨rfl,rfl,rfl,rfl,rfl⟩ rfl rfl rfl rfl rfl (by kernel_rfl) (by kernel_rfl) (by kernel_rfl)
  (of_decide_eq_true (by kernel_rfl)) (by unfold Func.isWrapper;first|(rw[if_pos (by decide+kernel)];kernel_rfl)|(rw[if_neg (by decide+kernel)];exact⟨rfl,rfl⟩))
  (λos d H c _ F=>Q2 os d H c F)
theorem feeFree_card:Rows.FeeFreeCardSaid:=
 O8 (true,"1e72b21553e005598baed9e5044fd4122232fcda2485c28f57d71aabcccc648f") Q1 (by kernel_rfl) feeFree_row_tie rfl ⟨rfl,rfl⟩ (by kernel_rfl) rfl
  (λf fn aB c=>by
   obtain rfl:f=4:=Pm ((show Tryz.prog.funcNamed Rows.feeFreeRow.func=some 4 by kernel_rfl).symm.trans aB) |>.symm
   obtain rfl:fn=Tryz.f4:=(Pm ((show Tryz.prog.funcs[4]?=some Tryz.f4 by kernel_rfl).symm.trans c)).symm;exact⟨by kernel_rfl,λj t az=>by
    have aQ:Tryz.f4.params=#[22]:=by kernel_rfl
    rw[aQ]at az;have ax:t=22:=by
     rcases j with _|j
     .simpa using az.symm
     .simp at az
    subst ax;exact(show Tryz.prog.wantsStandIn 22=false by kernel_rfl)⟩)
  (by kernel_rfl)
#print axioms feeFree_card
end Go.Proofs.YtpnmipmngnhemaaGreatDoor
