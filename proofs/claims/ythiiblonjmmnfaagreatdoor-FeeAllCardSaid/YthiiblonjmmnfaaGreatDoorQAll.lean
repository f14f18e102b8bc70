/- The given statement FeeAllCardSaid holds: FeeAll says true for every list of numbers, with its card; no condition beside the statement itself. -/
import Derived.Test.YthiiblonjmmnfaaGreatDoorRAll1
import Derived.Test.YthiiblonjmmnfaaGreatDoorCards
set_option maxHeartbeats 8000000
set_option maxRecDepth 100000
set_option linter.all false
namespace Go.Proofs.YthiiblonjmmnfaaGreatDoor
open Go Go.aN Go.Proofs Go.Conc Go.ConcN Go.ChangeShapes Go.WideShapes Go.ChangeAt Go.RowKit
def Rh(w:World)(L:Value)(h:mP w L):Calls bS 3 #[L] w λe _=>e=.returned (.bool true):=
 Re (A:=bS.list.toArray) Pa w L h.to.1 h.to.2
def Rg(os:Os)(d:os.Started)(H:Type)(c:TypeId×Value->H)(F:Stop.Interp):
 ReturnsInLeavingWide {calm:=true} Tryz.checked os 3 .any (λw args=>(Rows.feeAllSpec.pre c Tryz.prog Tryz.f3 [] false w args/\laidMetH Tryz.prog A8 w)/\sizedMet c Tryz.prog Tryz.f3 (OpenSpec.ofChange Rows.feeAllSpec) false w args)
  ((OpenSpec.ofChange Rows.feeAllSpec).postWith c Tryz.prog Tryz.f3 F (outsideKept [.timePasses]) false true false):=
 O9 (f:=3) (fn:=Tryz.f3) (spec:=Rows.feeAllSpec) (by kernel_rfl) (by kernel_rfl) (by kernel_rfl) rfl (λ_ _=>rfl) (by decide) (by rintro(h|h|h|h)<;>cases h) (by kernel_rfl) Rh os d H c F
  (by kernel_rfl) (by kernel_rfl) (by kernel_rfl) (by kernel_rfl) (by kernel_rfl)
def Rf:Rows.FeeAllSaid:=
 OpenClaim.holds_of_wide_leaving_time 3 Tryz.f3 rfl rfl rfl rfl rfl rfl rfl ⟨rfl,rfl,rfl,rfl,rfl⟩ rfl rfl rfl rfl rfl (by kernel_rfl) (by kernel_rfl) (by kernel_rfl)
  (of_decide_eq_true (by kernel_rfl)) (by unfold Func.isWrapper;first|(rw[if_pos (by decide+kernel)];kernel_rfl)|(rw[if_neg (by decide+kernel)];exact⟨rfl,rfl⟩))
  (λos d H c _ F=>Rg os d H c F)
theorem feeAll_card:Rows.FeeAllCardSaid:=
 O8 (true,"88084a2330e90925f1809ca23b226ccaec1042b5540710b9d68e77f6d21f4656") Rf (by kernel_rfl) feeAll_row_tie rfl ⟨rfl,rfl⟩ (by kernel_rfl) rfl
  (λf fn aB c=>by
   obtain rfl:f=3:=Pm ((show Tryz.prog.funcNamed Rows.feeAllRow.func=some 3 by kernel_rfl).symm.trans aB) |>.symm
   obtain rfl:fn=Tryz.f3:=(Pm ((show Tryz.prog.funcs[3]?=some Tryz.f3 by kernel_rfl).symm.trans c)).symm;exact⟨by kernel_rfl,λj t az=>by
    have aQ:Tryz.f3.params=#[22]:=by kernel_rfl
    rw[aQ]at az;have ax:t=22:=by
     rcases j with _|j
     .simpa using az.symm
     .simp at az
    subst ax;exact(show Tryz.prog.wantsStandIn 22=false by kernel_rfl)⟩)
  (by kernel_rfl)
#print axioms feeAll_card
end Go.Proofs.YthiiblonjmmnfaaGreatDoor
