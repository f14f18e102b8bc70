/- Part 20 of a law on fees: no conditions. -/
import Derived.Test.YthiiblonjmmnfaaGreatDoorP18
set_option maxHeartbeats 8000000
set_option maxRecDepth 100000
set_option linter.all false
namespace Go.aN
attribute [-simp] Go.Sem.runT_eq
open Go.Proofs
noncomputable def bc.list:List Func:=mix vc ye 0 aF.funcs.toList
noncomputable def bc:Program:=⟨Tryz.progTables,(bc.list).toArray⟩
def bc.K:fV bc aF:=⟨λ_ _ _=>False,λf=>f=54\/f=121\/f=122⟩
def bc.H:ey (eE bc.K) bc aF:=
 xC (sp:=vc) (rs:=ye) rfl (by kernel_rfl) ⟨⟨rfl,ou (.inl rfl) Tryz.func54 rfl rfl rfl rfl⟩,⟨rfl,uW Tryz.func88⟩,⟨rfl,ou (.inr (.inl rfl)) Tryz.func121 rfl rfl rfl rfl⟩,⟨rfl,ou (.inr (.inr rfl)) Tryz.func122 rfl rfl rfl rfl⟩,⟨rfl,uX Tryz.func123⟩,trivial⟩ (by kernel_rfl)
def bc.eo:ey (eE (h5 bc)) bc bc:=
 yh (sp:=vc) ⟨⟨rfl,my (by kernel_rfl) (by kernel_rfl)⟩,⟨rfl,uW (by kernel_rfl)⟩,⟨rfl,my (by kernel_rfl) (by kernel_rfl)⟩,⟨rfl,my (by kernel_rfl) (by kernel_rfl)⟩,⟨rfl,uX (by kernel_rfl)⟩,trivial⟩ ⟨by kernel_rfl,by kernel_rfl,by kernel_rfl,by kernel_rfl,by kernel_rfl,trivial⟩ (by kernel_rfl)
def bc.S:bK bc aF:=⟨rfl⟩
def bc.nj:hR bc=none:=by kernel_rfl
def bc.dy:dX bc 54=some 2/\dX bc 121=some 1/\dX bc 122=some 1:=⟨by kernel_rfl,by kernel_rfl,by kernel_rfl⟩
instance bc.Dd:Std bc.list.toArray:=xD (by kernel_rfl)
instance bc.Pd:gQ bc.list.toArray:=⟨by kernel_rfl,by kernel_rfl,by kernel_rfl⟩
instance bc.PX:PJ bc.list.toArray:=⟨by kernel_rfl⟩
end Go.aN
