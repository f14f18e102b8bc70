/- A part; no conditions. -/
import Derived.Test.YtkifbmfagkjikaaGreatDoorP18
set_option maxHeartbeats 8000000
set_option maxRecDepth 100000
set_option linter.all false
namespace Go.aO
attribute [-simp] Go.Sem.runT_eq
open Go.Proofs
noncomputable def bl.list:List Func:=mix xM AA 0 aK.funcs.toList
noncomputable def bl:Program:=⟨Tryz.progTables,(bl.list).toArray⟩
def bl.K:g8 bl aK:=⟨λ_ _ _=>False,λf=>f=55\/f=120\/f=121⟩
def bl.H:fe (fj bl.K) bl aK:=
 zS (sp:=xM) (rs:=AA) rfl av ⟨⟨rfl,o' (.inl rfl) Tryz.func55 rfl rfl rfl rfl⟩,⟨rfl,xv Tryz.func95⟩,⟨rfl,o' (.inr (.inl rfl)) Tryz.func120 rfl rfl rfl rfl⟩,⟨rfl,o' (.inr (.inr rfl)) Tryz.func121 rfl rfl rfl rfl⟩,⟨rfl,xw Tryz.func122⟩,trivial⟩ av
def bl.ek:fe (fj (jv bl)) bl bl:=
 AE (sp:=xM) ⟨⟨rfl,nt av av⟩,⟨rfl,xv av⟩,⟨rfl,nt av av⟩,⟨rfl,nt av av⟩,⟨rfl,xw av⟩,trivial⟩ ⟨av,av,av,av,av,trivial⟩ av
def bl.S:Same bl aK:=⟨rfl⟩
def bl.o5:je bl=none:=av
def bl.eb:eK bl 55=some 2/\eK bl 120=some 1/\eK bl 121=some 1:=⟨av,av,av⟩
instance bl.Gd:Std bl.list.toArray:=zT (by kernel_rfl)
instance bl.Qx:jx bl.list.toArray:=⟨by kernel_rfl,by kernel_rfl,by kernel_rfl⟩
instance bl.S2:oA bl.list.toArray:=⟨by kernel_rfl⟩
end Go.aO
