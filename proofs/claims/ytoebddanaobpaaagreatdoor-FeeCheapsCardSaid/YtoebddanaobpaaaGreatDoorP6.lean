/- A part. -/
import Derived.Test.YtoebddanaobpaaaGreatDoorP5
set_option maxHeartbeats 8000000
set_option maxRecDepth 100000
set_option linter.all false
namespace Go.aO
attribute [-simp] Go.Sem.runT_eq
open Go.Proofs Tryz
structure tE where
 l:Nat
 rem:TA
 bG:Nat
 bH:Nat
 df:Nat
 M:Mem
def MY:Tb TA:=[[0,1,2,3,4,5,6],[0,1,2,3,5,4,6],[0,1,2,5,3,4,6],[0,1,5,2,3,4,6],[0,2,1,3,4,5,6],
 [0,2,1,3,5,4,6],[0,2,1,5,3,4,6],[0,2,3,1,4,5,6],[0,2,3,1,5,4,6],[0,2,3,5,1,4,6],
 [0,2,5,1,3,4,6],[0,2,5,3,1,4,6],[0,5,1,2,3,4,6],[0,5,2,1,3,4,6],[0,5,2,3,1,4,6],
 [1,0,2,3,4,5,6],[1,0,2,3,5,4,6],[1,0,2,5,3,4,6],[1,0,5,2,3,4,6],[1,5,0,2,3,4,6],
 [5,0,1,2,3,4,6],[5,0,2,1,3,4,6],[5,0,2,3,1,4,6],[5,1,0,2,3,4,6]]
def MZ:Tb TA:=[[0,1,2,3,4,5,6],[0,2,1,3,4,5,6],[0,2,3,1,4,5,6],[1,0,2,3,4,5,6]]
def M0:Tb TA:=[[0,1,2,3,4,5],[0,1,3,2,4,5],[0,1,3,4,2,5],[0,3,1,2,4,5],[0,3,1,4,2,5],[0,3,4,1,2,5],[3,0,1,2,4,5],[3,0,1,4,2,5],[3,0,4,1,2,5],[3,4,0,1,2,5]]
def unit:S9:=.tuple #[]
def sn(T:Nat)(v:Int):Tb cD:=[.mark (.extern 101),.load .atomic (S8 T 4) (.int .u32 v)]
def w8(T:Nat):Te:=#[T1 T 5]
def sM(T bG bH:Nat):Te:=#[T1 T 4,.func (.func 70) #[] #[pt bG,pt bH]]
structure DP where
 l:Nat
 bG:Nat
 bH:Nat
abbrev Lx:Tw->Ta:=λf=>f == 134||(f == 135||f == 70)
noncomputable def I8(T:Nat):DP->Tb (Edge DP)
 |⟨0,bG,bH⟩=>[.fix true false [.val (.int .u32 0)] (sn T 0) ⟨1,bG,bH⟩,.fix true false [.val (.int .u32 1)] (sn T 1) ⟨8,bG,bH⟩]
 |⟨1,bG,bH⟩=>[.lift 134 (w8 T) (λ_:Unit=>unit) λ_=>⟨2,bG,bH⟩]
 |⟨2,bG,bH⟩=>[.fix true false [.val (.int .u32 0)] (sn T 0) ⟨3,bG,bH⟩,.fix true false [.val (.int .u32 1)] (sn T 1) ⟨7,bG,bH⟩]
 |⟨3,bG,bH⟩=>[.lift 70 #[pt bG,pt bH] (λ_:Unit=>unit) λ_=>⟨4,bG,bH⟩]
 |⟨4,bG,bH⟩=>[.ord 104 0 Ql M0 λ_=>⟨5,bG,bH⟩]
 |⟨5,bG,bH⟩=>[.fix true false [] [.mark (.extern 136),.store .atomic (S8 T 4) (.int .u32 1)] ⟨7,bG,bH⟩]
 |⟨7,bG,bH⟩=>[.lift 135 (w8 T) (λ_:Unit=>unit) λ_=>⟨8,bG,bH⟩]
 |⟨8,_,_⟩=>[.leave unit]
 |_=>[]
noncomputable def ki(T:Nat):de DP:=⟨prog,hv,Lx,.normal,λ_=>[],λ_=>400,I8 T⟩
set_option maxRecDepth 100000 in
def Ja(T bG bH:Nat):Good (ki T) 20 ⟨0,bG,bH⟩ (Frame.enter prog 69 (sM T bG bH) .normal,[]):=by all_goals exact fX
noncomputable def NG:Tv Oper:=opsOf f46 1
noncomputable def NH:Tv Oper:=opsOf f46 2
abbrev Ly:Tw->Ta:=λf=>f == 69
def Aq:Tb gZ:=[.st 2 0 (ah 1),.st 2 1 (ah 1),.st 2 2 (ah 3),.st 2 3 (ah 0),.st 2 4 (ah 3)]
noncomputable def NL(T:Nat):tE->Tb (Edge tE)
 |⟨0,_,_,_,_,M⟩=>[.new true (.cells #[pt T] 71 (0,0)) λb=>⟨1,[],b,0,0,M++[(true,b,.cells #[pt T] 71 (0,0))]⟩]
 |⟨1,_,bG,_,_,M⟩=>[.new true (.cells #[i0] 3 (0,0)) λb=>⟨2,[],bG,b,0,M++[(true,b,.cells #[i0] 3 (0,0))]⟩]
 |⟨2,_,bG,bH,_,M⟩=>[.new true (.cells #[i0,i0,i0,i0,i0] 129 (0,0)) λb=>⟨3,[],bG,bH,b,M++[(true,b,.cells #[i0,i0,i0,i0,i0] 129 (0,0))]⟩]
 |⟨3,_,bG,bH,df,M⟩=>[.ord 46 1 NG MY λr=>⟨4,r.filter (· < 2),bG,bH,df,M⟩]
 |⟨4,0::r,bG,bH,df,M⟩=>[.bL [.ld 0 0] ⟨4,r,bG,bH,df,M⟩]
 |⟨4,1::r,bG,bH,df,M⟩=>[.bL [.ld 1 0] ⟨4,r,bG,bH,df,M⟩]
 |⟨4,[],bG,bH,df,M⟩=>[.lift 69 (sM T bG bH) (λ_:Unit=>unit) λ_=>⟨14,[],bG,bH,df,M⟩]
 |⟨14,_,bG,bH,df,M⟩=>[.ord 46 2 NH MZ λr=>⟨15,r.filter (· < 2),bG,bH,df,M⟩]
 |⟨15,0::r,bG,bH,df,M⟩=>[.bL [.ld 0 0] ⟨15,r,bG,bH,df,M⟩]
 |⟨15,1::r,bG,bH,df,M⟩=>[.bL [.ld 1 0] ⟨15,r,bG,bH,df,M⟩]
 |⟨15,[],bG,bH,df,M⟩=>[.fix false false [.val (ah 1),.val (ah 1),.val (ah 3),.val (ah 0),.val (ah 3)] (ua false T) ⟨16,[],bG,bH,df,M⟩]
 |⟨16,_,bG,bH,df,M⟩=>[.bL Aq ⟨17,[],bG,bH,df,c0 M Aq⟩]
 |⟨17,_,_,_,_,_⟩=>[.k' (sA 2 0) iT]
 |_=>[]
noncomputable def iD(T:Nat)(kd:Tx):de tE:=⟨prog,hv,Ly,kd,λp=>p.M,λ_=>400,NL T⟩
set_option maxRecDepth 100000 in
def NP(T:Nat)(kd:Tx)(c:TG kd):Good (iD T kd) 40 ⟨0,[],0,0,0,[]⟩ (Frame.enter prog 46 #[pt T,ah 0] kd,[]):=by rcases c with rfl|rfl<;>exact fX
end Go.aO
