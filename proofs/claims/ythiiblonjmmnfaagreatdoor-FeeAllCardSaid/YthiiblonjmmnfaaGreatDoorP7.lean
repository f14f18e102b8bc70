/- Part 8 of a law on fees: no conditions. -/
import Derived.Test.YthiiblonjmmnfaaGreatDoorP6
set_option maxHeartbeats 8000000
set_option maxRecDepth 100000
set_option linter.all false
namespace Go.aN
attribute [-simp] Go.Sem.runT_eq
open Go.Proofs
structure rH where
 l:Nat
 rem:List Nat
 bz:Nat
 bA:Nat
 cL:Nat
 M:Mem
def JP:List (List Nat):=[[0,1,2,3,4,5,6],[0,1,2,3,5,4,6],[0,1,2,5,3,4,6],[0,1,5,2,3,4,6],[0,2,1,3,4,5,6],
 [0,2,1,3,5,4,6],[0,2,1,5,3,4,6],[0,2,3,1,4,5,6],[0,2,3,1,5,4,6],[0,2,3,5,1,4,6],
 [0,2,5,1,3,4,6],[0,2,5,3,1,4,6],[0,5,1,2,3,4,6],[0,5,2,1,3,4,6],[0,5,2,3,1,4,6],
 [1,0,2,3,4,5,6],[1,0,2,3,5,4,6],[1,0,2,5,3,4,6],[1,0,5,2,3,4,6],[1,5,0,2,3,4,6],
 [5,0,1,2,3,4,6],[5,0,2,1,3,4,6],[5,0,2,3,1,4,6],[5,1,0,2,3,4,6]]
def JQ:List (List Nat):=[[0,1,2,3,4,5,6],[0,2,1,3,4,5,6],[0,2,3,1,4,5,6],[1,0,2,3,4,5,6]]
def JR:List (List Nat):=[[0,1,2,3,4,5],[0,1,3,2,4,5],[0,1,3,4,2,5],[0,3,1,2,4,5],[0,3,1,4,2,5],[0,3,4,1,2,5],[3,0,1,2,4,5],[3,0,1,4,2,5],[3,0,4,1,2,5],[3,4,0,1,2,5]]
def unit:Value:=.tuple #[]
def qv(T:Nat)(v:Int):List cr:=[.mark (.extern 88),.load .atomic ⟨T,4,none⟩ (.int .u32 v)]
def uH(T:Nat):Array Value:=#[.pointer (some ⟨T,5,none⟩)]
def qO(T bz bA:Nat):Array Value:=#[.pointer (some ⟨T,4,none⟩),.func (.func 57) #[] #[pt bz,pt bA]]
structure DP where
 l:Nat
 bz:Nat
 bA:Nat
abbrev Im:FuncId->Bool:=λf=>f == 121||(f == 122||f == 57)
noncomputable def FN(T:Nat):DP->List (Edge DP)
 |⟨0,bz,bA⟩=>[.fix true false [.val (.int .u32 0)] (qv T 0) ⟨1,bz,bA⟩,.fix true false [.val (.int .u32 1)] (qv T 1) ⟨8,bz,bA⟩]
 |⟨1,bz,bA⟩=>[.lift 121 (uH T) (λ_:Unit=>unit) λ_=>⟨2,bz,bA⟩]
 |⟨2,bz,bA⟩=>[.fix true false [.val (.int .u32 0)] (qv T 0) ⟨3,bz,bA⟩,.fix true false [.val (.int .u32 1)] (qv T 1) ⟨7,bz,bA⟩]
 |⟨3,bz,bA⟩=>[.lift 57 #[pt bz,pt bA] (λ_:Unit=>unit) λ_=>⟨4,bz,bA⟩]
 |⟨4,bz,bA⟩=>[.ord 91 0 MW JR λ_=>⟨5,bz,bA⟩]
 |⟨5,bz,bA⟩=>[.fix true false [] [.mark (.extern 123),.store .atomic ⟨T,4,none⟩ (.int .u32 1)] ⟨7,bz,bA⟩]
 |⟨7,bz,bA⟩=>[.lift 122 (uH T) (λ_:Unit=>unit) λ_=>⟨8,bz,bA⟩]
 |⟨8,_,_⟩=>[.leave unit]
 |_=>[]
noncomputable def iV(T:Nat):cS DP:=⟨Tryz.prog,gn,Im,.normal,λ_=>[],λ_=>400,FN T⟩
set_option maxRecDepth 100000 in
def FQ(T bz bA:Nat):Good (iV T) 20 ⟨0,bz,bA⟩ (Frame.enter Tryz.prog 56 (qO T bz bA) .normal,[]):=by all_goals repeat' (first|exact trivial|kernel_rfl|refine⟨?_,?_⟩|intro _)
noncomputable def Kv:Array Oper:=opsOf Tryz.f37 1
noncomputable def Kw:Array Oper:=opsOf Tryz.f37 2
abbrev Io:FuncId->Bool:=λf=>f == 56
def x8:List gO:=[.st 2 0 (ad 1),.st 2 1 (ad 1),.st 2 2 (ad 3),.st 2 3 (ad 0),.st 2 4 (ad 3)]
noncomputable def KA(T:Nat):rH->List (Edge rH)
 |⟨0,_,_,_,_,M⟩=>[.new true (.cells #[pt T] 60 (0,0)) λb=>⟨1,[],b,0,0,M++[(true,b,.cells #[pt T] 60 (0,0))]⟩]
 |⟨1,_,bz,_,_,M⟩=>[.new true (.cells #[i0] 3 (0,0)) λb=>⟨2,[],bz,b,0,M++[(true,b,.cells #[i0] 3 (0,0))]⟩]
 |⟨2,_,bz,bA,_,M⟩=>[.new true (.cells #[i0,i0,i0,i0,i0] 102 (0,0)) λb=>⟨3,[],bz,bA,b,M++[(true,b,.cells #[i0,i0,i0,i0,i0] 102 (0,0))]⟩]
 |⟨3,_,bz,bA,cL,M⟩=>[.ord 37 1 Kv JP λr=>⟨4,r.filter (· < 2),bz,bA,cL,M⟩]
 |⟨4,0::r,bz,bA,cL,M⟩=>[.bH [.ld 0 0] ⟨4,r,bz,bA,cL,M⟩]
 |⟨4,1::r,bz,bA,cL,M⟩=>[.bH [.ld 1 0] ⟨4,r,bz,bA,cL,M⟩]
 |⟨4,[],bz,bA,cL,M⟩=>[.lift 56 (qO T bz bA) (λ_:Unit=>unit) λ_=>⟨14,[],bz,bA,cL,M⟩]
 |⟨14,_,bz,bA,cL,M⟩=>[.ord 37 2 Kw JQ λr=>⟨15,r.filter (· < 2),bz,bA,cL,M⟩]
 |⟨15,0::r,bz,bA,cL,M⟩=>[.bH [.ld 0 0] ⟨15,r,bz,bA,cL,M⟩]
 |⟨15,1::r,bz,bA,cL,M⟩=>[.bH [.ld 1 0] ⟨15,r,bz,bA,cL,M⟩]
 |⟨15,[],bz,bA,cL,M⟩=>[.fix false false [.val (ad 1),.val (ad 1),.val (ad 3),.val (ad 0),.val (ad 3)] (r' false T) ⟨16,[],bz,bA,cL,M⟩]
 |⟨16,_,bz,bA,cL,M⟩=>[.bH x8 ⟨17,[],bz,bA,cL,cK M x8⟩]
 |⟨17,_,_,_,_,_⟩=>[.jP (qD 2 0) gX]
 |_=>[]
noncomputable def hn(T:Nat)(kd:CallKind):cS rH:=⟨Tryz.prog,gn,Io,kd,λp=>p.M,λ_=>400,KA T⟩
set_option maxRecDepth 100000 in
def KD(T:Nat)(kd:CallKind)(c:kd=.normal\/kd=.deferred):Good (hn T kd) 40 ⟨0,[],0,0,0,[]⟩ (Frame.enter Tryz.prog 37 #[pt T,.int .i64 0] kd,[]):=by
 rcases c with rfl|rfl
 all_goals repeat' (first|exact trivial|kernel_rfl|refine⟨?_,?_⟩|intro _)
end Go.aN
