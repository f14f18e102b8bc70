/- Part 9 of a law on fees: no conditions. -/
import Derived.Test.YthiiblonjmmnfaaGreatDoorP5
set_option maxHeartbeats 8000000
set_option maxRecDepth 100000
set_option linter.all false
namespace Go.aN
attribute [-simp] Go.Sem.runT_eq
open Go.Proofs
section
section
variable(T o:Nat)(bB:TypeId×Nat)
abbrev ie:Addr:=⟨T,o+1,none⟩
abbrev q2:Addr:=⟨T,o+2,none⟩
def qu(f:FuncId)(v n:Int):List cr:=[.mark (.extern f),.shape T (some bB),.frozen (ie T o) false,.load .atomic (ie T o) (.int .i32 v),.store .atomic (ie T o) (.int .i32 n)]
def xe(f:FuncId)(v:Int):List cr:=[.mark (.extern f),.shape T (some bB),.frozen (ie T o) false,.load .atomic (ie T o) (.int .i32 v)]
def nM(v:Int):List df:=[.mC (some bB),.tZ false,.val (.int .i32 v)]
inductive iT where
 |h4|iF|hy|fz|aq|fin|ld|sp (it:Nat)|rs (it:Nat)|pC|jW|bu|t1|ow (a:Int)|t2 (a:Int)|mZ (a b:Int)|rw|c2
 deriving DecidableEq
def IE:iT->List (Edge iT)
 |.h4=>[.fix true false [] [.mark (.extern 104),.mark .disable] .iF]
 |.iF=>[.fix true false (nM bB 0) (qu T o bB 136 0 1) .hy,.fix true false (nM bB 1) (xe T o bB 136 1) .ld]
 |.hy=>[.fix true false [] [.mark (.extern 105),.mark .enable] .fz]
 |.fz=>[.fix true false [.mC (some bB),.mC (some bB)] [.shape T (some bB),.shape T (some bB)] .aq]
 |.aq=>[.fix true false [] [.mark (.extern 116),.mark (.acquire (ie T o))] .fin]
 |.fin=>[.leave (.tuple #[])]
 |.ld=>[.fix true false [.val (.int .i32 1)] [.load .plain (ie T o) (.int .i32 1)] (.sp 0),.fix true false [.val (.int .i32 0)] [.load .plain (ie T o) (.int .i32 0)] .bu]
 |.sp it=>[.fix true false [.num 0] [.mark (.extern 141),.choose (.extern "runtime_canSpin" 2) 0] .pC,.fix true false [.num 1] [.mark (.extern 141),.choose (.extern "runtime_canSpin" 2) 1] (.rs it)]
 |.rs it=>[.fix true false [.val (.int .i32 1)] [.load .plain (ie T o) (.int .i32 1)] (if it<3 then .sp (it+1)else .pC),.fix true false [.val (.int .i32 0)] [.load .plain (ie T o) (.int .i32 0)] .bu]
 |.pC=>[.fix true false (nM bB 1) (qu T o bB 136 1 9) .t1,.fix true false (nM bB 0) (xe T o bB 136 0) .jW]
 |.jW=>[.fix true false [.val (.int .i32 0)] [.load .plain (ie T o) (.int .i32 0)] .bu]
 |.bu=>[.fix true false (nM bB 0) (qu T o bB 136 0 1) .hy]
 |.t1=>[.clock 144 .ow]
 |.ow a=>[.wait [.val (.int .u32 0)] [.mark (.extern 145),.mark .disable,.load .atomic (q2 T o) (.int .u32 0)],.fix true false [.val (.int .u32 1)] [.mark (.extern 145),.mark .disable,.load .atomic (q2 T o) (.int .u32 1),.store .atomic (q2 T o) (.int .u32 0),.mark .enable] (.t2 a)]
 |.t2 a=>[.clock 144 (.mZ a)]
 |.mZ a b=>[.fix true false [.cmp true] [.nV (decide (1000000<IntKind.i64.wrap (b-a))) true] .rw,.fix true false [.cmp false] [.nV (decide (1000000<IntKind.i64.wrap (b-a))) false] .rw]
 |.rw=>[.fix true false [.val (.int .i32 2)] [.load .plain (ie T o) (.int .i32 2)] .c2]
 |.c2=>[.fix true false (nM bB 2) (qu T o bB 136 2 1) .hy]
end
def IC:iT->Nat
 |.mZ _ _=>2
 |_=>400
noncomputable def uC(T o:Nat)(bB:TypeId×Nat)(kd:CallKind):cS iT:=⟨Tryz.prog,gn,λ_=>false,kd,λ_=>[],IC,IE T o bB⟩
set_option maxRecDepth 100000 in
def IG(T:Nat)(kd:CallKind)(c:kd=.normal\/kd=.deferred):Good (uC T 4 (105,28) kd) 40 .h4 (Frame.enter Tryz.prog 121 #[.pointer (some ⟨T,5,none⟩)] kd,[]):=by
 rcases c with rfl|rfl
 all_goals repeat' (first|exact trivial|kernel_rfl|refine⟨?_,?_⟩|intro _)
inductive lI where
 |ld|fz|ck|h4|add|iF|cJ|hy|fin
 deriving DecidableEq
def Oe(T o:Nat)(bB:TypeId×Nat):lI->List (Edge lI)
 |.ld=>[.fix true false [.val (.int .i32 1)] [.load .plain (ie T o) (.int .i32 1)] .fz,.fix true false [.val (.int .i32 9)] [.load .plain (ie T o) (.int .i32 9)] .fz]
 |.fz=>[.fix true false [.mC (some bB),.mC (some bB)] [.shape T (some bB),.shape T (some bB)] .ck]
 |.ck=>[.fix true false [] [.mark (.extern 103),.mark (.releaseMerge (ie T o))] .h4]
 |.h4=>[.fix true false [] [.mark (.extern 104),.mark .disable] .add]
 |.add=>[.fix true false [.val (.int .i32 1)] [.mark (.extern 138),.load .atomic (ie T o) (.int .i32 1),.store .atomic (ie T o) (.int .i32 0)] .hy,
  .fix true false [.val (.int .i32 9)] [.mark (.extern 138),.load .atomic (ie T o) (.int .i32 9),.store .atomic (ie T o) (.int .i32 8)] .iF]
 |.iF=>[.fix true false (nM bB 8) (qu T o bB 136 8 2) .cJ]
 |.cJ=>[.fix true true [.val (.int .u32 0)] [.mark (.extern 147),.mark .disable,.load .atomic (q2 T o) (.int .u32 0),.store .atomic (q2 T o) (.int .u32 1),.mark .enable] .hy]
 |.hy=>[.fix true false [] [.mark (.extern 105),.mark .enable] .fin]
 |.fin=>[.leave (.tuple #[])]
noncomputable def vw(T o:Nat)(bB:TypeId×Nat)(kd:CallKind):cS lI:=⟨Tryz.prog,gn,λ_=>false,kd,λ_=>[],λ_=>400,Oe T o bB⟩
set_option maxRecDepth 100000 in
def Og(T:Nat)(kd:CallKind)(c:kd=.normal\/kd=.deferred):Good (vw T 4 (105,28) kd) 20 .ld (Frame.enter Tryz.prog 122 #[.pointer (some ⟨T,5,none⟩)] kd,[]):=by
 rcases c with rfl|rfl
 all_goals repeat' (first|exact trivial|kernel_rfl|refine⟨?_,?_⟩|intro _)
end
end Go.aN
