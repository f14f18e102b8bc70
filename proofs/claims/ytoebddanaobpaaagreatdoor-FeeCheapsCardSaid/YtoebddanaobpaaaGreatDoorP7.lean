/- A part. -/
import Derived.Test.YtoebddanaobpaaaGreatDoorP4
set_option maxHeartbeats 8000000
set_option maxRecDepth 100000
set_option linter.all false
namespace Go.aO
attribute [-simp] Go.Sem.runT_eq
open Go.Proofs Tryz
section
section
variable(T o:Nat)(bK:Tg×Nat)
abbrev jE:TD:=(S8 T (o+1))
abbrev sZ:TD:=(S8 T (o+2))
def sm(f:Tw)(v n:Int):Tb cD:=[.mark (.extern f),.shape T (some bK),.frozen (jE T o) false,.load .atomic (jE T o) (.int .i32 v),.store .atomic (jE T o) (.int .i32 n)]
def zu(f:Tw)(v:Int):Tb cD:=[.mark (.extern f),.shape T (some bK),.frozen (jE T o) false,.load .atomic (jE T o) (.int .i32 v)]
def pC(v:Int):Tb dO:=[.oe (some bK),.wv false,.val (.int .i32 v)]
inductive kg where
 |jr|jX|h6|gH|aq|fin|ld|sp (it:Nat)|rs (it:Nat)|rj|ln|bx|t1|qf (a:Int)|t2 (a:Int)|oH (a b:Int)|rw|c2
 deriving DecidableEq
def LN:kg->Tb (Edge kg)
 |.jr=>[.fix true false [] [.mark (.extern 106),.mark .disable] .jX]
 |.jX=>[.fix true false (pC bK 0) (sm T o bK 149 0 1) .h6,.fix true false (pC bK 1) (zu T o bK 149 1) .ld]
 |.h6=>[.fix true false [] [.mark (.extern 107),.mark .enable] .gH]
 |.gH=>[.fix true false [.oe (some bK),.oe (some bK)] [.shape T (some bK),.shape T (some bK)] .aq]
 |.aq=>[.fix true false [] [.mark (.extern 118),.mark (.acquire (jE T o))] .fin]
 |.fin=>[.leave (.tuple #[])]
 |.ld=>[.fix true false [.val (.int .i32 1)] [.load .plain (jE T o) (.int .i32 1)] (.sp 0),.fix true false [.val (.int .i32 0)] [.load .plain (jE T o) (.int .i32 0)] .bx]
 |.sp it=>[.fix true false [.num 0] [.mark (.extern 154),.choose (.extern "runtime_canSpin" 2) 0] .rj,.fix true false [.num 1] [.mark (.extern 154),.choose (.extern "runtime_canSpin" 2) 1] (.rs it)]
 |.rs it=>[.fix true false [.val (.int .i32 1)] [.load .plain (jE T o) (.int .i32 1)] (if it<3 then .sp (it+1)else .rj),.fix true false [.val (.int .i32 0)] [.load .plain (jE T o) (.int .i32 0)] .bx]
 |.rj=>[.fix true false (pC bK 1) (sm T o bK 149 1 9) .t1,.fix true false (pC bK 0) (zu T o bK 149 0) .ln]
 |.ln=>[.fix true false [.val (.int .i32 0)] [.load .plain (jE T o) (.int .i32 0)] .bx]
 |.bx=>[.fix true false (pC bK 0) (sm T o bK 149 0 1) .h6]
 |.t1=>[.clock 157 .qf]
 |.qf a=>[.wait [.val (.int .u32 0)] [.mark (.extern 158),.mark .disable,.load .atomic (sZ T o) (.int .u32 0)],.fix true false [.val (.int .u32 1)] [.mark (.extern 158),.mark .disable,.load .atomic (sZ T o) (.int .u32 1),.store .atomic (sZ T o) (.int .u32 0),.mark .enable] (.t2 a)]
 |.t2 a=>[.clock 157 (.oH a)]
 |.oH a b=>[.fix true false [.cmp true] [.pN (decide (1000000<IntKind.i64.wrap (b-a))) true] .rw,.fix true false [.cmp false] [.pN (decide (1000000<IntKind.i64.wrap (b-a))) false] .rw]
 |.rw=>[.fix true false [.val (.int .i32 2)] [.load .plain (jE T o) (.int .i32 2)] .c2]
 |.c2=>[.fix true false (pC bK 2) (sm T o bK 149 2 1) .h6]
end
def LL:kg->Nat
 |.oH _ _=>2
 |_=>400
noncomputable def wY(T o:Nat)(bK:Tg×Nat)(kd:Tx):de kg:=⟨prog,hv,λ_=>false,kd,λ_=>[],LL,LN T o bK⟩
set_option maxRecDepth 100000 in
def LP(T:Nat)(kd:Tx)(c:TG kd):Good (wY T 4 (132,28) kd) 40 .jr (Frame.enter prog 134 #[T1 T 5] kd,[]):=by rcases c with rfl|rfl<;>exact fX
inductive m7 where
 |ld|gH|cx|jr|add|jX|db|h6|fin
 deriving DecidableEq
def RE(T o:Nat)(bK:Tg×Nat):m7->Tb (Edge m7)
 |.ld=>[.fix true false [.val (.int .i32 1)] [.load .plain (jE T o) (.int .i32 1)] .gH,.fix true false [.val (.int .i32 9)] [.load .plain (jE T o) (.int .i32 9)] .gH]
 |.gH=>[.fix true false [.oe (some bK),.oe (some bK)] [.shape T (some bK),.shape T (some bK)] .cx]
 |.cx=>[.fix true false [] [.mark (.extern 105),.mark (.releaseMerge (jE T o))] .jr]
 |.jr=>[.fix true false [] [.mark (.extern 106),.mark .disable] .add]
 |.add=>[.fix true false [.val (.int .i32 1)] [.mark (.extern 151),.load .atomic (jE T o) (.int .i32 1),.store .atomic (jE T o) (.int .i32 0)] .h6,
  .fix true false [.val (.int .i32 9)] [.mark (.extern 151),.load .atomic (jE T o) (.int .i32 9),.store .atomic (jE T o) (.int .i32 8)] .jX]
 |.jX=>[.fix true false (pC bK 8) (sm T o bK 149 8 2) .db]
 |.db=>[.fix true true [.val (.int .u32 0)] [.mark (.extern 160),.mark .disable,.load .atomic (sZ T o) (.int .u32 0),.store .atomic (sZ T o) (.int .u32 1),.mark .enable] .h6]
 |.h6=>[.fix true false [] [.mark (.extern 107),.mark .enable] .fin]
 |.fin=>[.leave (.tuple #[])]
noncomputable def x8(T o:Nat)(bK:Tg×Nat)(kd:Tx):de m7:=⟨prog,hv,λ_=>false,kd,λ_=>[],λ_=>400,RE T o bK⟩
set_option maxRecDepth 100000 in
def RG(T:Nat)(kd:Tx)(c:TG kd):Good (x8 T 4 (132,28) kd) 20 .ld (Frame.enter prog 135 #[T1 T 5] kd,[]):=by rcases c with rfl|rfl<;>exact fX
end
end Go.aO
