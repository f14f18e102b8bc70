/- A part. -/
import Derived.Test.YtoebddanaobpaaaGreatDoorP4
set_option maxHeartbeats 8000000
set_option maxRecDepth 100000
set_option linter.all false
namespace Go.aO
attribute [-simp] Go.Sem.runT_eq
open Go.Proofs Tryz
section
noncomputable def Ql:Tv Oper:=opsOf f104 0
section
variable(W:Nat)
abbrev gr:TD:=(Ti W)
abbrev hn:TD:=(S8 W 1)
abbrev oo:Tg×Nat:=(208,2)
def q2(v n:Int):Tb cD:=[.mark (.extern 139),.load .atomic (gr W) (.int .u64 v),.store .atomic (gr W) (.int .u64 n)]
def wC:Tb cD:=[.shape W (some oo),.shape W (some oo)]
def vA:Tb dO:=[.oe (some oo),.oe (some oo)]
def tK(v:Int):Tb dO:=[.oe (some oo),.wv false,.val (.int .u64 v)]
def zt(v n:Int):Tb cD:=[.mark (.extern 142),.shape W (some oo),.frozen (gr W) false,.load .atomic (gr W) (.int .u64 v),.store .atomic (gr W) (.int .u64 n)]
def wB(v:Int):Tb cD:=[.mark (.extern 142),.shape W (some oo),.frozen (gr W) false,.load .atomic (gr W) (.int .u64 v)]
def oN(v:Int):Tb cD:=[.mark (.extern 140),.load .atomic (gr W) (.int .u64 v)]
end
abbrev box(b:Nat):TD:=(Ti b)
abbrev pt(b:Nat):S9:=.pointer (some (box b))
noncomputable def born(f:Tw)(c:Te):bA:=({(default:TB)with fn:=prog.funcs.size,defers:=[⟨.fn (.func f) c,#[]⟩],mode:=.panicking [goexitEntry]},[])
structure mi where
 W:Nat
 cg:Nat
 lZ:Nat
 bc:Nat
 ej:Nat
 ch:Nat
 T:Nat
 i:Int
def dC:Te:=#[.int .i64 0,.int .i64 20,.int .i64 26,.int .i64 46,.int .i64 50]
def ib(c:mi):Mem:=[(false,c.cg,.cells #[.chan (some c.ch)] 203 (0,0)),(false,c.lZ,.cells #[.int .i64 c.i] 3 (0,0)),(false,c.bc,.cells #[pt c.T] 71 (0,0)),(false,c.ej,.cells dC 52 (0,0))]
def four(v:Nat×Nat):S9:=Ts v.1 4 v.2
def Ex:Tb TA:=[[0,1,2,3,4,5,6],[0,1,3,2,4,5,6],[0,2,1,3,4,5,6],[0,2,3,1,4,5,6],[0,2,3,4,1,5,6],[0,3,1,2,4,5,6],[0,3,2,1,4,5,6],[0,3,2,4,1,5,6],[1,0,2,3,4,5,6],[1,0,3,2,4,5,6],[1,2,0,3,4,5,6],[1,2,3,0,4,5,6],[1,2,3,4,0,5,6],[1,2,3,4,5,0,6],[1,3,0,2,4,5,6],[1,3,2,0,4,5,6],[1,3,2,4,0,5,6],[1,3,2,4,5,0,6],[2,0,1,3,4,5,6],[2,0,3,1,4,5,6],[2,0,3,4,1,5,6],[2,1,0,3,4,5,6],[2,1,3,0,4,5,6],[2,1,3,4,0,5,6],[2,1,3,4,5,0,6],[2,3,0,1,4,5,6],[2,3,0,4,1,5,6],[2,3,1,0,4,5,6],[2,3,1,4,0,5,6],[2,3,1,4,5,0,6],[2,3,4,0,1,5,6],[2,3,4,1,0,5,6],[2,3,4,1,5,0,6],[3,0,1,2,4,5,6],[3,0,2,1,4,5,6],[3,0,2,4,1,5,6],[3,1,0,2,4,5,6],[3,1,2,0,4,5,6],[3,1,2,4,0,5,6],[3,1,2,4,5,0,6],[3,2,0,1,4,5,6],[3,2,0,4,1,5,6],[3,2,1,0,4,5,6],[3,2,1,4,0,5,6],[3,2,1,4,5,0,6],[3,2,4,0,1,5,6],[3,2,4,1,0,5,6],[3,2,4,1,5,0,6]]
inductive h5 where
 |b6|g (rem:TA)|h (rem:TA) (v:Nat×Nat)|snd (v:Nat×Nat)|d0|d1|d2|d3|d4|d5|d7|d6|fin
noncomputable def Sf:Tv Oper:=opsOf f90 1
abbrev wX:Tw->Ta:=λf=>f == 38
noncomputable def mV(c:mi):bA:=born 90 #[pt c.W,pt c.cg,pt c.lZ,pt c.bc,pt c.ej]
noncomputable def Bx(c:mi)(v:Nat×Nat):bA:=
 let Y:=sF prog hv wX 400;let y:=Y (Y (Y (Y (Y (mV c) [.ord [0,1,2,3,4,5,6]]) [.val (.chan (some c.ch))]) [.val (.int .i64 c.i)]) [.val (pt c.T)]) (dC.toList.map .val);let z:=nk prog hv wX 400 y;nk prog hv wX 400 (z.1.finish (four v),z.2)
noncomputable def Sk(c:mi):h5->Tb (Edge h5)
 |.b6=>[.ord 90 1 Sf Ex .g]
 |.g (0::r)=>[.bL [.ld 0 0] (.g r)]
 |.g (1::r)=>[.bL [.ld 1 0] (.g r)]
 |.g (2::r)=>[.bL [.ld 2 0] (.g r)]
 |.g (3::r)=>[.bL [.ld 3 0,.ld 3 1,.ld 3 2,.ld 3 3,.ld 3 4] (.g r)]
 |.g (4::r)=>[.lift 38 #[pt c.T,.agg dC] four (.h (r.filter (λn=>!(n == 5))))]
 |.h (0::r) v=>[.bL [.ld 0 0] (.h r v)]
 |.h (1::r) v=>[.bL [.ld 1 0] (.h r v)]
 |.h (6::_) v=>[.join (Bx c v) (.snd v)]
 |.snd v=>[.comm #[{chan:=.chan (some c.ch),send:=some (.agg #[.int .i64 c.i,four v]),zero:=.tuple #[]}] true .send (λ_:Unit=>undef) (λ_=>.d0)]
 |.d0=>[.fix true false vA (wC c.W) .d1]
 |.d1=>[.fix true false [] [.mark (.extern 105),.mark (.releaseMerge (gr c.W))] .d2]
 |.d2=>[.fix true false [] [.mark (.extern 106),.mark .disable] .d3]
 |.d3=>[.fix true false [.val (.int .u64 8589934592)] (q2 c.W 8589934592 4294967296) .d6,.fix true false [.val (.int .u64 4294967296)] (q2 c.W 4294967296 0) .d6,
  .fix true false [.val (.int .u64 8589934593)] (q2 c.W 8589934593 4294967297) .d6,.fix true false [.val (.int .u64 4294967297)] (q2 c.W 4294967297 1) .d4]
 |.d4=>[.fix true false [.val (.int .u64 1)] (oN c.W 1) .d5]
 |.d5=>[.fix true false [] [.mark (.extern 141),.store .atomic (gr c.W) (.int .u64 0)] .d7]
 |.d7=>[.fix true true [.val (.int .u32 0)] [.mark (.extern 117),.mark .disable,.load .atomic (hn c.W) (.int .u32 0),.store .atomic (hn c.W) (.int .u32 1),.mark .enable] .d6]
 |.d6=>[.fix true false [] [.mark (.extern 107),.mark .enable] .fin]
 |.fin=>[.done]
 |_=>[]
noncomputable def fP(c:mi):de h5:=⟨prog,hv,wX,.normal,λ_=>ib c,λ_=>400,Sk c⟩
set_option maxRecDepth 100000 in
def Sm(W c d bc f ch T:Nat)(i:Int)(v:Nat×Nat):Good (fP ⟨W,c,d,bc,f,ch,T,i⟩) 18 (.snd v) (Bx ⟨W,c,d,bc,f,ch,T,i⟩ v):=by repeat' (first|exact Tf|kernel_rfl|refine⟨?_,?_⟩|intro _)
set_option maxRecDepth 100000 in
def G'(W c d bc f ch T:Nat)(i:Int):Good (fP ⟨W,c,d,bc,f,ch,T,i⟩) 30 .b6 (mV ⟨W,c,d,bc,f,ch,T,i⟩):=by repeat' (first|exact Tf|exact Good.mono a6 (Sm W c d bc f ch T i _)|kernel_rfl|refine⟨?_,?_⟩|intro _)
end
inductive gO where
 |bx|c1 (m:Nat)|c2 (m:Nat)|c3|c4|gq|pI|pK|vK|cg|k1|cn|fin
structure yo where
 W:Nat
 cg:Nat
 ch:Nat
def m9(c:yo):Mem:=[(false,c.cg,.cells #[.chan (some c.ch)] 203 (0,0))]
def IX(c:yo):gO->Tb (Edge gO)
 |.bx=>[.fix true false [] [.mark (.extern 106),.mark .disable] (.c1 2)]
 |.c1 0=>[.fix true false [.val (.int .u64 0)] (oN c.W 0) .pK]
 |.c1 1=>[.fix true false [.val (.int .u64 0)] (oN c.W 0) .pK,.fix true false [.val (.int .u64 4294967296)] (oN c.W 4294967296) (.c2 1)]
 |.c1 _=>[.fix true false [.val (.int .u64 0)] (oN c.W 0) .pK,.fix true false [.val (.int .u64 4294967296)] (oN c.W 4294967296) (.c2 1),.fix true false [.val (.int .u64 8589934592)] (oN c.W 8589934592) (.c2 2)]
 |.c2 1=>[.fix true false (tK 4294967296) (zt c.W 4294967296 4294967297) .c3,.fix true false (tK 0) (wB c.W 0) (.c1 0)]
 |.c2 _=>[.fix true false (tK 8589934592) (zt c.W 8589934592 8589934593) .c3,.fix true false (tK 4294967296) (wB c.W 4294967296) (.c1 1),.fix true false (tK 0) (wB c.W 0) (.c1 0)]
 |.c3=>[.fix true false vA (wC c.W) .c4]
 |.c4=>[.fix true false [] [.mark (.extern 121),.mark (.write (hn c.W))] .gq]
 |.gq=>[.wait [.val (.int .u32 0)] [.mark (.extern 122),.mark .disable,.load .atomic (hn c.W) (.int .u32 0)],
  .fix true false [.val (.int .u32 1)] [.mark (.extern 122),.mark .disable,.load .atomic (hn c.W) (.int .u32 1),.store .atomic (hn c.W) (.int .u32 0),.mark .enable] .pI]
 |.pI=>[.fix true false [.val (.int .u64 0)] (oN c.W 0) .pK]
 |.pK=>[.fix true false [] [.mark (.extern 107),.mark .enable] .vK]
 |.vK=>[.fix true false vA (wC c.W) .cg]
 |.cg=>[.fix true false [] [.mark (.extern 118),.mark (.acquire (gr c.W))] .k1]
 |.k1=>[.bL [.ld 0 0] .cn]
 |.cn=>[.fix true true [.obj (.chan 0 #[] false 2 2 false)] [.getObj c.ch (.chan 0 #[] false 2 2 false),.setObj c.ch (.chan 0 #[] true 2 2 false)] .fin]
 |.fin=>[.done]
noncomputable def yY(c:yo):de gO:=⟨prog,hv,λ_=>false,.normal,λ_=>m9 c,λ_=>400,IX c⟩
set_option maxRecDepth 100000 in
def IY(W c ch:Nat):Good (yY ⟨W,c,ch⟩) 30 .bx (born 92 #[pt W,pt c]):=by all_goals exact fX
structure fR where
 T:Nat
 L:Nat
 bc:Nat:=0
 O:Nat:=0
 ch:Nat:=0
 cg:Nat:=0
 W:Nat:=0
 j0:Nat:=0
 kq:Nat:=0
 jC:Nat:=0
 jP:Nat:=0
 k:Ta:=false
 r:Nat×Nat:=(0,0)
structure eY where
 l:Nat
 c:fR
 M:Mem
def dg:S9:=.slice none 0 0
def idx:Ta->S9
 |false=>.int .i64 0
 |true=>.int .i64 1
def p7:Ta->Nat
 |false=>0
 |true=>1
def oP:TI (Ta×Nat×Nat)->S9
 |none=>.tuple #[.agg #[.int .i64 0,dg],.bool false]
 |some (k,r)=>.tuple #[.agg #[idx k,four r],.bool true]
def i0:S9:=.int .i64 0
def toGot(l:Nat)(c:fR)(M:Mem):TI (Ta×Nat×Nat)->eY
 |none=>if l=40 then⟨41,c,M⟩else⟨99,c,M⟩
 |some (k,r)=>if l=40 then⟨99,c,M⟩else⟨l+1,{c with k:=k,r:=r},M⟩
def toRecv(l:Nat)(c:fR)(M:Mem):Tb (Edge eY):=
 [.comm #[{chan:=.chan (some c.ch),send:=none,zero:=.agg #[.int .i64 0,dg]}] true (.recv true) oP (toGot l c M)]
def eA(l:Nat)(c:fR)(M:Mem)(ops:Tb gZ):Tb (Edge eY):=[.bL ops ⟨l+1,c,c0 M ops⟩]
def pU(l:Nat)(c:fR)(M:Mem)(an:Tb dO)(d:Tb cD):Tb (Edge eY):=[.fix true false an d ⟨l+1,c,M⟩]
def sA(i o:Nat):Tb gZ:=[.ld i o,.ld i (o+1),.ld i (o+2),.ld i (o+3),.ld i (o+4)]
def Gk(i:Nat):Tb gZ:=[.st i 0 (.int .i64 0),.st i 1 (.int .i64 20),.st i 2 (.int .i64 26),.st i 3 (.int .i64 46),.st i 4 (.int .i64 50)]
def L1:eY->Tb (Edge eY)
 |⟨0,c,M⟩=>[.new true (.cells #[pt c.T] 71 (0,0)) λb=>⟨1,{c with bc:=b},M++[(true,b,.cells #[pt c.T] 71 (0,0))]⟩]
 |⟨1,c,M⟩=>[.new true (.cells #[dg,dg] 22 (0,0)) λb=>⟨2,{c with O:=b},M++[(true,b,.cells #[dg,dg] 22 (0,0))]⟩]
 |⟨2,c,M⟩=>[.new false (.chan 0 #[] false 0 0 false) λb=>⟨3,{c with ch:=b},M⟩]
 |⟨3,c,M⟩=>[.new true (.cells #[.chan none] 203 (0,0)) λb=>⟨4,{c with cg:=b},M++[(true,b,.cells #[.chan none] 203 (0,0))]⟩]
 |⟨4,c,M⟩=>eA 4 c M [.st 3 0 (.chan (some c.ch))]
 |⟨5,c,M⟩=>[.new false (.cells #[.int .u64 0,.int .u32 0] 208 (0,0)) λb=>⟨6,{c with W:=b},M⟩]
 |⟨6,c,M⟩=>eA 6 c M (sA 0 0)
 |⟨7,c,M⟩=>[.new true (.cells #[i0] 3 (0,0)) λb=>⟨8,{c with j0:=b},M++[(true,b,.cells #[i0] 3 (0,0))]⟩]
 |⟨8,c,M⟩=>[.new true (.cells #[i0,i0,i0,i0,i0] 52 (0,0)) λb=>⟨9,{c with kq:=b},M++[(true,b,.cells #[i0,i0,i0,i0,i0] 52 (0,0))]⟩]
 |⟨9,c,M⟩=>eA 9 c M [.st 4 0 (.int .i64 0)]
 |⟨10,c,M⟩=>eA 10 c M (Gk 5)
 |⟨11,c,M⟩=>pU 11 c M [] [.mark (.extern 106),.mark .disable]
 |⟨12,c,M⟩=>pU 12 c M [.val (.int .u64 0)] (q2 c.W 0 4294967296)
 |⟨13,c,M⟩=>pU 13 c M vA (wC c.W)
 |⟨14,c,M⟩=>pU 14 c M [] [.mark (.extern 113),.mark (.read (hn c.W))]
 |⟨15,c,M⟩=>pU 15 c M [] [.mark (.extern 107),.mark .enable]
 |⟨16,c,M⟩=>[.spawn (.func 90) #[pt c.W,pt c.cg,pt c.j0,pt c.bc,pt c.kq] #[] [1,3,4,5] ⟨17,c,oZ M [1,3,4,5]⟩]
 |⟨17,c,M⟩=>eA 17 c M (sA 0 5)
 |⟨18,c,M⟩=>[.new true (.cells #[i0] 3 (0,0)) λb=>⟨19,{c with jC:=b},M++[(true,b,.cells #[i0] 3 (0,0))]⟩]
 |⟨19,c,M⟩=>[.new true (.cells #[i0,i0,i0,i0,i0] 52 (0,0)) λb=>⟨20,{c with jP:=b},M++[(true,b,.cells #[i0,i0,i0,i0,i0] 52 (0,0))]⟩]
 |⟨20,c,M⟩=>eA 20 c M [.st 6 0 (.int .i64 1)]
 |⟨21,c,M⟩=>eA 21 c M (Gk 7)
 |⟨22,c,M⟩=>pU 22 c M [] [.mark (.extern 106),.mark .disable]
 |⟨23,c,M⟩=>pU 23 c M [.val (.int .u64 4294967296)] (q2 c.W 4294967296 8589934592)
 |⟨24,c,M⟩=>pU 24 c M [] [.mark (.extern 107),.mark .enable]
 |⟨25,c,M⟩=>[.spawn (.func 90) #[pt c.W,pt c.cg,pt c.jC,pt c.bc,pt c.jP] #[] [6,7] ⟨26,c,oZ M [6,7]⟩]
 |⟨26,c,M⟩=>[.spawn (.func 92) #[pt c.W,pt c.cg] #[] [] ⟨27,c,M⟩]
 |⟨27,c,M⟩=>eA 27 c M [.ld 3 0]
 |⟨28,c,M⟩=>toRecv 28 c M
 |⟨29,c,M⟩=>[.new true (.cells #[i0,dg] 210 (0,0)) λb=>⟨30,c,M++[(true,b,.cells #[i0,dg] 210 (0,0))]⟩]
 |⟨30,c,M⟩=>eA 30 c M [.st 8 0 (idx c.k),.st 8 1 (four c.r)]
 |⟨31,c,M⟩=>eA 31 c M [.ld 8 0]
 |⟨32,c,M⟩=>eA 32 c M [.ld 8 1]
 |⟨33,c,M⟩=>eA 33 c M [.st 2 (p7 c.k) (four c.r)]
 |⟨34,c,M⟩=>toRecv 34 c M
 |⟨35,c,M⟩=>[.new true (.cells #[i0,dg] 210 (0,0)) λb=>⟨36,c,M++[(true,b,.cells #[i0,dg] 210 (0,0))]⟩]
 |⟨36,c,M⟩=>eA 36 c M [.st 9 0 (idx c.k),.st 9 1 (four c.r)]
 |⟨37,c,M⟩=>eA 37 c M [.ld 9 0]
 |⟨38,c,M⟩=>eA 38 c M [.ld 9 1]
 |⟨39,c,M⟩=>eA 39 c M [.st 2 (p7 c.k) (four c.r)]
 |⟨40,c,M⟩=>toRecv 40 c M
 |⟨41,c,_⟩=>[.leave (.slice (some (box c.O)) 2 2)]
 |_=>[]
noncomputable def kn(kd:Tx):de eY:=⟨prog,hv,λ_=>false,kd,λp=>p.M,λ_=>400,L1⟩
def hf:Obj:=.cells #[.int .i64 0,.int .i64 20,.int .i64 26,.int .i64 46,.int .i64 50,.int .i64 0,.int .i64 20,.int .i64 26,.int .i64 46,.int .i64 50] 52 (0,0)
def L0(T L:Nat):eY:=⟨0,{T:=T,L:=L},[(false,L,hf)]⟩
set_option maxRecDepth 100000 in
def L2(T L:Nat)(kd:Tx)(c:TG kd):Good (kn kd) 60 (L0 T L) (Frame.enter prog 71 #[pt T,.slice (some (box L)) 2 2] kd,[]):=by
 rcases c with rfl|rfl
 all_goals repeat' (first|exact Tf|kernel_rfl|refine⟨?_,?_⟩|refine λ(_:Nat)=>?_|rintro(_|⟨_|_,_,_⟩)|intro _)
structure eG where
 T:Nat
 F:Nat
 R:Nat
 gx:Nat
 gy:Nat
 Fr:Nat
abbrev ah(n:Int):S9:=.int .i64 n
abbrev Tn(n:Int):TZ:=some (ah n)
abbrev sl(b n:Nat):S9:=Ts b n n
structure rM where
 l:Nat
 rem:TA
 M:Mem
def iT:S9:=.agg #[ah 1,ah 1,ah 3,ah 0,ah 3]
def ua(m:Ta)(T:Nat):Tb cD:=
 let f:=λ(o:Nat) (v:Int)=>if m then cD.store .plain (S8 T o) (ah v)else cD.load .plain (S8 T o) (ah v)
 [f 13 1,f 14 1,f 15 3,f 16 0,f 17 3]
def MX:Tb TA:=[[0,1,2,3,4,5,6],[0,1,3,2,4,5,6],[0,1,3,4,2,5,6],[0,2,1,3,4,5,6],[0,2,3,1,4,5,6],[0,2,3,4,1,5,6],[0,3,1,2,4,5,6],[0,3,1,4,2,5,6],[0,3,2,1,4,5,6],[0,3,2,4,1,5,6],[0,3,4,1,2,5,6],[0,3,4,2,1,5,6],[1,0,2,3,4,5,6],[1,0,3,2,4,5,6],[1,0,3,4,2,5,6],[1,2,0,3,4,5,6],[2,0,1,3,4,5,6],[2,0,3,1,4,5,6],[2,0,3,4,1,5,6],[2,1,0,3,4,5,6]]
noncomputable def IE:Tv Oper:=opsOf f70 14
noncomputable def IL(c:eG):rM->Tb (Edge rM)
 |⟨0,_,M⟩=>[.new true (.cells #[i0,i0,i0,i0,i0] 129 (0,0)) λb=>⟨1,[],M++[(true,b,.cells #[i0,i0,i0,i0,i0] 129 (0,0))]⟩]
 |⟨1,_,M⟩=>[.bL [.ld 0 0] ⟨2,[],c0 M [.ld 0 0]⟩]
 |⟨2,_,M⟩=>[.fix false false [.val (sl c.R 2)] [.load .plain (S8 c.T 2) (sl c.R 2)] ⟨3,[],M⟩]
 |⟨3,_,M⟩=>[.bL [.ld 2 0,.ld 2 1] ⟨4,[],c0 M [.ld 2 0,.ld 2 1]⟩]
 |⟨4,_,M⟩=>[.new true (.cells #[i0,dg] 27 (0,0)) λb=>⟨5,[],M++[(true,b,.cells #[i0,dg] 27 (0,0))]⟩]
 |⟨5,_,M⟩=>[.bL [.st 7 0 (ah 0),.st 7 1 (sl c.gx 2)] ⟨6,[],c0 M [.st 7 0 (ah 0),.st 7 1 (sl c.gx 2)]⟩]
 |⟨6,_,M⟩=>[.bL [.ld 7 0] ⟨7,[],c0 M [.ld 7 0]⟩]
 |⟨7,_,M⟩=>[.bL [.ld 7 1] ⟨8,[],c0 M [.ld 7 1]⟩]
 |⟨8,_,M⟩=>[.bL [.ld 1 0] ⟨9,[],c0 M [.ld 1 0]⟩]
 |⟨9,_,M⟩=>[.bL [.ld 3 0] ⟨10,[],c0 M [.ld 3 0]⟩]
 |⟨10,_,M⟩=>[.bL [.st 6 0 (ah 1)] ⟨11,[],c0 M [.st 6 0 (ah 1)]⟩]
 |⟨11,_,M⟩=>[.bL [.ld 7 1] ⟨12,[],c0 M [.ld 7 1]⟩]
 |⟨12,_,M⟩=>[.bL [.ld 1 0] ⟨13,[],c0 M [.ld 1 0]⟩]
 |⟨13,_,M⟩=>[.bL [.ld 3 0] ⟨14,[],c0 M [.ld 3 0]⟩]
 |⟨14,_,M⟩=>[.bL [.st 6 1 (ah 1)] ⟨15,[],c0 M [.st 6 1 (ah 1)]⟩]
 |⟨15,_,M⟩=>[.bL [.ld 7 1] ⟨16,[],c0 M [.ld 7 1]⟩]
 |⟨16,_,M⟩=>[.bL [.ld 1 0] ⟨17,[],c0 M [.ld 1 0]⟩]
 |⟨17,_,M⟩=>[.bL [.ld 3 0] ⟨18,[],c0 M [.ld 3 0]⟩]
 |⟨18,_,M⟩=>[.bL [.st 6 2 (ah 1)] ⟨19,[],c0 M [.st 6 2 (ah 1)]⟩]
 |⟨19,_,M⟩=>[.bL [.ld 7 1] ⟨20,[],c0 M [.ld 7 1]⟩]
 |⟨20,_,M⟩=>[.bL [.ld 1 0] ⟨21,[],c0 M [.ld 1 0]⟩]
 |⟨21,_,M⟩=>[.bL [.ld 3 0] ⟨22,[],c0 M [.ld 3 0]⟩]
 |⟨22,_,M⟩=>[.bL [.st 6 3 (ah 1)] ⟨23,[],c0 M [.st 6 3 (ah 1)]⟩]
 |⟨23,_,M⟩=>[.bL [.ld 7 1] ⟨24,[],c0 M [.ld 7 1]⟩]
 |⟨24,_,M⟩=>[.bL [.ld 1 0] ⟨25,[],c0 M [.ld 1 0]⟩]
 |⟨25,_,M⟩=>[.bL [.ld 3 0] ⟨26,[],c0 M [.ld 3 0]⟩]
 |⟨26,_,M⟩=>[.bL [.st 6 4 (ah 1)] ⟨27,[],c0 M [.st 6 4 (ah 1)]⟩]
 |⟨27,_,M⟩=>[.bL [.ld 2 2,.ld 2 3] ⟨28,[],c0 M [.ld 2 2,.ld 2 3]⟩]
 |⟨28,_,M⟩=>[.new true (.cells #[i0,dg] 27 (0,0)) λb=>⟨29,[],M++[(true,b,.cells #[i0,dg] 27 (0,0))]⟩]
 |⟨29,_,M⟩=>[.bL [.st 8 0 (ah 2),.st 8 1 (sl c.gy 2)] ⟨30,[],c0 M [.st 8 0 (ah 2),.st 8 1 (sl c.gy 2)]⟩]
 |⟨30,_,M⟩=>[.bL [.ld 8 0] ⟨31,[],c0 M [.ld 8 0]⟩]
 |⟨31,_,M⟩=>[.bL [.ld 8 1] ⟨32,[],c0 M [.ld 8 1]⟩]
 |⟨32,_,M⟩=>[.bL [.ld 1 0] ⟨33,[],c0 M [.ld 1 0]⟩]
 |⟨33,_,M⟩=>[.bL [.ld 4 0] ⟨34,[],c0 M [.ld 4 0]⟩]
 |⟨34,_,M⟩=>[.bL [.st 6 2 (ah 3)] ⟨35,[],c0 M [.st 6 2 (ah 3)]⟩]
 |⟨35,_,M⟩=>[.bL [.ld 8 1] ⟨36,[],c0 M [.ld 8 1]⟩]
 |⟨36,_,M⟩=>[.bL [.ld 1 0] ⟨37,[],c0 M [.ld 1 0]⟩]
 |⟨37,_,M⟩=>[.bL [.ld 4 0] ⟨38,[],c0 M [.ld 4 0]⟩]
 |⟨38,_,M⟩=>[.bL [.st 6 3 (ah 3)] ⟨39,[],c0 M [.st 6 3 (ah 3)]⟩]
 |⟨39,_,M⟩=>[.bL [.ld 8 1] ⟨40,[],c0 M [.ld 8 1]⟩]
 |⟨40,_,M⟩=>[.bL [.ld 1 0] ⟨41,[],c0 M [.ld 1 0]⟩]
 |⟨41,_,M⟩=>[.bL [.ld 4 0] ⟨42,[],c0 M [.ld 4 0]⟩]
 |⟨42,_,M⟩=>[.bL [.st 6 4 (ah 3)] ⟨43,[],c0 M [.st 6 4 (ah 3)]⟩]
 |⟨43,_,M⟩=>[.bL [.ld 0 0] ⟨44,[],c0 M [.ld 0 0]⟩]
 |⟨44,_,M⟩=>[.fix false false [.val (sl c.Fr 1)] [.load .plain (S8 c.T 3) (sl c.Fr 1)] ⟨45,[],M⟩]
 |⟨45,_,M⟩=>[.bL [.ld 5 0] ⟨46,[],c0 M [.ld 5 0]⟩]
 |⟨46,_,M⟩=>[.bL [.st 6 3 (ah 0)] ⟨47,[],c0 M [.st 6 3 (ah 0)]⟩]
 |⟨47,_,M⟩=>[.ord 70 14 IE MX λr=>⟨48,r.filter (· < 3),M⟩]
 |⟨48,0::r,M⟩=>[.bL [.ld 0 0] ⟨48,r,M⟩]
 |⟨48,1::r,M⟩=>[.bL [.ld 1 0] ⟨48,r,M⟩]
 |⟨48,2::r,M⟩=>[.bL (sA 6 0) ⟨48,r,M⟩]
 |⟨48,[],M⟩=>[.fix false false [] (ua true c.T) ⟨49,[],M⟩]
 |⟨49,_,_⟩=>[.leave (.tuple #[])]
 |_=>[]
noncomputable def vO(c:eG):de rM:=⟨prog,hv,λ_=>false,.normal,λp=>p.M,λ_=>400,IL c⟩
def qQ(c:eG)(bG bH:Nat):Mem:=[(false,bG,.cells #[pt c.T] 71 (0,0)),(false,bH,.cells #[i0] 3 (0,0)),(false,c.R,.cells #[ah 0,sl c.gx 2,ah 2,sl c.gy 2] 27 (0,0)),(false,c.gx,.cells #[ah 1,ah 2] 3 (0,0)),(false,c.gy,.cells #[ah 3,ah 1] 3 (0,0)),(false,c.Fr,.cells #[ah 3] 3 (0,0))]
set_option maxRecDepth 100000 in
def IT(T F R d f c bG bH:Nat):Good (vO ⟨T,F,R,d,f,c⟩) 60 ⟨0,[],qQ ⟨T,F,R,d,f,c⟩ bG bH⟩ (Frame.enter prog 70 #[pt bG,pt bH] .normal,[]):=by repeat' (first|exact Tf|kernel_rfl|refine⟨?_,?_⟩|intro _)
end Go.aO
