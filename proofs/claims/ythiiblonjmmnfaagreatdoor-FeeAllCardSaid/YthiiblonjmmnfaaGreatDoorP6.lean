/- Part 7 of a law on fees: no conditions. -/
import Derived.Test.YthiiblonjmmnfaaGreatDoorP5
set_option maxHeartbeats 8000000
set_option maxRecDepth 100000
set_option linter.all false
namespace Go.aN
attribute [-simp] Go.Sem.runT_eq
open Go.Proofs
section
noncomputable def MW:Array Oper:=opsOf Tryz.f91 0
section
variable(W:Nat)
abbrev fj:Addr:=⟨W,0,none⟩
abbrev gS:Addr:=⟨W,1,none⟩
abbrev mI:TypeId×Nat:=(199,2)
def pd(v n:Int):List cr:=[.mark (.extern 132),.load .atomic (fj W) (.int .u64 v),.store .atomic (fj W) (.int .u64 n)]
def ug:List cr:=[.shape W (some mI),.shape W (some mI)]
def ts:List df:=[.mC (some mI),.mC (some mI)]
def rM(v:Int):List df:=[.mC (some mI),.tZ false,.val (.int .u64 v)]
def xd(v n:Int):List cr:=[.mark (.extern 135),.shape W (some mI),.frozen (fj W) false,.load .atomic (fj W) (.int .u64 v),.store .atomic (fj W) (.int .u64 n)]
def uf(v:Int):List cr:=[.mark (.extern 135),.shape W (some mI),.frozen (fj W) false,.load .atomic (fj W) (.int .u64 v)]
def m5(v:Int):List cr:=[.mark (.extern 133),.load .atomic (fj W) (.int .u64 v)]
end
abbrev box(b:Nat):Addr:=⟨b,0,none⟩
abbrev pt(b:Nat):Value:=.pointer (some (box b))
noncomputable def born(f:FuncId)(c:Array Value):bs:=({(default:Frame)with fn:=Tryz.prog.funcs.size,defers:=[⟨.fn (.func f) c,#[]⟩],mode:=.panicking [goexitEntry]},[])
structure kT where
 W:Nat
 bX:Nat
 kG:Nat
 a7:Nat
 dD:Nat
 ch:Nat
 T:Nat
 i:Int
def c8:Array Value:=#[.int .i64 0,.int .i64 20,.int .i64 26,.int .i64 46,.int .i64 50]
def gZ(c:kT):Mem:=[(false,c.bX,.cells #[.chan (some c.ch)] 194 (0,0)),(false,c.kG,.cells #[.int .i64 c.i] 3 (0,0)),(false,c.a7,.cells #[pt c.T] 60 (0,0)),(false,c.dD,.cells c8 32 (0,0))]
def four(v:Nat×Nat):Value:=.slice (some ⟨v.1,0,none⟩) 4 v.2
def BN:List (List Nat):=[[0,1,2,3,4,5,6],[0,1,3,2,4,5,6],[0,2,1,3,4,5,6],[0,2,3,1,4,5,6],[0,2,3,4,1,5,6],[0,3,1,2,4,5,6],[0,3,2,1,4,5,6],[0,3,2,4,1,5,6],[1,0,2,3,4,5,6],[1,0,3,2,4,5,6],[1,2,0,3,4,5,6],[1,2,3,0,4,5,6],[1,2,3,4,0,5,6],[1,2,3,4,5,0,6],[1,3,0,2,4,5,6],[1,3,2,0,4,5,6],[1,3,2,4,0,5,6],[1,3,2,4,5,0,6],[2,0,1,3,4,5,6],[2,0,3,1,4,5,6],[2,0,3,4,1,5,6],[2,1,0,3,4,5,6],[2,1,3,0,4,5,6],[2,1,3,4,0,5,6],[2,1,3,4,5,0,6],[2,3,0,1,4,5,6],[2,3,0,4,1,5,6],[2,3,1,0,4,5,6],[2,3,1,4,0,5,6],[2,3,1,4,5,0,6],[2,3,4,0,1,5,6],[2,3,4,1,0,5,6],[2,3,4,1,5,0,6],[3,0,1,2,4,5,6],[3,0,2,1,4,5,6],[3,0,2,4,1,5,6],[3,1,0,2,4,5,6],[3,1,2,0,4,5,6],[3,1,2,4,0,5,6],[3,1,2,4,5,0,6],[3,2,0,1,4,5,6],[3,2,0,4,1,5,6],[3,2,1,0,4,5,6],[3,2,1,4,0,5,6],[3,2,1,4,5,0,6],[3,2,4,0,1,5,6],[3,2,4,1,0,5,6],[3,2,4,1,5,0,6]]
inductive gR where
 |bP|g (rem:List Nat)|h (rem:List Nat) (v:Nat×Nat)|snd (v:Nat×Nat)|d0|d1|d2|d3|d4|d5|d7|d6|fin
noncomputable def OT:Array Oper:=opsOf Tryz.f80 1
abbrev uB:FuncId->Bool:=λf=>f == 23
noncomputable def lx(c:kT):bs:=born 80 #[pt c.W,pt c.bX,pt c.kG,pt c.a7,pt c.dD]
noncomputable def y5(c:kT)(v:Nat×Nat):bs:=
 let Y:=qH Tryz.prog gn uB 400;let y:=Y (Y (Y (Y (Y (lx c) [.ord [0,1,2,3,4,5,6]]) [.val (.chan (some c.ch))]) [.val (.int .i64 c.i)]) [.val (pt c.T)]) (c8.toList.map .val);let z:=lS Tryz.prog gn uB 400 y;lS Tryz.prog gn uB 400 (z.1.finish (four v),z.2)
noncomputable def OX(c:kT):gR->List (Edge gR)
 |.bP=>[.ord 80 1 OT BN .g]
 |.g (0::r)=>[.bH [.ld 0 0] (.g r)]
 |.g (1::r)=>[.bH [.ld 1 0] (.g r)]
 |.g (2::r)=>[.bH [.ld 2 0] (.g r)]
 |.g (3::r)=>[.bH [.ld 3 0,.ld 3 1,.ld 3 2,.ld 3 3,.ld 3 4] (.g r)]
 |.g (4::r)=>[.lift 23 #[pt c.T,.agg c8] four (.h (r.filter (λn=>!(n == 5))))]
 |.h (0::r) v=>[.bH [.ld 0 0] (.h r v)]
 |.h (1::r) v=>[.bH [.ld 1 0] (.h r v)]
 |.h (6::_) v=>[.join (y5 c v) (.snd v)]
 |.snd v=>[.comm #[{chan:=.chan (some c.ch),send:=some (.agg #[.int .i64 c.i,four v]),zero:=.tuple #[]}] true .send (λ_:Unit=>undef) (λ_=>.d0)]
 |.d0=>[.fix true false ts (ug c.W) .d1]
 |.d1=>[.fix true false [] [.mark (.extern 103),.mark (.releaseMerge (fj c.W))] .d2]
 |.d2=>[.fix true false [] [.mark (.extern 104),.mark .disable] .d3]
 |.d3=>[.fix true false [.val (.int .u64 8589934592)] (pd c.W 8589934592 4294967296) .d6,.fix true false [.val (.int .u64 4294967296)] (pd c.W 4294967296 0) .d6,
  .fix true false [.val (.int .u64 8589934593)] (pd c.W 8589934593 4294967297) .d6,.fix true false [.val (.int .u64 4294967297)] (pd c.W 4294967297 1) .d4]
 |.d4=>[.fix true false [.val (.int .u64 1)] (m5 c.W 1) .d5]
 |.d5=>[.fix true false [] [.mark (.extern 134),.store .atomic (fj c.W) (.int .u64 0)] .d7]
 |.d7=>[.fix true true [.val (.int .u32 0)] [.mark (.extern 115),.mark .disable,.load .atomic (gS c.W) (.int .u32 0),.store .atomic (gS c.W) (.int .u32 1),.mark .enable] .d6]
 |.d6=>[.fix true false [] [.mark (.extern 105),.mark .enable] .fin]
 |.fin=>[.done]
 |_=>[]
noncomputable def eZ(c:kT):cS gR:=⟨Tryz.prog,gn,uB,.normal,λ_=>gZ c,λ_=>400,OX c⟩
set_option maxRecDepth 100000 in
def OZ(W c d a7 f ch T:Nat)(i:Int)(v:Nat×Nat):Good (eZ ⟨W,c,d,a7,f,ch,T,i⟩) 18 (.snd v) (y5 ⟨W,c,d,a7,f,ch,T,i⟩ v):=by repeat' (first|exact trivial|kernel_rfl|refine⟨?_,?_⟩|intro _)
set_option maxRecDepth 100000 in
def D6(W c d a7 f ch T:Nat)(i:Int):Good (eZ ⟨W,c,d,a7,f,ch,T,i⟩) 30 .bP (lx ⟨W,c,d,a7,f,ch,T,i⟩):=by repeat' (first|exact trivial|exact Good.mono (by decide) (OZ W c d a7 f ch T i _)|kernel_rfl|refine⟨?_,?_⟩|intro _)
end
inductive fG where
 |bu|c1 (m:Nat)|c2 (m:Nat)|c3|c4|fi|nS|nT|tD|bX|k1|cc|fin
structure vN where
 W:Nat
 bX:Nat
 ch:Nat
def lK(c:vN):Mem:=[(false,c.bX,.cells #[.chan (some c.ch)] 194 (0,0))]
def FC(c:vN):fG->List (Edge fG)
 |.bu=>[.fix true false [] [.mark (.extern 104),.mark .disable] (.c1 2)]
 |.c1 0=>[.fix true false [.val (.int .u64 0)] (m5 c.W 0) .nT]
 |.c1 1=>[.fix true false [.val (.int .u64 0)] (m5 c.W 0) .nT,.fix true false [.val (.int .u64 4294967296)] (m5 c.W 4294967296) (.c2 1)]
 |.c1 _=>[.fix true false [.val (.int .u64 0)] (m5 c.W 0) .nT,.fix true false [.val (.int .u64 4294967296)] (m5 c.W 4294967296) (.c2 1),.fix true false [.val (.int .u64 8589934592)] (m5 c.W 8589934592) (.c2 2)]
 |.c2 1=>[.fix true false (rM 4294967296) (xd c.W 4294967296 4294967297) .c3,.fix true false (rM 0) (uf c.W 0) (.c1 0)]
 |.c2 _=>[.fix true false (rM 8589934592) (xd c.W 8589934592 8589934593) .c3,.fix true false (rM 4294967296) (uf c.W 4294967296) (.c1 1),.fix true false (rM 0) (uf c.W 0) (.c1 0)]
 |.c3=>[.fix true false ts (ug c.W) .c4]
 |.c4=>[.fix true false [] [.mark (.extern 119),.mark (.write (gS c.W))] .fi]
 |.fi=>[.wait [.val (.int .u32 0)] [.mark (.extern 120),.mark .disable,.load .atomic (gS c.W) (.int .u32 0)],
  .fix true false [.val (.int .u32 1)] [.mark (.extern 120),.mark .disable,.load .atomic (gS c.W) (.int .u32 1),.store .atomic (gS c.W) (.int .u32 0),.mark .enable] .nS]
 |.nS=>[.fix true false [.val (.int .u64 0)] (m5 c.W 0) .nT]
 |.nT=>[.fix true false [] [.mark (.extern 105),.mark .enable] .tD]
 |.tD=>[.fix true false ts (ug c.W) .bX]
 |.bX=>[.fix true false [] [.mark (.extern 116),.mark (.acquire (fj c.W))] .k1]
 |.k1=>[.bH [.ld 0 0] .cc]
 |.cc=>[.fix true true [.obj (.chan 0 #[] false 2 2 false)] [.getObj c.ch (.chan 0 #[] false 2 2 false),.setObj c.ch (.chan 0 #[] true 2 2 false)] .fin]
 |.fin=>[.done]
noncomputable def wE(c:vN):cS fG:=⟨Tryz.prog,gn,λ_=>false,.normal,λ_=>lK c,λ_=>400,FC c⟩
set_option maxRecDepth 100000 in
def FD(W c ch:Nat):Good (wE ⟨W,c,ch⟩) 30 .bu (born 82 #[pt W,pt c]):=by all_goals repeat' (first|exact trivial|kernel_rfl|refine⟨?_,?_⟩|intro _)
structure e0 where
 T:Nat
 L:Nat
 a7:Nat:=0
 O:Nat:=0
 ch:Nat:=0
 bX:Nat:=0
 W:Nat:=0
 iH:Nat:=0
 ja:Nat:=0
 ib:Nat:=0
 ix:Nat:=0
 k:Bool:=false
 r:Nat×Nat:=(0,0)
structure eg where
 l:Nat
 c:e0
 M:Mem
def cN:Value:=.slice none 0 0
def idx:Bool->Value
 |false=>.int .i64 0
 |true=>.int .i64 1
def og:Bool->Nat
 |false=>0
 |true=>1
def m6:Option (Bool×Nat×Nat)->Value
 |none=>.tuple #[.agg #[.int .i64 0,cN],.bool false]
 |some (k,r)=>.tuple #[.agg #[idx k,four r],.bool true]
def i0:Value:=.int .i64 0
def toGot(l:Nat)(c:e0)(M:Mem):Option (Bool×Nat×Nat)->eg
 |none=>if l=40 then⟨41,c,M⟩else⟨99,c,M⟩
 |some (k,r)=>if l=40 then⟨99,c,M⟩else⟨l+1,{c with k:=k,r:=r},M⟩
def toRecv(l:Nat)(c:e0)(M:Mem):List (Edge eg):=
 [.comm #[{chan:=.chan (some c.ch),send:=none,zero:=.agg #[.int .i64 0,cN]}] true (.recv true) m6 (toGot l c M)]
def dV(l:Nat)(c:e0)(M:Mem)(ops:List gO):List (Edge eg):=[.bH ops ⟨l+1,c,cK M ops⟩]
def n1(l:Nat)(c:e0)(M:Mem)(an:List df)(d:List cr):List (Edge eg):=[.fix true false an d ⟨l+1,c,M⟩]
def qD(i o:Nat):List gO:=[.ld i o,.ld i (o+1),.ld i (o+2),.ld i (o+3),.ld i (o+4)]
def Dl(i:Nat):List gO:=[.st i 0 (.int .i64 0),.st i 1 (.int .i64 20),.st i 2 (.int .i64 26),.st i 3 (.int .i64 46),.st i 4 (.int .i64 50)]
def IW:eg->List (Edge eg)
 |⟨0,c,M⟩=>[.new true (.cells #[pt c.T] 60 (0,0)) λb=>⟨1,{c with a7:=b},M++[(true,b,.cells #[pt c.T] 60 (0,0))]⟩]
 |⟨1,c,M⟩=>[.new true (.cells #[cN,cN] 22 (0,0)) λb=>⟨2,{c with O:=b},M++[(true,b,.cells #[cN,cN] 22 (0,0))]⟩]
 |⟨2,c,M⟩=>[.new false (.chan 0 #[] false 0 0 false) λb=>⟨3,{c with ch:=b},M⟩]
 |⟨3,c,M⟩=>[.new true (.cells #[.chan none] 194 (0,0)) λb=>⟨4,{c with bX:=b},M++[(true,b,.cells #[.chan none] 194 (0,0))]⟩]
 |⟨4,c,M⟩=>dV 4 c M [.st 3 0 (.chan (some c.ch))]
 |⟨5,c,M⟩=>[.new false (.cells #[.int .u64 0,.int .u32 0] 199 (0,0)) λb=>⟨6,{c with W:=b},M⟩]
 |⟨6,c,M⟩=>dV 6 c M (qD 0 0)
 |⟨7,c,M⟩=>[.new true (.cells #[i0] 3 (0,0)) λb=>⟨8,{c with iH:=b},M++[(true,b,.cells #[i0] 3 (0,0))]⟩]
 |⟨8,c,M⟩=>[.new true (.cells #[i0,i0,i0,i0,i0] 32 (0,0)) λb=>⟨9,{c with ja:=b},M++[(true,b,.cells #[i0,i0,i0,i0,i0] 32 (0,0))]⟩]
 |⟨9,c,M⟩=>dV 9 c M [.st 4 0 (.int .i64 0)]
 |⟨10,c,M⟩=>dV 10 c M (Dl 5)
 |⟨11,c,M⟩=>n1 11 c M [] [.mark (.extern 104),.mark .disable]
 |⟨12,c,M⟩=>n1 12 c M [.val (.int .u64 0)] (pd c.W 0 4294967296)
 |⟨13,c,M⟩=>n1 13 c M ts (ug c.W)
 |⟨14,c,M⟩=>n1 14 c M [] [.mark (.extern 111),.mark (.read (gS c.W))]
 |⟨15,c,M⟩=>n1 15 c M [] [.mark (.extern 105),.mark .enable]
 |⟨16,c,M⟩=>[.spawn (.func 80) #[pt c.W,pt c.bX,pt c.iH,pt c.a7,pt c.ja] #[] [1,3,4,5] ⟨17,c,nd M [1,3,4,5]⟩]
 |⟨17,c,M⟩=>dV 17 c M (qD 0 5)
 |⟨18,c,M⟩=>[.new true (.cells #[i0] 3 (0,0)) λb=>⟨19,{c with ib:=b},M++[(true,b,.cells #[i0] 3 (0,0))]⟩]
 |⟨19,c,M⟩=>[.new true (.cells #[i0,i0,i0,i0,i0] 32 (0,0)) λb=>⟨20,{c with ix:=b},M++[(true,b,.cells #[i0,i0,i0,i0,i0] 32 (0,0))]⟩]
 |⟨20,c,M⟩=>dV 20 c M [.st 6 0 (.int .i64 1)]
 |⟨21,c,M⟩=>dV 21 c M (Dl 7)
 |⟨22,c,M⟩=>n1 22 c M [] [.mark (.extern 104),.mark .disable]
 |⟨23,c,M⟩=>n1 23 c M [.val (.int .u64 4294967296)] (pd c.W 4294967296 8589934592)
 |⟨24,c,M⟩=>n1 24 c M [] [.mark (.extern 105),.mark .enable]
 |⟨25,c,M⟩=>[.spawn (.func 80) #[pt c.W,pt c.bX,pt c.ib,pt c.a7,pt c.ix] #[] [6,7] ⟨26,c,nd M [6,7]⟩]
 |⟨26,c,M⟩=>[.spawn (.func 82) #[pt c.W,pt c.bX] #[] [] ⟨27,c,M⟩]
 |⟨27,c,M⟩=>dV 27 c M [.ld 3 0]
 |⟨28,c,M⟩=>toRecv 28 c M
 |⟨29,c,M⟩=>[.new true (.cells #[i0,cN] 201 (0,0)) λb=>⟨30,c,M++[(true,b,.cells #[i0,cN] 201 (0,0))]⟩]
 |⟨30,c,M⟩=>dV 30 c M [.st 8 0 (idx c.k),.st 8 1 (four c.r)]
 |⟨31,c,M⟩=>dV 31 c M [.ld 8 0]
 |⟨32,c,M⟩=>dV 32 c M [.ld 8 1]
 |⟨33,c,M⟩=>dV 33 c M [.st 2 (og c.k) (four c.r)]
 |⟨34,c,M⟩=>toRecv 34 c M
 |⟨35,c,M⟩=>[.new true (.cells #[i0,cN] 201 (0,0)) λb=>⟨36,c,M++[(true,b,.cells #[i0,cN] 201 (0,0))]⟩]
 |⟨36,c,M⟩=>dV 36 c M [.st 9 0 (idx c.k),.st 9 1 (four c.r)]
 |⟨37,c,M⟩=>dV 37 c M [.ld 9 0]
 |⟨38,c,M⟩=>dV 38 c M [.ld 9 1]
 |⟨39,c,M⟩=>dV 39 c M [.st 2 (og c.k) (four c.r)]
 |⟨40,c,M⟩=>toRecv 40 c M
 |⟨41,c,_⟩=>[.leave (.slice (some (box c.O)) 2 2)]
 |_=>[]
noncomputable def iX(kd:CallKind):cS eg:=⟨Tryz.prog,gn,λ_=>false,kd,λp=>p.M,λ_=>400,IW⟩
def fZ:Obj:=.cells #[.int .i64 0,.int .i64 20,.int .i64 26,.int .i64 46,.int .i64 50,.int .i64 0,.int .i64 20,.int .i64 26,.int .i64 46,.int .i64 50] 32 (0,0)
def IV(T L:Nat):eg:=⟨0,{T:=T,L:=L},[(false,L,fZ)]⟩
set_option maxRecDepth 100000 in
def IX(T L:Nat)(kd:CallKind)(c:kd=.normal\/kd=.deferred):Good (iX kd) 60 (IV T L) (Frame.enter Tryz.prog 64 #[pt T,.slice (some (box L)) 2 2] kd,[]):=by
 rcases c with rfl|rfl
 all_goals repeat' (first|exact trivial|kernel_rfl|refine⟨?_,?_⟩|refine λ(_:Nat)=>?_|rintro(_|⟨_|_,_,_⟩)|intro _)
structure dr where
 T:Nat
 F:Nat
 R:Nat
 fl:Nat
 fo:Nat
 Fr:Nat
abbrev ad(n:Int):Value:=.int .i64 n
abbrev sl(b n:Nat):Value:=.slice (some ⟨b,0,none⟩) n n
structure pY where
 l:Nat
 rem:List Nat
 M:Mem
def gX:Value:=.agg #[ad 1,ad 1,ad 3,ad 0,ad 3]
def r'(m:Bool)(T:Nat):List cr:=
 let f:=λ(o:Nat) (v:Int)=>if m then cr.store .plain ⟨T,o,none⟩ (ad v)else cr.load .plain ⟨T,o,none⟩ (ad v)
 [f 13 1,f 14 1,f 15 3,f 16 0,f 17 3]
def JO:List (List Nat):=[[0,1,2,3,4,5,6],[0,1,3,2,4,5,6],[0,1,3,4,2,5,6],[0,2,1,3,4,5,6],[0,2,3,1,4,5,6],[0,2,3,4,1,5,6],[0,3,1,2,4,5,6],[0,3,1,4,2,5,6],[0,3,2,1,4,5,6],[0,3,2,4,1,5,6],[0,3,4,1,2,5,6],[0,3,4,2,1,5,6],[1,0,2,3,4,5,6],[1,0,3,2,4,5,6],[1,0,3,4,2,5,6],[1,2,0,3,4,5,6],[2,0,1,3,4,5,6],[2,0,3,1,4,5,6],[2,0,3,4,1,5,6],[2,1,0,3,4,5,6]]
noncomputable def Fj:Array Oper:=opsOf Tryz.f57 14
noncomputable def Fu(c:dr):pY->List (Edge pY)
 |⟨0,_,M⟩=>[.new true (.cells #[i0,i0,i0,i0,i0] 102 (0,0)) λb=>⟨1,[],M++[(true,b,.cells #[i0,i0,i0,i0,i0] 102 (0,0))]⟩]
 |⟨1,_,M⟩=>[.bH [.ld 0 0] ⟨2,[],cK M [.ld 0 0]⟩]
 |⟨2,_,M⟩=>[.fix false false [.val (sl c.R 2)] [.load .plain ⟨c.T,2,none⟩ (sl c.R 2)] ⟨3,[],M⟩]
 |⟨3,_,M⟩=>[.bH [.ld 2 0,.ld 2 1] ⟨4,[],cK M [.ld 2 0,.ld 2 1]⟩]
 |⟨4,_,M⟩=>[.new true (.cells #[i0,cN] 55 (0,0)) λb=>⟨5,[],M++[(true,b,.cells #[i0,cN] 55 (0,0))]⟩]
 |⟨5,_,M⟩=>[.bH [.st 7 0 (ad 0),.st 7 1 (sl c.fl 2)] ⟨6,[],cK M [.st 7 0 (ad 0),.st 7 1 (sl c.fl 2)]⟩]
 |⟨6,_,M⟩=>[.bH [.ld 7 0] ⟨7,[],cK M [.ld 7 0]⟩]
 |⟨7,_,M⟩=>[.bH [.ld 7 1] ⟨8,[],cK M [.ld 7 1]⟩]
 |⟨8,_,M⟩=>[.bH [.ld 1 0] ⟨9,[],cK M [.ld 1 0]⟩]
 |⟨9,_,M⟩=>[.bH [.ld 3 0] ⟨10,[],cK M [.ld 3 0]⟩]
 |⟨10,_,M⟩=>[.bH [.st 6 0 (ad 1)] ⟨11,[],cK M [.st 6 0 (ad 1)]⟩]
 |⟨11,_,M⟩=>[.bH [.ld 7 1] ⟨12,[],cK M [.ld 7 1]⟩]
 |⟨12,_,M⟩=>[.bH [.ld 1 0] ⟨13,[],cK M [.ld 1 0]⟩]
 |⟨13,_,M⟩=>[.bH [.ld 3 0] ⟨14,[],cK M [.ld 3 0]⟩]
 |⟨14,_,M⟩=>[.bH [.st 6 1 (ad 1)] ⟨15,[],cK M [.st 6 1 (ad 1)]⟩]
 |⟨15,_,M⟩=>[.bH [.ld 7 1] ⟨16,[],cK M [.ld 7 1]⟩]
 |⟨16,_,M⟩=>[.bH [.ld 1 0] ⟨17,[],cK M [.ld 1 0]⟩]
 |⟨17,_,M⟩=>[.bH [.ld 3 0] ⟨18,[],cK M [.ld 3 0]⟩]
 |⟨18,_,M⟩=>[.bH [.st 6 2 (ad 1)] ⟨19,[],cK M [.st 6 2 (ad 1)]⟩]
 |⟨19,_,M⟩=>[.bH [.ld 7 1] ⟨20,[],cK M [.ld 7 1]⟩]
 |⟨20,_,M⟩=>[.bH [.ld 1 0] ⟨21,[],cK M [.ld 1 0]⟩]
 |⟨21,_,M⟩=>[.bH [.ld 3 0] ⟨22,[],cK M [.ld 3 0]⟩]
 |⟨22,_,M⟩=>[.bH [.st 6 3 (ad 1)] ⟨23,[],cK M [.st 6 3 (ad 1)]⟩]
 |⟨23,_,M⟩=>[.bH [.ld 7 1] ⟨24,[],cK M [.ld 7 1]⟩]
 |⟨24,_,M⟩=>[.bH [.ld 1 0] ⟨25,[],cK M [.ld 1 0]⟩]
 |⟨25,_,M⟩=>[.bH [.ld 3 0] ⟨26,[],cK M [.ld 3 0]⟩]
 |⟨26,_,M⟩=>[.bH [.st 6 4 (ad 1)] ⟨27,[],cK M [.st 6 4 (ad 1)]⟩]
 |⟨27,_,M⟩=>[.bH [.ld 2 2,.ld 2 3] ⟨28,[],cK M [.ld 2 2,.ld 2 3]⟩]
 |⟨28,_,M⟩=>[.new true (.cells #[i0,cN] 55 (0,0)) λb=>⟨29,[],M++[(true,b,.cells #[i0,cN] 55 (0,0))]⟩]
 |⟨29,_,M⟩=>[.bH [.st 8 0 (ad 2),.st 8 1 (sl c.fo 2)] ⟨30,[],cK M [.st 8 0 (ad 2),.st 8 1 (sl c.fo 2)]⟩]
 |⟨30,_,M⟩=>[.bH [.ld 8 0] ⟨31,[],cK M [.ld 8 0]⟩]
 |⟨31,_,M⟩=>[.bH [.ld 8 1] ⟨32,[],cK M [.ld 8 1]⟩]
 |⟨32,_,M⟩=>[.bH [.ld 1 0] ⟨33,[],cK M [.ld 1 0]⟩]
 |⟨33,_,M⟩=>[.bH [.ld 4 0] ⟨34,[],cK M [.ld 4 0]⟩]
 |⟨34,_,M⟩=>[.bH [.st 6 2 (ad 3)] ⟨35,[],cK M [.st 6 2 (ad 3)]⟩]
 |⟨35,_,M⟩=>[.bH [.ld 8 1] ⟨36,[],cK M [.ld 8 1]⟩]
 |⟨36,_,M⟩=>[.bH [.ld 1 0] ⟨37,[],cK M [.ld 1 0]⟩]
 |⟨37,_,M⟩=>[.bH [.ld 4 0] ⟨38,[],cK M [.ld 4 0]⟩]
 |⟨38,_,M⟩=>[.bH [.st 6 3 (ad 3)] ⟨39,[],cK M [.st 6 3 (ad 3)]⟩]
 |⟨39,_,M⟩=>[.bH [.ld 8 1] ⟨40,[],cK M [.ld 8 1]⟩]
 |⟨40,_,M⟩=>[.bH [.ld 1 0] ⟨41,[],cK M [.ld 1 0]⟩]
 |⟨41,_,M⟩=>[.bH [.ld 4 0] ⟨42,[],cK M [.ld 4 0]⟩]
 |⟨42,_,M⟩=>[.bH [.st 6 4 (ad 3)] ⟨43,[],cK M [.st 6 4 (ad 3)]⟩]
 |⟨43,_,M⟩=>[.bH [.ld 0 0] ⟨44,[],cK M [.ld 0 0]⟩]
 |⟨44,_,M⟩=>[.fix false false [.val (sl c.Fr 1)] [.load .plain ⟨c.T,3,none⟩ (sl c.Fr 1)] ⟨45,[],M⟩]
 |⟨45,_,M⟩=>[.bH [.ld 5 0] ⟨46,[],cK M [.ld 5 0]⟩]
 |⟨46,_,M⟩=>[.bH [.st 6 3 (ad 0)] ⟨47,[],cK M [.st 6 3 (ad 0)]⟩]
 |⟨47,_,M⟩=>[.ord 57 14 Fj JO λr=>⟨48,r.filter (· < 3),M⟩]
 |⟨48,0::r,M⟩=>[.bH [.ld 0 0] ⟨48,r,M⟩]
 |⟨48,1::r,M⟩=>[.bH [.ld 1 0] ⟨48,r,M⟩]
 |⟨48,2::r,M⟩=>[.bH (qD 6 0) ⟨48,r,M⟩]
 |⟨48,[],M⟩=>[.fix false false [] (r' true c.T) ⟨49,[],M⟩]
 |⟨49,_,_⟩=>[.leave (.tuple #[])]
 |_=>[]
noncomputable def tH(c:dr):cS pY:=⟨Tryz.prog,gn,λ_=>false,.normal,λp=>p.M,λ_=>400,Fu c⟩
def o4(c:dr)(bz bA:Nat):Mem:=[(false,bz,.cells #[pt c.T] 60 (0,0)),(false,bA,.cells #[i0] 3 (0,0)),(false,c.R,.cells #[ad 0,sl c.fl 2,ad 2,sl c.fo 2] 55 (0,0)),(false,c.fl,.cells #[ad 1,ad 2] 3 (0,0)),(false,c.fo,.cells #[ad 3,ad 1] 3 (0,0)),(false,c.Fr,.cells #[ad 3] 3 (0,0))]
set_option maxRecDepth 100000 in
def Fy(T F R d f c bz bA:Nat):Good (tH ⟨T,F,R,d,f,c⟩) 60 ⟨0,[],o4 ⟨T,F,R,d,f,c⟩ bz bA⟩ (Frame.enter Tryz.prog 57 #[pt bz,pt bA] .normal,[]):=by repeat' (first|exact trivial|kernel_rfl|refine⟨?_,?_⟩|intro _)
end Go.aN
