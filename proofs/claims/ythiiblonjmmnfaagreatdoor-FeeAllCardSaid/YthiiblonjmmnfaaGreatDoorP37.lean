/- Part 38 of a law on fees: no conditions. -/
import Derived.Test.YthiiblonjmmnfaaGreatDoorP36
set_option maxHeartbeats 8000000
set_option maxRecDepth 100000
set_option linter.all false
namespace Go.aN
attribute [-simp] Go.Sem.runT_eq
open Go.Proofs Go.Conc Go.ConcN
section
structure dI where
 b:Nat
 c:Nat
 l:Array Value
def dI.four(r:dI):Value:=.slice (some ⟨r.b,0,none⟩) 4 r.c
def dI.two(r:dI):Value:=.slice (some ⟨r.b,0,none⟩) 2 r.c
def dI.re(r:dI):Value:=.tuple #[r.four,ad 0]
def dI.oz(r:dI):Value:=.tuple #[r.two,ad 0]
def dI.qk(r:dI):Value:=.tuple #[r.two,ad 5,ad 0]
def cV(r:dI):Bool×Nat×Obj:=(true,r.b,.cells (#[ad 2,ad 3,ad 5,ad 6]++r.l) 3 (0,0))
def kg(r:dI):Bool×Nat×Obj:=(true,r.b,.cells (#[ad 2,ad 6]++r.l) 3 (0,0))
def wK(r:dI):Bool×Nat×Obj:=(true,r.b,.cells (#[ad 20,ad 46,ad 48,ad 60]++r.l) 59 (0,0))
def eN(b:Nat):Bool×Nat×Obj:=(true,b,.cells #[ad 24,ad 26] 30 (0,0))
def eO(b:Nat):Bool×Nat×Obj:=(true,b,.cells #[ad 48,ad 50] 30 (0,0))
structure ea where
 z:dr
 s:dI
 x:Nat
 y:Nat
 L:Nat
 p:dI
 q:dI
structure rG where
 j:Nat
 l:Nat
 f:Nat->Value
 d:ea
 M:Mem
def DN(i:Nat)(v:Value):List (Nat×Value)->Value
 | []=>v
 |(j,x)::l=>if i=j then x else DN i v l
def up(f:Nat->Value)(l:List (Nat×Value)):Nat->Value:=λi=>DN i (f i) l
def Ab:Nat->Code->Code
 | 0,c=>c
 |n+1,.seq _ b=>Ab n b
 |_,c=>c
noncomputable def Ce(j:Nat):Code:=Ab j (Tryz.f14.body.getD .skip)
def jl(f:Nat->Value):Array Value:=#[f 0,f 1,f 2,f 3,f 4,f 5,f 6,f 7,f 8,f 9,f 10,f 11,f 12,f 13,f 14,f 15,f 16,f 17,f 18,f 19,f 20,f 21,f 22,f 23,f 24,f 25,f 26,f 27,f 28,f 29,f 30,f 31,f 32,f 33,f 34,f 35,f 36,f 37,f 38,f 39,f 40,f 41,f 42,f 43,f 44,f 45,f 46,f 47,f 48,f 49,f 50,f 51,f 52,f 53,f 54,f 55,f 56,f 57,f 58,f 59,f 60,f 61,f 62,f 63,f 64,f 65,f 66,f 67,f 68,f 69,f 70,f 71,f 72,f 73,f 74,f 75,f 76,f 77,f 78,f 79,f 80,f 81,f 82,f 83,f 84,f 85,f 86,f 87,f 88,f 89,f 90,f 91,f 92,f 93,f 94,f 95,f 96,f 97,f 98,f 99,f 100,f 101,f 102,f 103,f 104,f 105,f 106,f 107,f 108,f 109,f 110,f 111,f 112,f 113,f 114,f 115,f 116,f 117,f 118,f 119,f 120,f 121,f 122,f 123,f 124,f 125,f 126,f 127,f 128,f 129,f 130]
noncomputable def dQ(kd:CallKind)(j:Nat)(f:Nat->Value):bs:=(⟨14,jl f,[.code (Ce j)],[],.run,kd,none⟩,[])
noncomputable def J6(kd:CallKind):rG->List (Edge rG)
 |⟨0,0,f,d,M⟩=>[.join (dQ kd 1 (up f [(0,.bool false)])) ⟨99,0,up f [(0,.bool false)],d,M⟩]
 |⟨1,0,f,d,M⟩=>[.call 27 #[] (λz:dr=>e8 z) λz=>⟨1,1,up f [(19,e8 z)],{d with z:=z},M++ho z⟩]
 |⟨1,1,f,d,M⟩=>[.call 9 #[e8 d.z,ad 0,ad 20,ad 100] (λ_:Unit=>.tuple #[ad 9,ad 0]) λ_=>⟨1,2,up f [(20,.tuple #[ad 9,ad 0])],d,[]⟩]
 |⟨1,2,f,d,M⟩=>[.join (dQ kd 2 (up f [(18,.tuple #[ad 9,ad 0]),(21,ad 9),(22,ad 0),(1,ad 9),(2,ad 0)])) ⟨99,0,up f [(18,.tuple #[ad 9,ad 0]),(21,ad 9),(22,ad 0),(1,ad 9),(2,ad 0)],d,M⟩]
 |⟨2,0,f,d,M⟩=>[.call 27 #[] (λz:dr=>e8 z) λz=>⟨2,1,up f [(24,e8 z)],{d with z:=z},M++ho z⟩]
 |⟨2,1,f,d,M⟩=>[.call 28 #[] (λ_:Unit=>.agg c8) λ_=>⟨2,2,up f [(25,.agg c8)],d,M⟩]
 |⟨2,2,f,d,M⟩=>[.call 10 #[e8 d.z,.agg c8] (λr:dI=>r.re) λr=>⟨2,3,up f [(26,r.re)],{d with s:=r},[cV r]⟩]
 |⟨2,3,f,d,M⟩=>[.join (dQ kd 3 (up f [(23,d.s.re),(27,d.s.four),(28,ad 0),(3,d.s.four),(4,ad 0)])) ⟨99,0,up f [(23,d.s.re),(27,d.s.four),(28,ad 0),(3,d.s.four),(4,ad 0)],d,M⟩]
 |⟨3,0,f,d,M⟩=>[.call 27 #[] (λz:dr=>e8 z) λz=>⟨3,1,up f [(30,e8 z)],{d with z:=z},M++ho z⟩]
 |⟨3,1,f,d,M⟩=>[.call 28 #[] (λ_:Unit=>.agg c8) λ_=>⟨3,2,up f [(31,.agg c8)],d,M⟩]
 |⟨3,2,f,d,M⟩=>[.call 12 #[e8 d.z,.agg c8,ad 5] (λ_:Unit=>.tuple #[.agg #[ad 24,ad 26],.agg #[ad 48,ad 50],ad 0]) λ_=>⟨3,3,up f [(32,.tuple #[.agg #[ad 24,ad 26],.agg #[ad 48,ad 50],ad 0])],d,[cV d.s]⟩]
 |⟨3,3,f,d,M⟩=>[.new true mL λb=>⟨3,4,up f [(29,.tuple #[.agg #[ad 24,ad 26],.agg #[ad 48,ad 50],ad 0]),(33,.agg #[ad 24,ad 26]),(34,.agg #[ad 48,ad 50]),(35,ad 0),(5,pt b)],{d with x:=b},M++[(true,b,mL)]⟩]
 |⟨3,4,f,d,M⟩=>[.new true mL λb=>⟨3,5,up f [(6,pt b)],{d with y:=b},M++[(true,b,mL)]⟩]
 |⟨3,5,f,d,M⟩=>[.bH [.st 1 0 (ad 24),.st 1 1 (ad 26)] ⟨3,6,f,d,cK M [.st 1 0 (ad 24),.st 1 1 (ad 26)]⟩]
 |⟨3,6,f,d,M⟩=>[.bH [.st 2 0 (ad 48),.st 2 1 (ad 50)] ⟨3,7,f,d,cK M [.st 2 0 (ad 48),.st 2 1 (ad 50)]⟩]
 |⟨3,7,f,d,M⟩=>[.join (dQ kd 4 (up f [(7,ad 0)])) ⟨99,0,up f [(7,ad 0)],d,M⟩]
 |⟨4,0,f,d,M⟩=>[.call 27 #[] (λz:dr=>e8 z) λz=>⟨4,1,up f [(37,e8 z)],{d with z:=z},M++ho z⟩]
 |⟨4,1,f,d,M⟩=>[.call 28 #[] (λ_:Unit=>.agg c8) λ_=>⟨4,2,up f [(38,.agg c8)],d,M⟩]
 |⟨4,2,f,d,M⟩=>[.call 29 #[e8 d.z,.agg c8] (λ_:Unit=>.tuple #[ad 0,ad 2,ad 0]) λ_=>⟨4,3,up f [(39,.tuple #[ad 0,ad 2,ad 0])],d,[cV d.s,eN d.x,eO d.y]⟩]
 |⟨4,3,f,d,M⟩=>[.join (dQ kd 5 (up f [(36,.tuple #[ad 0,ad 2,ad 0]),(40,ad 0),(41,ad 2),(42,ad 0),(8,ad 0),(9,ad 2),(10,ad 0)])) ⟨99,0,up f [(36,.tuple #[ad 0,ad 2,ad 0]),(40,ad 0),(41,ad 2),(42,ad 0),(8,ad 0),(9,ad 2),(10,ad 0)],d,M⟩]
 |⟨5,0,f,d,M⟩=>[.call 27 #[] (λz:dr=>e8 z) λz=>⟨5,1,up f [(44,e8 z)],{d with z:=z},M++ho z⟩]
 |⟨5,1,f,d,M⟩=>[.call 30 #[e8 d.z,ad 0,ad 20,ad 6] (λ_:Unit=>.tuple #[ad 95,ad 0]) λ_=>⟨5,2,up f [(45,.tuple #[ad 95,ad 0])],d,[cV d.s,eN d.x,eO d.y]⟩]
 |⟨5,2,f,d,M⟩=>[.join (dQ kd 6 (up f [(43,.tuple #[ad 95,ad 0]),(46,ad 95),(47,ad 0),(11,ad 95),(12,ad 0)])) ⟨99,0,up f [(43,.tuple #[ad 95,ad 0]),(46,ad 95),(47,ad 0),(11,ad 95),(12,ad 0)],d,M⟩]
 |⟨6,0,f,d,M⟩=>[.call 27 #[] (λz:dr=>e8 z) λz=>⟨6,1,up f [(49,e8 z)],{d with z:=z},M++ho z⟩]
 |⟨6,1,f,d,M⟩=>[.call 28 #[] (λ_:Unit=>.agg c8) λ_=>⟨6,2,up f [(50,.agg c8)],d,M⟩]
 |⟨6,2,f,d,M⟩=>[.call 28 #[] (λ_:Unit=>.agg c8) λ_=>⟨6,3,up f [(51,.agg c8)],d,M⟩]
 |⟨6,3,f,d,M⟩=>[.new true fZ λb=>⟨6,4,up f [(52,sl b 2)],{d with L:=b},M++[(true,b,fZ)]⟩]
 |⟨6,4,f,d,M⟩=>[.call 31 #[e8 d.z,sl d.L 2,ad 8] (λr:dI=>r.oz) λr=>⟨6,5,up f [(53,r.oz)],{d with p:=r},[cV d.s,eN d.x,eO d.y,kg r]⟩]
 |⟨6,5,f,d,M⟩=>[.join (dQ kd 7 (up f [(48,d.p.oz),(54,d.p.two),(55,ad 0),(13,d.p.two),(14,ad 0)])) ⟨99,0,up f [(48,d.p.oz),(54,d.p.two),(55,ad 0),(13,d.p.two),(14,ad 0)],d,M⟩]
 |⟨7,0,f,d,M⟩=>[.call 27 #[] (λz:dr=>e8 z) λz=>⟨7,1,up f [(57,e8 z)],{d with z:=z},M++ho z⟩]
 |⟨7,1,f,d,M⟩=>[.call 32 #[e8 d.z,ad 0,ad 20,ad 60,ad 2] (λr:dI=>r.qk) λr=>⟨7,2,up f [(58,r.qk)],{d with q:=r},[cV d.s,eN d.x,eO d.y,kg d.p,wK r]⟩]
 |⟨7,2,f,d,M⟩=>[.join (dQ kd 8 (up f [(56,d.q.qk),(59,d.q.two),(60,ad 5),(61,ad 0),(15,d.q.two),(16,ad 5),(17,ad 0)])) ⟨99,0,up f [(56,d.q.qk),(59,d.q.two),(60,ad 5),(61,ad 0),(15,d.q.two),(16,ad 5),(17,ad 0)],d,M⟩]
 |_=>[]
def x2:rG->Nat
 |⟨0,0,_,_,_⟩=>4
 |⟨1,2,_,_,_⟩=>6
 |⟨2,3,_,_,_⟩=>6
 |⟨3,7,_,_,_⟩=>2
 |⟨4,3,_,_,_⟩=>8
 |⟨5,2,_,_,_⟩=>6
 |⟨6,5,_,_,_⟩=>6
 |⟨7,2,_,_,_⟩=>8
 |_=>400
def Be(f:FuncId):Bool:=[27,28,9,10,12,29,30,31,32,8,33,34].any (· == f)
noncomputable def e7(kd:CallKind):cS rG:=⟨Tryz.prog,gn,Be,kd,λp=>p.M,x2,J6 kd⟩
def fN(kd:CallKind):dk (e7 kd).P (e7 kd).ext:=by unfold e7;exact iQ
def hl(kd:CallKind)(p:rG):(e7 kd).dA p<=400:=by show x2 p<=400;unfold x2;split<;>omega
set_option maxHeartbeats 4000000
set_option maxRecDepth 100000
end
def J7(kd:CallKind)(c:kd=.normal\/kd=.deferred)(f:Nat->Value)(d:ea):Good (e7 kd) 11 ⟨0,0,f,d,[]⟩ (dQ kd 0 f):=by
 rcases c with rfl|rfl
 all_goals repeat' (first|exact trivial|kernel_rfl|refine⟨?_,?_⟩|refine λ(_:dr)=>?_|refine λ(_:dI)=>?_|refine λ(_:Unit)=>?_|refine λ(_:Nat)=>?_|intro _)
def J8(kd:CallKind)(c:kd=.normal\/kd=.deferred)(f:Nat->Value)(d:ea):Good (e7 kd) 11 ⟨1,0,f,d,[]⟩ (dQ kd 1 f):=by
 rcases c with rfl|rfl
 all_goals repeat' (first|exact trivial|kernel_rfl|refine⟨?_,?_⟩|refine λ(_:dr)=>?_|refine λ(_:dI)=>?_|refine λ(_:Unit)=>?_|refine λ(_:Nat)=>?_|intro _)
def J9(kd:CallKind)(c:kd=.normal\/kd=.deferred)(f:Nat->Value)(d:ea):Good (e7 kd) 11 ⟨2,0,f,d,[]⟩ (dQ kd 2 f):=by
 rcases c with rfl|rfl
 all_goals repeat' (first|exact trivial|kernel_rfl|refine⟨?_,?_⟩|refine λ(_:dr)=>?_|refine λ(_:dI)=>?_|refine λ(_:Unit)=>?_|refine λ(_:Nat)=>?_|intro _)
def J'(kd:CallKind)(c:kd=.normal\/kd=.deferred)(f:Nat->Value)(d:ea):Good (e7 kd) 11 ⟨3,0,f,d,[cV d.s]⟩ (dQ kd 3 f):=by
 rcases c with rfl|rfl
 all_goals repeat' (first|exact trivial|kernel_rfl|refine⟨?_,?_⟩|refine λ(_:dr)=>?_|refine λ(_:dI)=>?_|refine λ(_:Unit)=>?_|refine λ(_:Nat)=>?_|intro _)
def Ka(kd:CallKind)(c:kd=.normal\/kd=.deferred)(f:Nat->Value)(d:ea):Good (e7 kd) 11 ⟨4,0,f,d,[cV d.s,eN d.x,eO d.y]⟩ (dQ kd 4 f):=by
 rcases c with rfl|rfl
 all_goals repeat' (first|exact trivial|kernel_rfl|refine⟨?_,?_⟩|refine λ(_:dr)=>?_|refine λ(_:dI)=>?_|refine λ(_:Unit)=>?_|refine λ(_:Nat)=>?_|intro _)
def Kb(kd:CallKind)(c:kd=.normal\/kd=.deferred)(f:Nat->Value)(d:ea):Good (e7 kd) 11 ⟨5,0,f,d,[cV d.s,eN d.x,eO d.y]⟩ (dQ kd 5 f):=by
 rcases c with rfl|rfl
 all_goals repeat' (first|exact trivial|kernel_rfl|refine⟨?_,?_⟩|refine λ(_:dr)=>?_|refine λ(_:dI)=>?_|refine λ(_:Unit)=>?_|refine λ(_:Nat)=>?_|intro _)
def Kc(kd:CallKind)(c:kd=.normal\/kd=.deferred)(f:Nat->Value)(d:ea):Good (e7 kd) 11 ⟨6,0,f,d,[cV d.s,eN d.x,eO d.y]⟩ (dQ kd 6 f):=by
 rcases c with rfl|rfl
 all_goals repeat' (first|exact trivial|kernel_rfl|refine⟨?_,?_⟩|refine λ(_:dr)=>?_|refine λ(_:dI)=>?_|refine λ(_:Unit)=>?_|refine λ(_:Nat)=>?_|intro _)
def Kd(kd:CallKind)(c:kd=.normal\/kd=.deferred)(f:Nat->Value)(d:ea):Good (e7 kd) 11 ⟨7,0,f,d,[cV d.s,eN d.x,eO d.y,kg d.p]⟩ (dQ kd 7 f):=by
 rcases c with rfl|rfl
 all_goals repeat' (first|exact trivial|kernel_rfl|refine⟨?_,?_⟩|refine λ(_:dr)=>?_|refine λ(_:dI)=>?_|refine λ(_:Unit)=>?_|refine λ(_:Nat)=>?_|intro _)
section
def hN(h:Nat->Value)(d:ea):Nat->Value:=(up h [(0,.bool false),(1,ad 9),(2,ad 0),(3,d.s.four),(4,ad 0),(5,pt d.x),(6,pt d.y),(7,ad 0),(8,ad 0),(9,ad 2),(10,ad 0),(11,ad 95),(12,ad 0),(13,d.p.two),(14,ad 0),(15,d.q.two),(16,ad 5),(17,ad 0)])
def ko(h:Nat->Value)(d:ea):Nat->Value:=(up h [(62,ad 0),(63,.bool true),(64,.bool true),(65,ad 0),(66,.bool true),(67,.bool true),(68,.bool true),(69,ad 0),(70,.bool true),(71,.bool true),(72,.bool true),(73,ad 0),(74,.bool true),(75,.bool true),(76,.bool true),(77,ad 0),(78,.bool true),(79,.bool true),(80,.bool true),(81,ad 0),(82,.bool true),(83,.bool true),(84,.bool true),(85,ad 0),(86,.bool true),(87,.bool true),(88,.bool true),(89,ad 9),(90,.bool true),(91,.bool true),(92,.bool true),(93,.agg #[ad 24,ad 26]),(94,.agg #[ad 24,ad 26]),(95,.bool true),(96,.bool true),(97,.bool true)])
def jN(h:Nat->Value)(d:ea):Nat->Value:=(up h [(6,pt d.y),(9,ad 2),(11,ad 95),(16,ad 5),(97,.bool true)])
def lU(h:Nat->Value)(d:ea):Nat->Value:=(up h [(98,.agg #[ad 48,ad 50]),(99,.agg #[ad 48,ad 50]),(100,.bool true),(101,.bool true),(102,.bool true),(103,ad 2),(104,.bool true),(105,.bool true),(106,.bool true),(107,ad 95),(108,.bool true),(109,.bool true),(110,.bool true),(111,ad 5),(112,.bool true),(113,.bool true),(114,.bool true)])
def k6(h:Nat->Value)(d:ea):Nat->Value:=(up h [(3,d.s.four),(114,.bool true)])
def om(h:Nat->Value)(d:ea)(b:Nat):Nat->Value:=(up h [(115,d.s.four),(116,sl b 4),(117,.bool true),(118,.bool true),(119,.bool true)])
def m9(h:Nat->Value)(d:ea):Nat->Value:=(up h [(13,d.p.two),(119,.bool true)])
def sA(h:Nat->Value)(d:ea)(b:Nat):Nat->Value:=(up h [(120,d.p.two),(121,sl b 2),(122,.bool true),(123,.bool true),(124,.bool true)])
def mq(h:Nat->Value)(d:ea):Nat->Value:=(up h [(15,d.q.two),(124,.bool true)])
noncomputable def jR:Array Oper:=opsOf Tryz.f14 8
noncomputable def fx(kd:CallKind)(T:List Nat)(f:Nat->Value):bs:=(⟨14,jl f,[.inRegion jR T,.code (Ce 9)],[],.run,kd,none⟩,[])
noncomputable def JN:List (List Nat):=qS .any jR
structure rE where
 l:Nat
 h:Nat->Value
 d:ea
 T:List Nat
 b:Nat
 M:Mem
def dB(d:ea):Mem:=[cV d.s,eN d.x,eO d.y,kg d.p,wK d.q]
def B6(b:Nat):Bool×Nat×Obj:=(true,b,.cells #[ad 2,ad 3,ad 5,ad 6] 3 (0,0))
def B5(b:Nat):Bool×Nat×Obj:=(true,b,.cells #[ad 2,ad 6] 3 (0,0))
def B7(b:Nat):Bool×Nat×Obj:=(true,b,.cells #[ad 20,ad 46,ad 48,ad 60] 59 (0,0))
noncomputable def Nu(kd:CallKind):rE->List (Edge rE)
 |⟨0,h,d,_,_,M⟩=>[.ord 14 8 jR JN λo=>⟨1,h,d,o,0,M⟩]
 |⟨1,h,d,o,_,M⟩=>[.join (fx kd o (hN h d)) ⟨99,h,d,o,0,M⟩]
 |⟨10,h,d,T,_,M⟩=>[.bH [.ld 1 0,.ld 1 1] ⟨11,h,d,T,0,cK M [.ld 1 0,.ld 1 1]⟩]
 |⟨11,h,d,T,_,_⟩=>[.call 8 #[ad 24,ad 26] (λ_:Unit=>.agg #[ad 24,ad 26]) λ_=>⟨14,h,d,T,0,dB d⟩]
 |⟨12,h,d,T,_,_⟩=>[.call 8 #[ad 24,ad 26] (λ_:Unit=>.agg #[ad 24,ad 26]) λ_=>⟨13,h,d,T,0,dB d⟩]
 |⟨13,h,d,T,_,M⟩=>[.bH [.ld 1 0,.ld 1 1] ⟨14,h,d,T,0,cK M [.ld 1 0,.ld 1 1]⟩]
 |⟨14,h,d,T,_,M⟩=>[.join (fx kd T (ko (hN h d) d)) ⟨99,h,d,T,0,M⟩]
 |⟨20,h,d,T,_,M⟩=>[.bH [.ld 2 0,.ld 2 1] ⟨21,h,d,T,0,cK M [.ld 2 0,.ld 2 1]⟩]
 |⟨21,h,d,T,_,_⟩=>[.call 8 #[ad 48,ad 50] (λ_:Unit=>.agg #[ad 48,ad 50]) λ_=>⟨24,h,d,T,0,dB d⟩]
 |⟨22,h,d,T,_,_⟩=>[.call 8 #[ad 48,ad 50] (λ_:Unit=>.agg #[ad 48,ad 50]) λ_=>⟨23,h,d,T,0,dB d⟩]
 |⟨23,h,d,T,_,M⟩=>[.bH [.ld 2 0,.ld 2 1] ⟨24,h,d,T,0,cK M [.ld 2 0,.ld 2 1]⟩]
 |⟨24,h,d,T,_,M⟩=>[.join (fx kd T (lU (jN h d) d)) ⟨99,h,d,T,0,M⟩]
 |⟨30,h,d,T,_,M⟩=>[.new true (.cells #[ad 2,ad 3,ad 5,ad 6] 3 (0,0)) λb=>⟨31,h,d,T,b,M++[B6 b]⟩]
 |⟨31,h,d,T,b,_⟩=>[.call 33 #[d.s.four,sl b 4] (λ_:Unit=>.bool true) λ_=>⟨32,h,d,T,b,dB d⟩]
 |⟨32,h,d,T,b,M⟩=>[.join (fx kd T (om (k6 h d) d b)) ⟨99,h,d,T,b,M⟩]
 |⟨40,h,d,T,_,M⟩=>[.new true (.cells #[ad 2,ad 6] 3 (0,0)) λb=>⟨41,h,d,T,b,M++[B5 b]⟩]
 |⟨41,h,d,T,b,_⟩=>[.call 33 #[d.p.two,sl b 2] (λ_:Unit=>.bool true) λ_=>⟨42,h,d,T,b,dB d⟩]
 |⟨42,h,d,T,b,M⟩=>[.join (fx kd T (sA (m9 h d) d b)) ⟨99,h,d,T,b,M⟩]
 |⟨50,h,d,T,_,M⟩=>[.new true (.cells #[ad 20,ad 46,ad 48,ad 60] 59 (0,0)) λb=>⟨51,h,d,T,b,M++[B7 b]⟩]
 |⟨51,h,d,T,b,_⟩=>[.call 34 #[d.q.two,sl b 2] (λ_:Unit=>.bool true) λ_=>⟨52,h,d,T,b,dB d⟩]
 |⟨52,_,_,_,_,_⟩=>[.leave (.bool true)]
 |_=>[]
def xa:rE->Nat
 |⟨1,_,_,_,_,_⟩=>0
 |⟨14,_,_,_,_,_⟩=>3
 |⟨24,_,_,_,_,_⟩=>15
 |⟨32,_,_,_,_,_⟩=>2
 |⟨42,_,_,_,_,_⟩=>2
 |_=>400
noncomputable def t8(kd:CallKind):cS rE:=⟨Tryz.prog,gn,Be,kd,λp=>p.M,xa,Nu kd⟩
def hI(kd:CallKind):dk (t8 kd).P (t8 kd).ext:=by unfold t8;exact iQ
def jK(kd:CallKind)(p:rE):(t8 kd).dA p<=400:=by show xa p<=400;unfold xa;split<;>omega
set_option maxHeartbeats 8000000
set_option maxRecDepth 100000
def K3(kd:CallKind)(c:kd=.normal\/kd=.deferred)(h:Nat->Value)(d:ea)(T:List Nat):Good (t8 kd) 6 ⟨10,h,d,T,0,dB d⟩ (fx kd (0::1::2::3::4::5::6::7::8::9::10::11::12::13::14::15::16::17::18::19::20::21::22::23::24::25::26::27::28::29::30::31::32::33::34::35::T) (hN h d)):=by
 rcases c with rfl|rfl
 all_goals repeat' (first|exact trivial|kernel_rfl|refine⟨?_,?_⟩|refine λ(_:Unit)=>?_|refine λ(_:Nat)=>?_|intro _)
def K4(kd:CallKind)(c:kd=.normal\/kd=.deferred)(h:Nat->Value)(d:ea)(T:List Nat):Good (t8 kd) 6 ⟨12,h,d,T,0,dB d⟩ (fx kd (0::1::2::3::4::5::6::7::8::9::10::11::12::13::14::15::16::17::18::19::20::21::22::23::24::25::26::27::28::29::30::32::31::33::34::35::T) (hN h d)):=by
 rcases c with rfl|rfl
 all_goals repeat' (first|exact trivial|kernel_rfl|refine⟨?_,?_⟩|refine λ(_:Unit)=>?_|refine λ(_:Nat)=>?_|intro _)
def K5(kd:CallKind)(c:kd=.normal\/kd=.deferred)(h:Nat->Value)(d:ea)(T:List Nat):Good (t8 kd) 6 ⟨20,h,d,T,0,dB d⟩ (fx kd (36::37::38::39::40::41::42::43::44::45::46::47::48::49::50::51::52::T) (jN h d)):=by
 rcases c with rfl|rfl
 all_goals repeat' (first|exact trivial|kernel_rfl|refine⟨?_,?_⟩|refine λ(_:Unit)=>?_|refine λ(_:Nat)=>?_|intro _)
def K6(kd:CallKind)(c:kd=.normal\/kd=.deferred)(h:Nat->Value)(d:ea)(T:List Nat):Good (t8 kd) 6 ⟨22,h,d,T,0,dB d⟩ (fx kd (37::36::38::39::40::41::42::43::44::45::46::47::48::49::50::51::52::T) (jN h d)):=by
 rcases c with rfl|rfl
 all_goals repeat' (first|exact trivial|kernel_rfl|refine⟨?_,?_⟩|refine λ(_:Unit)=>?_|refine λ(_:Nat)=>?_|intro _)
def K7(kd:CallKind)(c:kd=.normal\/kd=.deferred)(h:Nat->Value)(d:ea)(T:List Nat):Good (t8 kd) 6 ⟨30,h,d,T,0,dB d⟩ (fx kd (53::54::55::56::57::T) (k6 h d)):=by
 rcases c with rfl|rfl
 all_goals repeat' (first|exact trivial|kernel_rfl|refine⟨?_,?_⟩|refine λ(_:Unit)=>?_|refine λ(_:Nat)=>?_|intro _)
def K8(kd:CallKind)(c:kd=.normal\/kd=.deferred)(h:Nat->Value)(d:ea)(T:List Nat):Good (t8 kd) 6 ⟨30,h,d,T,0,dB d⟩ (fx kd (54::53::55::56::57::T) (k6 h d)):=by
 rcases c with rfl|rfl
 all_goals repeat' (first|exact trivial|kernel_rfl|refine⟨?_,?_⟩|refine λ(_:Unit)=>?_|refine λ(_:Nat)=>?_|intro _)
def K9(kd:CallKind)(c:kd=.normal\/kd=.deferred)(h:Nat->Value)(d:ea)(T:List Nat):Good (t8 kd) 6 ⟨40,h,d,T,0,dB d⟩ (fx kd (58::59::60::61::62::T) (m9 h d)):=by
 rcases c with rfl|rfl
 all_goals repeat' (first|exact trivial|kernel_rfl|refine⟨?_,?_⟩|refine λ(_:Unit)=>?_|refine λ(_:Nat)=>?_|intro _)
def K'(kd:CallKind)(c:kd=.normal\/kd=.deferred)(h:Nat->Value)(d:ea)(T:List Nat):Good (t8 kd) 6 ⟨40,h,d,T,0,dB d⟩ (fx kd (59::58::60::61::62::T) (m9 h d)):=by
 rcases c with rfl|rfl
 all_goals repeat' (first|exact trivial|kernel_rfl|refine⟨?_,?_⟩|refine λ(_:Unit)=>?_|refine λ(_:Nat)=>?_|intro _)
def La(kd:CallKind)(c:kd=.normal\/kd=.deferred)(h:Nat->Value)(d:ea):Good (t8 kd) 6 ⟨50,h,d,[],0,dB d⟩ (fx kd [63,64,65,66,67,68,69] (mq h d)):=by
 rcases c with rfl|rfl
 all_goals repeat' (first|exact trivial|kernel_rfl|refine⟨?_,?_⟩|refine λ(_:Unit)=>?_|refine λ(_:Nat)=>?_|intro _)
def Lb(kd:CallKind)(c:kd=.normal\/kd=.deferred)(h:Nat->Value)(d:ea):Good (t8 kd) 6 ⟨50,h,d,[],0,dB d⟩ (fx kd [63,65,64,66,67,68,69] (mq h d)):=by
 rcases c with rfl|rfl
 all_goals repeat' (first|exact trivial|kernel_rfl|refine⟨?_,?_⟩|refine λ(_:Unit)=>?_|refine λ(_:Nat)=>?_|intro _)
def Lc(kd:CallKind)(c:kd=.normal\/kd=.deferred)(h:Nat->Value)(d:ea):Good (t8 kd) 6 ⟨50,h,d,[],0,dB d⟩ (fx kd [64,63,65,66,67,68,69] (mq h d)):=by
 rcases c with rfl|rfl
 all_goals repeat' (first|exact trivial|kernel_rfl|refine⟨?_,?_⟩|refine λ(_:Unit)=>?_|refine λ(_:Nat)=>?_|intro _)
def Ld(kd:CallKind)(c:kd=.normal\/kd=.deferred)(h:Nat->Value)(d:ea):Good (t8 kd) 6 ⟨50,h,d,[],0,dB d⟩ (fx kd [64,65,63,66,67,68,69] (mq h d)):=by
 rcases c with rfl|rfl
 all_goals repeat' (first|exact trivial|kernel_rfl|refine⟨?_,?_⟩|refine λ(_:Unit)=>?_|refine λ(_:Nat)=>?_|intro _)
def Le(kd:CallKind)(c:kd=.normal\/kd=.deferred)(h:Nat->Value)(d:ea):Good (t8 kd) 6 ⟨50,h,d,[],0,dB d⟩ (fx kd [64,65,66,63,67,68,69] (mq h d)):=by
 rcases c with rfl|rfl
 all_goals repeat' (first|exact trivial|kernel_rfl|refine⟨?_,?_⟩|refine λ(_:Unit)=>?_|refine λ(_:Nat)=>?_|intro _)
def Lf(kd:CallKind)(c:kd=.normal\/kd=.deferred)(h:Nat->Value)(d:ea):Good (t8 kd) 6 ⟨50,h,d,[],0,dB d⟩ (fx kd [65,63,64,66,67,68,69] (mq h d)):=by
 rcases c with rfl|rfl
 all_goals repeat' (first|exact trivial|kernel_rfl|refine⟨?_,?_⟩|refine λ(_:Unit)=>?_|refine λ(_:Nat)=>?_|intro _)
def Lg(kd:CallKind)(c:kd=.normal\/kd=.deferred)(h:Nat->Value)(d:ea):Good (t8 kd) 6 ⟨50,h,d,[],0,dB d⟩ (fx kd [65,64,63,66,67,68,69] (mq h d)):=by
 rcases c with rfl|rfl
 all_goals repeat' (first|exact trivial|kernel_rfl|refine⟨?_,?_⟩|refine λ(_:Unit)=>?_|refine λ(_:Nat)=>?_|intro _)
def Lh(kd:CallKind)(c:kd=.normal\/kd=.deferred)(h:Nat->Value)(d:ea):Good (t8 kd) 6 ⟨50,h,d,[],0,dB d⟩ (fx kd [65,64,66,63,67,68,69] (mq h d)):=by
 rcases c with rfl|rfl
 all_goals repeat' (first|exact trivial|kernel_rfl|refine⟨?_,?_⟩|refine λ(_:Unit)=>?_|refine λ(_:Nat)=>?_|intro _)
end
end Go.aN
