/- A part. -/
import Derived.Test.YtoebddanaobpaaaGreatDoorP34
set_option maxHeartbeats 8000000
set_option maxRecDepth 100000
set_option linter.all false
namespace Go.aO
attribute [-simp] Go.Sem.runT_eq
open Go.Proofs Tryz Go.Conc Go.ConcN
section
structure e4 where
 b:Nat
 c:Nat
 l:Te
def e4.four(r:e4):S9:=Ts r.b 4 r.c
def e4.two(r:e4):S9:=Ts r.b 2 r.c
def e4.td(r:e4):S9:=.tuple #[r.four,ah 0]
def e4.qi(r:e4):S9:=.tuple #[r.two,ah 0]
def e4.sa(r:e4):S9:=.tuple #[r.two,ah 5,ah 0]
def dr(r:e4):Ta×Nat×Obj:=(true,r.b,.cells (#[ah 2,ah 3,ah 5,ah 6]++r.l) 3 (0,0))
def lE(r:e4):Ta×Nat×Obj:=(true,r.b,.cells (#[ah 2,ah 6]++r.l) 3 (0,0))
def y5(r:e4):Ta×Nat×Obj:=(true,r.b,.cells (#[ah 20,ah 46,ah 48,ah 60]++r.l) 63 (0,0))
def fB(b:Nat):Ta×Nat×Obj:=(true,b,.cells #[ah 24,ah 26] 50 (0,0))
def fC(b:Nat):Ta×Nat×Obj:=(true,b,.cells #[ah 48,ah 50] 50 (0,0))
structure eS where
 z:eG
 s:e4
 x:Nat
 y:Nat
 L:Nat
 p:e4
 q:e4
structure tD where
 j:Nat
 l:Nat
 f:Nat->S9
 d:eS
 M:Mem
def GQ(i:Nat)(v:S9):Tb (Nat×S9)->S9
 | []=>v
 |(j,x)::l=>if i=j then x else GQ i v l
def up(f:Nat->S9)(l:Tb (Nat×S9)):Nat->S9:=λi=>GQ i (f i) l
def CK:Nat->Code->Code
 | 0,c=>c
 |n+1,.seq _ b=>CK n b
 |_,c=>c
noncomputable def E'(j:Nat):Code:=CK j (f5.body.getD .skip)
def kD(f:Nat->S9):Te:=#[f 0,f 1,f 2,f 3,f 4,f 5,f 6,f 7,f 8,f 9,f 10,f 11,f 12,f 13,f 14,f 15,f 16,f 17,f 18,f 19,f 20,f 21,f 22,f 23,f 24,f 25,f 26,f 27,f 28,f 29,f 30,f 31,f 32,f 33,f 34,f 35,f 36,f 37,f 38,f 39,f 40,f 41,f 42,f 43,f 44,f 45,f 46,f 47,f 48,f 49,f 50,f 51,f 52,f 53,f 54,f 55,f 56,f 57,f 58,f 59,f 60,f 61,f 62,f 63,f 64,f 65,f 66,f 67,f 68,f 69,f 70,f 71,f 72,f 73,f 74,f 75,f 76,f 77,f 78,f 79,f 80,f 81,f 82,f 83,f 84,f 85,f 86,f 87,f 88,f 89,f 90,f 91,f 92,f 93,f 94,f 95,f 96,f 97,f 98,f 99,f 100,f 101,f 102,f 103,f 104,f 105,f 106,f 107,f 108,f 109,f 110,f 111,f 112,f 113,f 114,f 115,f 116,f 117,f 118,f 119,f 120,f 121,f 122,f 123,f 124,f 125,f 126,f 127,f 128,f 129,f 130]
noncomputable def eE(kd:Tx)(j:Nat)(f:Nat->S9):bA:=(⟨5,kD f,[.code (E' j)],[],.run,kd,none⟩,[])
noncomputable def Nf(kd:Tx):tD->Tb (Edge tD)
 |⟨0,0,f,d,M⟩=>[.join (eE kd 1 (up f [(0,.bool false)])) ⟨99,0,up f [(0,.bool false)],d,M⟩]
 |⟨1,0,f,d,M⟩=>[.call 16 #[] (λz:eG=>f' z) λz=>⟨1,1,up f [(19,f' z)],{d with z:=z},M++iE z⟩]
 |⟨1,1,f,d,M⟩=>[.call 15 #[f' d.z,ah 0,ah 20,ah 100] (λ_:Unit=>.tuple #[ah 9,ah 0]) λ_=>⟨1,2,up f [(20,.tuple #[ah 9,ah 0])],d,[]⟩]
 |⟨1,2,f,d,M⟩=>[.join (eE kd 2 (up f [(18,.tuple #[ah 9,ah 0]),(21,ah 9),(22,ah 0),(1,ah 9),(2,ah 0)])) ⟨99,0,up f [(18,.tuple #[ah 9,ah 0]),(21,ah 9),(22,ah 0),(1,ah 9),(2,ah 0)],d,M⟩]
 |⟨2,0,f,d,M⟩=>[.call 16 #[] (λz:eG=>f' z) λz=>⟨2,1,up f [(24,f' z)],{d with z:=z},M++iE z⟩]
 |⟨2,1,f,d,M⟩=>[.call 18 #[] (λ_:Unit=>.agg dC) λ_=>⟨2,2,up f [(25,.agg dC)],d,M⟩]
 |⟨2,2,f,d,M⟩=>[.call 17 #[f' d.z,.agg dC] (λr:e4=>r.td) λr=>⟨2,3,up f [(26,r.td)],{d with s:=r},[dr r]⟩]
 |⟨2,3,f,d,M⟩=>[.join (eE kd 3 (up f [(23,d.s.td),(27,d.s.four),(28,ah 0),(3,d.s.four),(4,ah 0)])) ⟨99,0,up f [(23,d.s.td),(27,d.s.four),(28,ah 0),(3,d.s.four),(4,ah 0)],d,M⟩]
 |⟨3,0,f,d,M⟩=>[.call 16 #[] (λz:eG=>f' z) λz=>⟨3,1,up f [(30,f' z)],{d with z:=z},M++iE z⟩]
 |⟨3,1,f,d,M⟩=>[.call 18 #[] (λ_:Unit=>.agg dC) λ_=>⟨3,2,up f [(31,.agg dC)],d,M⟩]
 |⟨3,2,f,d,M⟩=>[.call 19 #[f' d.z,.agg dC,ah 5] (λ_:Unit=>.tuple #[.agg #[ah 24,ah 26],.agg #[ah 48,ah 50],ah 0]) λ_=>⟨3,3,up f [(32,.tuple #[.agg #[ah 24,ah 26],.agg #[ah 48,ah 50],ah 0])],d,[dr d.s]⟩]
 |⟨3,3,f,d,M⟩=>[.new true ou λb=>⟨3,4,up f [(29,.tuple #[.agg #[ah 24,ah 26],.agg #[ah 48,ah 50],ah 0]),(33,.agg #[ah 24,ah 26]),(34,.agg #[ah 48,ah 50]),(35,ah 0),(5,pt b)],{d with x:=b},M++[(true,b,ou)]⟩]
 |⟨3,4,f,d,M⟩=>[.new true ou λb=>⟨3,5,up f [(6,pt b)],{d with y:=b},M++[(true,b,ou)]⟩]
 |⟨3,5,f,d,M⟩=>[.bL [.st 1 0 (ah 24),.st 1 1 (ah 26)] ⟨3,6,f,d,c0 M [.st 1 0 (ah 24),.st 1 1 (ah 26)]⟩]
 |⟨3,6,f,d,M⟩=>[.bL [.st 2 0 (ah 48),.st 2 1 (ah 50)] ⟨3,7,f,d,c0 M [.st 2 0 (ah 48),.st 2 1 (ah 50)]⟩]
 |⟨3,7,f,d,M⟩=>[.join (eE kd 4 (up f [(7,ah 0)])) ⟨99,0,up f [(7,ah 0)],d,M⟩]
 |⟨4,0,f,d,M⟩=>[.call 16 #[] (λz:eG=>f' z) λz=>⟨4,1,up f [(37,f' z)],{d with z:=z},M++iE z⟩]
 |⟨4,1,f,d,M⟩=>[.call 18 #[] (λ_:Unit=>.agg dC) λ_=>⟨4,2,up f [(38,.agg dC)],d,M⟩]
 |⟨4,2,f,d,M⟩=>[.call 20 #[f' d.z,.agg dC] (λ_:Unit=>.tuple #[ah 0,ah 2,ah 0]) λ_=>⟨4,3,up f [(39,.tuple #[ah 0,ah 2,ah 0])],d,[dr d.s,fB d.x,fC d.y]⟩]
 |⟨4,3,f,d,M⟩=>[.join (eE kd 5 (up f [(36,.tuple #[ah 0,ah 2,ah 0]),(40,ah 0),(41,ah 2),(42,ah 0),(8,ah 0),(9,ah 2),(10,ah 0)])) ⟨99,0,up f [(36,.tuple #[ah 0,ah 2,ah 0]),(40,ah 0),(41,ah 2),(42,ah 0),(8,ah 0),(9,ah 2),(10,ah 0)],d,M⟩]
 |⟨5,0,f,d,M⟩=>[.call 16 #[] (λz:eG=>f' z) λz=>⟨5,1,up f [(44,f' z)],{d with z:=z},M++iE z⟩]
 |⟨5,1,f,d,M⟩=>[.call 21 #[f' d.z,ah 0,ah 20,ah 6] (λ_:Unit=>.tuple #[ah 95,ah 0]) λ_=>⟨5,2,up f [(45,.tuple #[ah 95,ah 0])],d,[dr d.s,fB d.x,fC d.y]⟩]
 |⟨5,2,f,d,M⟩=>[.join (eE kd 6 (up f [(43,.tuple #[ah 95,ah 0]),(46,ah 95),(47,ah 0),(11,ah 95),(12,ah 0)])) ⟨99,0,up f [(43,.tuple #[ah 95,ah 0]),(46,ah 95),(47,ah 0),(11,ah 95),(12,ah 0)],d,M⟩]
 |⟨6,0,f,d,M⟩=>[.call 16 #[] (λz:eG=>f' z) λz=>⟨6,1,up f [(49,f' z)],{d with z:=z},M++iE z⟩]
 |⟨6,1,f,d,M⟩=>[.call 18 #[] (λ_:Unit=>.agg dC) λ_=>⟨6,2,up f [(50,.agg dC)],d,M⟩]
 |⟨6,2,f,d,M⟩=>[.call 18 #[] (λ_:Unit=>.agg dC) λ_=>⟨6,3,up f [(51,.agg dC)],d,M⟩]
 |⟨6,3,f,d,M⟩=>[.new true hf λb=>⟨6,4,up f [(52,sl b 2)],{d with L:=b},M++[(true,b,hf)]⟩]
 |⟨6,4,f,d,M⟩=>[.call 22 #[f' d.z,sl d.L 2,ah 8] (λr:e4=>r.qi) λr=>⟨6,5,up f [(53,r.qi)],{d with p:=r},[dr d.s,fB d.x,fC d.y,lE r]⟩]
 |⟨6,5,f,d,M⟩=>[.join (eE kd 7 (up f [(48,d.p.qi),(54,d.p.two),(55,ah 0),(13,d.p.two),(14,ah 0)])) ⟨99,0,up f [(48,d.p.qi),(54,d.p.two),(55,ah 0),(13,d.p.two),(14,ah 0)],d,M⟩]
 |⟨7,0,f,d,M⟩=>[.call 16 #[] (λz:eG=>f' z) λz=>⟨7,1,up f [(57,f' z)],{d with z:=z},M++iE z⟩]
 |⟨7,1,f,d,M⟩=>[.call 11 #[f' d.z,ah 0,ah 20,ah 60,ah 2] (λr:e4=>r.sa) λr=>⟨7,2,up f [(58,r.sa)],{d with q:=r},[dr d.s,fB d.x,fC d.y,lE d.p,y5 r]⟩]
 |⟨7,2,f,d,M⟩=>[.join (eE kd 8 (up f [(56,d.q.sa),(59,d.q.two),(60,ah 5),(61,ah 0),(15,d.q.two),(16,ah 5),(17,ah 0)])) ⟨99,0,up f [(56,d.q.sa),(59,d.q.two),(60,ah 5),(61,ah 0),(15,d.q.two),(16,ah 5),(17,ah 0)],d,M⟩]
 |_=>[]
def Am:tD->Nat
 |⟨0,0,_,_,_⟩=>4
 |⟨1,2,_,_,_⟩=>6
 |⟨2,3,_,_,_⟩=>6
 |⟨3,7,_,_,_⟩=>2
 |⟨4,3,_,_,_⟩=>8
 |⟨5,2,_,_,_⟩=>6
 |⟨6,5,_,_,_⟩=>6
 |⟨7,2,_,_,_⟩=>8
 |_=>400
def DK(f:Tw):Ta:=[16,18,15,17,19,20,21,22,11,23,24,13].any (· == f)
noncomputable def fZ(kd:Tx):de tD:=⟨prog,hv,DK,kd,λp=>p.M,Am,Nf kd⟩
def gW(kd:Tx):dn (fZ kd).P (fZ kd).ext:=by unfold fZ;exact j8
def iC(kd:Tx)(p:tD):(fZ kd).dh p<=400:=by show Am p<=400;unfold Am;split<;>omega
set_option maxHeartbeats 4000000
set_option maxRecDepth 100000
end
def Ng(kd:Tx)(c:TG kd)(f:Nat->S9)(d:eS):Good (fZ kd) 11 ⟨0,0,f,d,[]⟩ (eE kd 0 f):=by rcases c with rfl|rfl<;>exact fX
def Nh(kd:Tx)(c:TG kd)(f:Nat->S9)(d:eS):Good (fZ kd) 11 ⟨1,0,f,d,[]⟩ (eE kd 1 f):=by rcases c with rfl|rfl<;>exact fX
def Ni(kd:Tx)(c:TG kd)(f:Nat->S9)(d:eS):Good (fZ kd) 11 ⟨2,0,f,d,[]⟩ (eE kd 2 f):=by rcases c with rfl|rfl<;>exact fX
def Nj(kd:Tx)(c:TG kd)(f:Nat->S9)(d:eS):Good (fZ kd) 11 ⟨3,0,f,d,[dr d.s]⟩ (eE kd 3 f):=by rcases c with rfl|rfl<;>exact fX
def Nk(kd:Tx)(c:TG kd)(f:Nat->S9)(d:eS):Good (fZ kd) 11 ⟨4,0,f,d,[dr d.s,fB d.x,fC d.y]⟩ (eE kd 4 f):=by rcases c with rfl|rfl<;>exact fX
def Nl(kd:Tx)(c:TG kd)(f:Nat->S9)(d:eS):Good (fZ kd) 11 ⟨5,0,f,d,[dr d.s,fB d.x,fC d.y]⟩ (eE kd 5 f):=by rcases c with rfl|rfl<;>exact fX
def Nm(kd:Tx)(c:TG kd)(f:Nat->S9)(d:eS):Good (fZ kd) 11 ⟨6,0,f,d,[dr d.s,fB d.x,fC d.y]⟩ (eE kd 6 f):=by rcases c with rfl|rfl<;>exact fX
def Nn(kd:Tx)(c:TG kd)(f:Nat->S9)(d:eS):Good (fZ kd) 11 ⟨7,0,f,d,[dr d.s,fB d.x,fC d.y,lE d.p]⟩ (eE kd 7 f):=by rcases c with rfl|rfl<;>exact fX
section
abbrev eI:S9:=.bool true
def jc(h:Nat->S9)(d:eS):Nat->S9:=(up h [(0,.bool false),(1,ah 9),(2,ah 0),(3,d.s.four),(4,ah 0),(5,pt d.x),(6,pt d.y),(7,ah 0),(8,ah 0),(9,ah 2),(10,ah 0),(11,ah 95),(12,ah 0),(13,d.p.two),(14,ah 0),(15,d.q.two),(16,ah 5),(17,ah 0)])
def lL(h:Nat->S9)(d:eS):Nat->S9:=(up h [(62,ah 0),(63,eI),(64,eI),(65,ah 0),(66,eI),(67,eI),(68,eI),(69,ah 0),(70,eI),(71,eI),(72,eI),(73,ah 0),(74,eI),(75,eI),(76,eI),(77,ah 0),(78,eI),(79,eI),(80,eI),(81,ah 0),(82,eI),(83,eI),(84,eI),(85,ah 0),(86,eI),(87,eI),(88,eI),(89,ah 9),(90,eI),(91,eI),(92,eI),(93,.agg #[ah 24,ah 26]),(94,.agg #[ah 24,ah 26]),(95,eI),(96,eI),(97,eI)])
def k8(h:Nat->S9)(d:eS):Nat->S9:=(up h [(6,pt d.y),(9,ah 2),(11,ah 95),(16,ah 5),(97,eI)])
def np(h:Nat->S9)(d:eS):Nat->S9:=(up h [(98,.agg #[ah 48,ah 50]),(99,.agg #[ah 48,ah 50]),(100,eI),(101,eI),(102,eI),(103,ah 2),(104,eI),(105,eI),(106,eI),(107,ah 95),(108,eI),(109,eI),(110,eI),(111,ah 5),(112,eI),(113,eI),(114,eI)])
def mz(h:Nat->S9)(d:eS):Nat->S9:=(up h [(3,d.s.four),(114,eI)])
def p'(h:Nat->S9)(d:eS)(b:Nat):Nat->S9:=(up h [(115,d.s.four),(116,sl b 4),(117,eI),(118,eI),(119,eI)])
def oS(h:Nat->S9)(d:eS):Nat->S9:=(up h [(13,d.p.two),(119,eI)])
def uH(h:Nat->S9)(d:eS)(b:Nat):Nat->S9:=(up h [(120,d.p.two),(121,sl b 2),(122,eI),(123,eI),(124,eI)])
def n1(h:Nat->S9)(d:eS):Nat->S9:=(up h [(15,d.q.two),(124,eI)])
noncomputable def lg:Tv Oper:=opsOf f5 8
noncomputable def gG(kd:Tx)(T:TA)(f:Nat->S9):bA:=(⟨5,kD f,[.inRegion lg T,.code (E' 9)],[],.run,kd,none⟩,[])
noncomputable def MW:Tb TA:=sQ .any lg
structure tB where
 l:Nat
 h:Nat->S9
 d:eS
 T:TA
 b:Nat
 M:Mem
def ed(d:eS):Mem:=[dr d.s,fB d.x,fC d.y,lE d.p,y5 d.q]
def EY(b:Nat):Ta×Nat×Obj:=(true,b,.cells #[ah 2,ah 3,ah 5,ah 6] 3 (0,0))
def EX(b:Nat):Ta×Nat×Obj:=(true,b,.cells #[ah 2,ah 6] 3 (0,0))
def EZ(b:Nat):Ta×Nat×Obj:=(true,b,.cells #[ah 20,ah 46,ah 48,ah 60] 63 (0,0))
noncomputable def QU(kd:Tx):tB->Tb (Edge tB)
 |⟨0,h,d,_,_,M⟩=>[.ord 5 8 lg MW λo=>⟨1,h,d,o,0,M⟩]
 |⟨1,h,d,o,_,M⟩=>[.join (gG kd o (jc h d)) ⟨99,h,d,o,0,M⟩]
 |⟨10,h,d,T,_,M⟩=>[.bL [.ld 1 0,.ld 1 1] ⟨11,h,d,T,0,c0 M [.ld 1 0,.ld 1 1]⟩]
 |⟨11,h,d,T,_,_⟩=>[.call 23 #[ah 24,ah 26] (λ_:Unit=>.agg #[ah 24,ah 26]) λ_=>⟨14,h,d,T,0,ed d⟩]
 |⟨12,h,d,T,_,_⟩=>[.call 23 #[ah 24,ah 26] (λ_:Unit=>.agg #[ah 24,ah 26]) λ_=>⟨13,h,d,T,0,ed d⟩]
 |⟨13,h,d,T,_,M⟩=>[.bL [.ld 1 0,.ld 1 1] ⟨14,h,d,T,0,c0 M [.ld 1 0,.ld 1 1]⟩]
 |⟨14,h,d,T,_,M⟩=>[.join (gG kd T (lL (jc h d) d)) ⟨99,h,d,T,0,M⟩]
 |⟨20,h,d,T,_,M⟩=>[.bL [.ld 2 0,.ld 2 1] ⟨21,h,d,T,0,c0 M [.ld 2 0,.ld 2 1]⟩]
 |⟨21,h,d,T,_,_⟩=>[.call 23 #[ah 48,ah 50] (λ_:Unit=>.agg #[ah 48,ah 50]) λ_=>⟨24,h,d,T,0,ed d⟩]
 |⟨22,h,d,T,_,_⟩=>[.call 23 #[ah 48,ah 50] (λ_:Unit=>.agg #[ah 48,ah 50]) λ_=>⟨23,h,d,T,0,ed d⟩]
 |⟨23,h,d,T,_,M⟩=>[.bL [.ld 2 0,.ld 2 1] ⟨24,h,d,T,0,c0 M [.ld 2 0,.ld 2 1]⟩]
 |⟨24,h,d,T,_,M⟩=>[.join (gG kd T (np (k8 h d) d)) ⟨99,h,d,T,0,M⟩]
 |⟨30,h,d,T,_,M⟩=>[.new true (.cells #[ah 2,ah 3,ah 5,ah 6] 3 (0,0)) λb=>⟨31,h,d,T,b,M++[EY b]⟩]
 |⟨31,h,d,T,b,_⟩=>[.call 24 #[d.s.four,sl b 4] (λ_:Unit=>.bool true) λ_=>⟨32,h,d,T,b,ed d⟩]
 |⟨32,h,d,T,b,M⟩=>[.join (gG kd T (p' (mz h d) d b)) ⟨99,h,d,T,b,M⟩]
 |⟨40,h,d,T,_,M⟩=>[.new true (.cells #[ah 2,ah 6] 3 (0,0)) λb=>⟨41,h,d,T,b,M++[EX b]⟩]
 |⟨41,h,d,T,b,_⟩=>[.call 24 #[d.p.two,sl b 2] (λ_:Unit=>.bool true) λ_=>⟨42,h,d,T,b,ed d⟩]
 |⟨42,h,d,T,b,M⟩=>[.join (gG kd T (uH (oS h d) d b)) ⟨99,h,d,T,b,M⟩]
 |⟨50,h,d,T,_,M⟩=>[.new true (.cells #[ah 20,ah 46,ah 48,ah 60] 63 (0,0)) λb=>⟨51,h,d,T,b,M++[EZ b]⟩]
 |⟨51,h,d,T,b,_⟩=>[.call 13 #[d.q.two,sl b 2] (λ_:Unit=>.bool true) λ_=>⟨52,h,d,T,b,ed d⟩]
 |⟨52,_,_,_,_,_⟩=>[.leave (.bool true)]
 |_=>[]
def zq:tB->Nat
 |⟨1,_,_,_,_,_⟩=>0
 |⟨14,_,_,_,_,_⟩=>3
 |⟨24,_,_,_,_,_⟩=>15
 |⟨32,_,_,_,_,_⟩=>2
 |⟨42,_,_,_,_,_⟩=>2
 |_=>400
noncomputable def t8(kd:Tx):de tB:=⟨prog,hv,DK,kd,λp=>p.M,zq,QU kd⟩
def iW(kd:Tx):dn (t8 kd).P (t8 kd).ext:=by unfold t8;exact j8
def k3(kd:Tx)(p:tB):(t8 kd).dh p<=400:=by show zq p<=400;unfold zq;split<;>omega
set_option maxHeartbeats 8000000
set_option maxRecDepth 100000
def Ol(kd:Tx)(c:TG kd)(h:Nat->S9)(d:eS)(T:TA):Good (t8 kd) 6 ⟨10,h,d,T,0,ed d⟩ (gG kd (List.range' 0 36++T) (jc h d)):=by rcases c with rfl|rfl<;>exact fX
def Om(kd:Tx)(c:TG kd)(h:Nat->S9)(d:eS)(T:TA):Good (t8 kd) 6 ⟨12,h,d,T,0,ed d⟩ (gG kd (List.range' 0 31++32::31::33::34::35::T) (jc h d)):=by rcases c with rfl|rfl<;>exact fX
def On(kd:Tx)(c:TG kd)(h:Nat->S9)(d:eS)(T:TA):Good (t8 kd) 6 ⟨20,h,d,T,0,ed d⟩ (gG kd (List.range' 36 17++T) (k8 h d)):=by rcases c with rfl|rfl<;>exact fX
def Oo(kd:Tx)(c:TG kd)(h:Nat->S9)(d:eS)(T:TA):Good (t8 kd) 6 ⟨22,h,d,T,0,ed d⟩ (gG kd (37::36::(List.range' 38 15++T)) (k8 h d)):=by rcases c with rfl|rfl<;>exact fX
def Oq(kd:Tx)(c:TG kd)(h:Nat->S9)(d:eS)(T:TA):Good (t8 kd) 6 ⟨30,h,d,T,0,ed d⟩ (gG kd (List.range' 53 5++T) (mz h d)):=by rcases c with rfl|rfl<;>exact fX
def Ot(kd:Tx)(c:TG kd)(h:Nat->S9)(d:eS)(T:TA):Good (t8 kd) 6 ⟨30,h,d,T,0,ed d⟩ (gG kd (54::53::55::56::57::T) (mz h d)):=by rcases c with rfl|rfl<;>exact fX
def Ou(kd:Tx)(c:TG kd)(h:Nat->S9)(d:eS)(T:TA):Good (t8 kd) 6 ⟨40,h,d,T,0,ed d⟩ (gG kd (List.range' 58 5++T) (oS h d)):=by rcases c with rfl|rfl<;>exact fX
def Ov(kd:Tx)(c:TG kd)(h:Nat->S9)(d:eS)(T:TA):Good (t8 kd) 6 ⟨40,h,d,T,0,ed d⟩ (gG kd (59::58::60::61::62::T) (oS h d)):=by rcases c with rfl|rfl<;>exact fX
def Ow(kd:Tx)(c:TG kd)(h:Nat->S9)(d:eS):Good (t8 kd) 6 ⟨50,h,d,[],0,ed d⟩ (gG kd [63,64,65,66,67,68,69] (n1 h d)):=by rcases c with rfl|rfl<;>exact fX
def Ox(kd:Tx)(c:TG kd)(h:Nat->S9)(d:eS):Good (t8 kd) 6 ⟨50,h,d,[],0,ed d⟩ (gG kd [63,65,64,66,67,68,69] (n1 h d)):=by rcases c with rfl|rfl<;>exact fX
def Oy(kd:Tx)(c:TG kd)(h:Nat->S9)(d:eS):Good (t8 kd) 6 ⟨50,h,d,[],0,ed d⟩ (gG kd [64,63,65,66,67,68,69] (n1 h d)):=by rcases c with rfl|rfl<;>exact fX
def Oz(kd:Tx)(c:TG kd)(h:Nat->S9)(d:eS):Good (t8 kd) 6 ⟨50,h,d,[],0,ed d⟩ (gG kd [64,65,63,66,67,68,69] (n1 h d)):=by rcases c with rfl|rfl<;>exact fX
def OA(kd:Tx)(c:TG kd)(h:Nat->S9)(d:eS):Good (t8 kd) 6 ⟨50,h,d,[],0,ed d⟩ (gG kd [64,65,66,63,67,68,69] (n1 h d)):=by rcases c with rfl|rfl<;>exact fX
def OB(kd:Tx)(c:TG kd)(h:Nat->S9)(d:eS):Good (t8 kd) 6 ⟨50,h,d,[],0,ed d⟩ (gG kd [65,63,64,66,67,68,69] (n1 h d)):=by rcases c with rfl|rfl<;>exact fX
def OC(kd:Tx)(c:TG kd)(h:Nat->S9)(d:eS):Good (t8 kd) 6 ⟨50,h,d,[],0,ed d⟩ (gG kd [65,64,63,66,67,68,69] (n1 h d)):=by rcases c with rfl|rfl<;>exact fX
def OD(kd:Tx)(c:TG kd)(h:Nat->S9)(d:eS):Good (t8 kd) 6 ⟨50,h,d,[],0,ed d⟩ (gG kd [65,64,66,63,67,68,69] (n1 h d)):=by rcases c with rfl|rfl<;>exact fX
end
end Go.aO
