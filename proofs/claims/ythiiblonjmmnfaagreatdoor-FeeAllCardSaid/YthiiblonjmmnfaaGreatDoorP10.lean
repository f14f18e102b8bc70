/- Part 11 of a law on fees: no conditions. -/
import Derived.Test.YthiiblonjmmnfaaGreatDoorP7
import Derived.Test.YthiiblonjmmnfaaGreatDoorP8
import Derived.Test.YthiiblonjmmnfaaGreatDoorP9
set_option maxHeartbeats 8000000
set_option maxRecDepth 100000
set_option linter.all false
namespace Go.aN
attribute [-simp] Go.Sem.runT_eq
open Go.Proofs
section
inductive h0 where
 |idle|nu|bP|q|w2|aP|I|J|ax|sD|r2|fin
 deriving DecidableEq
def h0.xk:h0->Bool
 |.ax |.sD |.r2 |.fin=>true
 |_=>false
def h0.fs:h0->Bool
 |.J=>true
 |_=>false
def iK:h0->h0->Option (Int×Int)
 |.idle,.idle |.idle,.fin |.fin,.fin=>some (0,0)
 |.aP,.idle |.aP,.nu |.aP,.fin |.I,.idle |.I,.nu |.J,.idle |.J,.nu |.ax,.idle |.ax,.nu |.ax,.fin=>some (1,0)
 |.aP,.q |.I,.q |.J,.q |.ax,.q=>some (9,0)
 |.sD,.q=>some (8,0)
 |.r2,.q=>some (2,0)
 |.fin,.q=>some (2,1)
 |.fin,.w2=>some (2,0)
 |.fin,.nu |.fin,.bP=>some (0,0)
 |_,_=>none
def iw(a b:h0):Option (Int×Int):=match iK a b with
 |some x=>some x
 |none=>iK b a
def rY(a b:h0):Bool:=a.xk||b.xk
def sW(a b:h0):Bool:=rY a b||(a.fs||b.fs)
def I8(a b:h0):iw a b=iw b a:=by cases a<;>cases b<;>rfl
def FL(a b:h0):rY a b=rY b a:=by cases a<;>cases b<;>rfl
def NH(a b:h0):sW a b=sW b a:=by cases a<;>cases b<;>rfl
structure cx(a b:h0)(mu ms:Int)(aU a7:Bool):Prop where
 mu:iw a b=some (mu,ms)
 aU:aU=rY a b
 a7:a7=sW a b
def cx.symm{a b:h0}{mu ms:Int}{aU a7:Bool}(h:cx a b mu ms aU a7):cx b a mu ms aU a7:=⟨by rw[I8];exact h.mu,h.aU.trans (FL _ _),h.a7.trans (NH _ _)⟩
section
variable{b:h0}{mu ms:Int}{aU a7:Bool}
def cx.iF(h:cx .idle b mu ms aU a7):(mu=0/\cx .aP b 1 ms aU a7)\/(mu=1/\cx .nu b 1 ms aU a7):=by obtain⟨c,rfl,rfl⟩:=h;cases b<;>simp[iw,iK]at c<;>obtain⟨rfl,rfl⟩:=c<;>first|exact .inl ⟨rfl,rfl,rfl,rfl⟩|exact .inr ⟨rfl,rfl,rfl,rfl⟩
def cx.look(h:cx .nu b mu ms aU a7):mu=1\/(mu=0/\cx .bP b 0 ms aU a7):=by obtain⟨c,rfl,rfl⟩:=h;cases b<;>simp[iw,iK]at c<;>obtain⟨rfl,rfl⟩:=c<;>first|exact .inl rfl|exact .inr ⟨rfl,rfl,rfl,rfl⟩
def cx.queue(h:cx .nu b mu ms aU a7):(mu=1/\cx .q b 9 ms aU a7)\/(mu=0/\cx .bP b 0 ms aU a7):=by obtain⟨c,rfl,rfl⟩:=h;cases b<;>simp[iw,iK]at c<;>obtain⟨rfl,rfl⟩:=c<;>first|exact .inl ⟨rfl,rfl,rfl,rfl⟩|exact .inr ⟨rfl,rfl,rfl,rfl⟩
def cx.bP(h:cx .bP b mu ms aU a7):mu=0/\cx .aP b 1 ms aU a7:=by obtain⟨c,rfl,rfl⟩:=h;cases b<;>simp[iw,iK]at c<;>obtain⟨rfl,rfl⟩:=c<;>exact⟨rfl,rfl,rfl,rfl⟩
def cx.sema(h:cx .q b mu ms aU a7):(ms=0/\b≠.fin)\/(ms=1/\cx .w2 b mu 0 aU a7):=by obtain⟨c,rfl,rfl⟩:=h;cases b<;>simp[iw,iK]at c<;>obtain⟨rfl,rfl⟩:=c<;>first|exact .inl ⟨rfl,by simp⟩|exact .inr ⟨rfl,rfl,rfl,rfl⟩
def cx.w2(h:cx .w2 b mu ms aU a7):mu=2/\cx .aP b 1 ms aU a7:=by obtain⟨c,rfl,rfl⟩:=h;cases b<;>simp[iw,iK]at c<;>obtain⟨rfl,rfl⟩:=c<;>exact⟨rfl,rfl,rfl,rfl⟩
def cx.Hz(h:cx .fin b mu ms aU a7):aU=true:=by rw[h.aU];rfl
def cx.Hy(h:cx .aP b mu ms aU a7):(aU=false/\cx .I b mu ms aU a7)\/(aU=true/\cx .ax b mu ms aU a7):=by obtain⟨c,rfl,rfl⟩:=h;cases b<;>simp[iw,iK]at c<;>obtain⟨rfl,rfl⟩:=c<;>first|exact .inl ⟨rfl,rfl,rfl,rfl⟩|exact .inr ⟨rfl,rfl,rfl,rfl⟩
def cx.write(h:cx .I b mu ms aU a7):aU=false/\a7=false/\b.fs=false/\cx .J b mu ms aU true:=by obtain⟨c,rfl,rfl⟩:=h;cases b<;>simp[iw,iK]at c<;>obtain⟨rfl,rfl⟩:=c<;>exact⟨rfl,rfl,rfl,rfl,rfl,rfl⟩
def cx.raise(h:cx .J b mu ms aU a7):aU=false/\a7=true/\cx .ax b mu ms true a7:=by obtain⟨c,rfl,rfl⟩:=h;cases b<;>simp[iw,iK]at c<;>obtain⟨rfl,rfl⟩:=c<;>exact⟨rfl,rfl,rfl,rfl,rfl⟩
def cx.held(h:cx .ax b mu ms aU a7):mu=1\/mu=9:=by obtain⟨c,rfl,rfl⟩:=h;cases b<;>simp[iw,iK]at c<;>obtain⟨rfl,rfl⟩:=c<;>first|exact .inl rfl|exact .inr rfl
def cx.add(h:cx .ax b mu ms aU a7):(mu=1/\cx .fin b 0 ms aU a7)\/(mu=9/\cx .sD b 8 ms aU a7):=by obtain⟨c,rfl,rfl⟩:=h;cases b<;>simp[iw,iK]at c<;>obtain⟨rfl,rfl⟩:=c<;>first|exact .inl ⟨rfl,rfl,rfl,rfl⟩|exact .inr ⟨rfl,rfl,rfl,rfl⟩
def cx.E7(h:cx .sD b mu ms aU a7):mu=8/\cx .r2 b 2 ms aU a7:=by obtain⟨c,rfl,rfl⟩:=h;cases b<;>simp[iw,iK]at c<;>obtain⟨rfl,rfl⟩:=c<;>exact⟨rfl,rfl,rfl,rfl⟩
def cx.post(h:cx .r2 b mu ms aU a7):ms=0/\cx .fin b mu 1 aU a7:=by obtain⟨c,rfl,rfl⟩:=h;cases b<;>simp[iw,iK]at c<;>obtain⟨rfl,rfl⟩:=c<;>exact⟨rfl,rfl,rfl,rfl⟩
end
inductive lz where
 |no|ks|gK|iA|yes
 deriving DecidableEq
inductive th where
 |pre|reg|s8
 deriving DecidableEq
def lz.dec:lz->Bool
 |.no=>false
 |_=>true
def dM(two:Bool)(a b:lz)(k:th):Option (Int×Int):=match two,a,b,k with
 |false,.no,.no,.pre=>some (4294967296,0)
 |true,.no,.no,.pre=>some (8589934592,0)
 |true,.yes,.no,.pre|true,.no,.yes,.pre=>some (4294967296,0)
 |true,.yes,.yes,.pre=>some (0,0)
 |true,.no,.no,.reg=>some (8589934593,0)
 |true,.yes,.no,.reg|true,.no,.yes,.reg=>some (4294967297,0)
 |true,.yes,.ks,.reg|true,.ks,.yes,.reg|true,.yes,.gK,.reg|true,.gK,.yes,.reg=>some (1,0)
 |true,.yes,.iA,.reg|true,.iA,.yes,.reg=>some (0,0)
 |true,.yes,.yes,.reg=>some (0,1)
 |true,.yes,.yes,.s8=>some (0,0)
 |_,_,_,_=>none
def DX(t:Bool)(a b:lz)(k:th):dM t a b k=dM t b a k:=by cases t<;>cases a<;>cases b<;>cases k<;>rfl
section
variable{a b:lz}{k:th}{v m:Int}
def OL(h:dM false a b k=some (v,m)):v=4294967296/\dM true a b k=some (8589934592,m):=by cases a<;>cases b<;>cases k<;>simp[dM]at h<;>obtain⟨rfl,rfl⟩:=h<;>exact⟨rfl,rfl⟩
def OM(h:dM true .no b k=some (v,m)):(v=8589934592/\dM true .yes b k=some (4294967296,m))\/(v=4294967296/\dM true .yes b k=some (0,m))\/
 (v=8589934593/\dM true .yes b k=some (4294967297,m))\/(v=4294967297/\dM true .ks b k=some (1,m)):=by
 cases b<;>cases k<;>simp[dM]at h<;>obtain⟨rfl,rfl⟩:=h<;>simp[dM]
def OO(h:dM true .ks b k=some (v,m)):v=1/\dM true .gK b k=some (1,m):=by cases b<;>cases k<;>simp[dM]at h<;>obtain⟨rfl,rfl⟩:=h<;>exact⟨rfl,rfl⟩
def OP(h:dM true .gK b k=some (v,m)):dM true .iA b k=some (0,m):=by cases b<;>cases k<;>simp[dM]at h<;>obtain⟨rfl,rfl⟩:=h<;>rfl
def OQ(h:dM true .iA b k=some (v,m)):m=0/\dM true .yes b k=some (v,1):=by cases b<;>cases k<;>simp[dM]at h<;>obtain⟨rfl,rfl⟩:=h<;>exact⟨rfl,rfl⟩
def left(a b:lz):Nat:=(if a.dec then 0 else 1)+(if b.dec then 0 else 1)
def DY(h:dM true a b .pre=some (v,m)):(left a b=0/\v=0/\dM true a b .s8=some (0,m))\/(left a b=1/\v=4294967296/\dM true a b .reg=some (4294967297,m))\/(left a b=2/\v=8589934592/\dM true a b .reg=some (8589934593,m)):=by cases a<;>cases b<;>simp[dM]at h<;>obtain⟨rfl,rfl⟩:=h<;>simp[dM,left,lz.dec]
def DZ(h:dM true a b .reg=some (v,m)):(m=0/\¬(a=.yes/\b=.yes))\/(m=1/\dM true a b .s8=some (v,0)):=by cases a<;>cases b<;>simp[dM]at h<;>obtain⟨rfl,rfl⟩:=h<;>simp[dM]
def s5(h:dM true a b .s8=some (v,m)):v=0/\a=.yes/\b=.yes:=by cases a<;>cases b<;>simp[dM]at h<;>obtain⟨rfl,rfl⟩:=h<;>simp
end
end
end Go.aN
namespace Go.aN
attribute [-simp] Go.Sem.runT_eq
open Go.Proofs Go.Conc Go.ConcN
noncomputable abbrev aF:Program:=Tryz.prog
structure dJ where
 Q:Program
 K:fV Q Tryz.prog
 ha:Nat
 e9:Nat
 v0:World
 R:Value->World->Prop
 S:bK Q Tryz.prog
 eo:ey (eE (h5 Q)) Q Q
 H:ey (eE K) Q Tryz.prog
 cJ:∀f a b,¬K.cJ f a b
 fn:∀f,K.fn f->f=37
 dy:dX Q 37=some 2/\dX Q 23=none
 tC:Q.cellsOf 105=28
 c3:Q.cellsOf 3=1
 rk:Q.globals.size<=ha/\Q.globals.size<=e9/\ha≠e9
 sd:v0.heap[ha]?=some (.cells #[ad 2,sl e9 2] 105 (0,2))
 xg:v0.heap[e9]?=some (.cells #[ad 2,ad 1] 3 (0,2))
 going:en Q 23 R ⟨Frame.enter Q 23 #[pt ha,.agg c8] .normal,[],v0⟩
 self:Self Q ⟨Frame.enter Q 23 #[pt ha,.agg c8] .normal,[],v0⟩
 stub:∀V:cY,en Q 23 R V->∀a kind c cs,(kind=.normal\/kind=.deferred)->a.size=2->V.fr=Frame.enter Q 37 a kind->V.cs=c::cs->Kept c->
  a=#[pt ha,ad 0]/\∃n,runN Q n V.m=.next (lone (er kind c gX) (cs++[wall]) V.w)
 res:∀v w,R v w->∃b c l,v=four (b,c)/\w.heap[b]?=some (.cells (#[ad 2,ad 3,ad 5,ad 6]++l) 3 (0,0))/\c=l.size+4
abbrev ku(Q:Program):={V:cY // Acc (ds Q) V}
inductive Ek where
 |un|out (p:gR)|lift|eK (l:Nat)|db (l:Nat)|lock (p:iT)|c7 (l:Nat)|g9 (p:lI)
structure bZ where
 c:Ek
 a2:Bool
def oa:iT->h0
 |.h4 |.iF=>.idle
 |.hy |.fz |.aq |.fin=>.aP
 |.ld |.sp _ |.rs _ |.pC=>.nu
 |.jW |.bu=>.bP
 |.t1 |.ow _=>.q
 |.t2 _ |.mZ _ _ |.rw |.c2=>.w2
def yR:lI->h0
 |.ld |.fz |.ck |.h4 |.add=>.ax
 |.iF=>.sD
 |.cJ=>.r2
 |.hy |.fin=>.fin
def tO(a2:Bool):Nat->h0
 | 2=>.aP
 | 3=>.I
 | 4|5=>.J
 | 7=>.ax
 |_=>if a2 then .fin else .idle
def bZ.role(s:bZ):h0:=match s.c with
 |.lock p=>oa p
 |.g9 p=>yR p
 |.c7 l=>if l<49 then .I else .J
 |.db l=>tO s.a2 l
 |.un=>.idle
 |_=>if s.a2 then .fin else .idle
def nA:gR->lz
 |.d4=>.ks
 |.d5=>.gK
 |.d7=>.iA
 |.d6 |.fin=>.yes
 |_=>.no
def bZ.cy(s:bZ):lz:=match s.c with
 |.out p=>nA p
 |_=>.no
def l5:gR->Bool
 |.d0 |.d1 |.d2 |.d3 |.d4 |.d5 |.d7 |.d6 |.fin=>true
 |_=>false
def bZ.cI(s:bZ):Bool:=match s.c with
 |.out p=>l5 p
 |_=>false
def bZ.deaf(s:bZ):Nat:=match s.c with
 |.out p=>(match p with
  |.d3 |.d4 |.d5 |.d7 |.d6=>1
  |_=>0)
 |.lock p=>(match p with
  |.h4 |.fz |.aq |.fin=>0
  |_=>1)
 |.g9 p=>(match p with
  |.add |.iF |.cJ |.hy=>1
  |_=>0)
 |_=>0
def bZ.dO(s:bZ):Bool:=match s.c with
 |.db l=>decide (7<=l)
 |.g9 _=>true
 |.eK l=>decide (14<=l)
 |_=>false
inductive c' where
 |un|at(p:fG)
def c'.ph:c'->th
 |.un=>.pre
 |.at p=>match p with
  |.bu |.c1 _ |.c2 _=>.pre
  |.c3 |.c4 |.fi=>.reg
  |_=>.s8
def c'.deaf:c'->Nat
 |.at p=>(match p with
  |.c1 _ |.c2 _ |.c3 |.c4 |.fi |.nS |.nT=>1
  |_=>0)
 |.un=>0
def c'.bound:c'->Nat
 |.at (.c1 m) |.at (.c2 m)=>m
 |_=>2
def c'.shut:c'->Bool
 |.at .fin=>true
 |_=>false
def c'.said:c'->Bool
 |.at p=>(match p with
  |.bu |.c1 _ |.c2 _ |.c3 |.c4=>false
  |_=>true)
 |.un=>false
def iJ(l:Nat):Nat:=if l=23\/l=24 then 1 else 0
def da(l:Nat):Nat:=if l<=28 then 0 else if l<=34 then 1 else 2
structure Stat where
 z:dr
 L:Nat
 a7:Nat
 O:Nat
 ch:Nat
 bX:Nat
 W:Nat
 N:Nat
 cH:Nat
 aI:World
 kd:CallKind
 base:List Frame
 aE:Nat->Prop
class gh(X:dJ)(Z:Stat):Prop where
 hR:∀b,hR X.Q=some b->b=X.ha/\b=Z.z.T
structure bI where
 bO:Nat->Nat
 ro:Nat->Nat->Prop
 bC:Bool->kT
 s:Bool->bZ
 k:c'
 l:Nat
 mu:Int
 ms:Int
 aU:Bool
 a7:Bool
 v:Int
 m:Int
 cl:Bool->Nat×Nat
def Stat.wk(Z:Stat):Bool->Nat
 |false=>Z.N
 |true=>Z.N+1
def kU(b:Bool):Int:=if b then 1 else 0
def jx(b:Bool):Array Value:=if b then #[ad 1,ad 1,ad 3,ad 0,ad 3]else #[ad 0,ad 0,ad 0,ad 0,ad 0]
def dW(z:dr)(mu ms:Int)(aU a7:Bool):Array Value:=
 #[ad 2,sl z.F 2,sl z.R 2,sl z.Fr 1,.int .u32 (kU aU),.int .i32 mu,.int .u32 ms,.int .u32 0,.int .i32 0,.int .u32 0,.int .u32 0,.int .i32 0,.int .u32 0]++jx a7++#[ad 0,ad 0,ad 0,ad 0,ad 0,ad 0,ad 0,ad 0,ad 0,ad 0]
structure dv(Z:Stat)(G:bI)(w:World):Prop where
 T:w.heap[Z.z.T]?=some (.cells (dW Z.z G.mu G.ms G.aU G.a7) 105 (0,0))
 W:w.heap[Z.W]?=some (.cells #[.int .u64 G.v,.int .u32 G.m] 199 (0,0))
 ch:w.heap[Z.ch]?=some (.chan 0 #[] G.k.shut (da G.l) (da G.l) false)
 old:∀b,b<Z.aI.heap.size->b≠Z.z.T->w.heap[b]?=Z.aI.heap[b]?
 calm:Calm Z.aI w
structure fT(G:bI):Prop where
 once:cx (G.s false).role (G.s true).role G.mu G.ms G.aU G.a7
 wg:dM (decide (24<=G.l)) (G.s false).cy (G.s true).cy G.k.ph=some (G.v,G.m)
 bound:left (G.s false).cy (G.s true).cy<=G.k.bound
 cnt:da G.l=(if (G.s false).cI then 1 else 0)+(if (G.s true).cI then 1 else 0)
 kN:G.l<26↔(G.s true).c=.un
 lr:G.l<27↔G.k=.un
 nQ:(G.s false).c≠.un
 b4:17<=G.l
 dO:∀k,(G.s k).dO=true->G.aU=true
def ef(Z:Stat)(G:bI):oY:=if G.aU then .done else if (G.s false).role.fs then .written (Z.wk false)else if (G.s true).role.fs then .written (Z.wk true)else .fresh
def blk:Loc->Nat
 |.cell a=>a.block
 |.obj r=>r
 |_=>0
def pl(Z:Stat)(G:bI):oU where
 cH:=Z.cH
 h7 l:=(∃o,l=.cell ⟨Z.z.T,o,none⟩/\4<=o/\o<13)\/(∃a,l=.cell a/\a.block=Z.W)\/l=.obj Z.ch
 g4 l:=∃o,l=.cell ⟨Z.z.T,o,none⟩/\13<=o
 jG:=⟨Z.z.T,4,none⟩
 bO l:=G.bO (blk l)
 mQ g l:=G.ro g (blk l)/\l.isMemory=true/\(blk l=Z.z.T->l=.obj Z.z.T\/∃o,l=.cell ⟨Z.z.T,o,none⟩/\o<4)
 aE:=Z.aE
 no:=Z.N+3
def Own(Z:Stat)(G:bI)(i:Nat)(M:Mem):Prop:=∀(n:Nat) own b o,M[n]?=some (own,b,o)->
 (b≠Z.z.T/\b≠Z.W/\b≠Z.ch)/\(G.bO b=i\/G.ro i b)/\(own=true->G.bO b=i/\∀h,h≠i->¬G.ro h b)
structure cn{Pos:Type}(A:cS Pos)(Z:Stat)(G:bI)(i:Nat)(p:Pos)(base:List Frame)(x:bs)(g:Goroutine)(w:World)(n j:Nat):Prop where
 on:eA A n p j x
 le:j<=400
 fr:g.frame=x.1
 cs:g.callers=x.2++base
 lL:g.dying=none
 mem:fF (A.mem p) w
 own:Own Z G i (A.mem p)
def m7:List Nat->Bool
 | 6::_=>true
 | 0::r|1::r=>m7 r
 |_=>false
def ml:List Nat->Bool
 | 0::r|1::r|2::r|3::r=>ml r
 | 4::r=>m7 (r.filter (λn=>!(n == 5)))
 |_=>false
def rp:gR->Bool
 |.g r=>ml r
 |.h r _=>m7 r
 |_=>true
def lk(l:Nat)(r:List Nat):Bool:=match l with
 | 0|1|2|3|14|16|17=>true
 | 4|15=>r.all (· < 2)
 |_=>false
def ql:Nat->Bool
 | 0|1|2|3|4|5|7|8=>true
 |_=>false
def nW(l:Nat)(r:List Nat):Bool:=if l=48 then r.all (· < 3)else decide (l<=49)
structure lC where
 x:bs
 rem:List Nat
 n:Nat
def lC.base(c:lC):List Frame:=c.x.1::c.x.2
def lC.Ok(c:lC)(Z:Stat)(G:bI)(k:Bool)(w:World):Prop:=
 (∀v,eA (eZ (G.bC k)) c.n (.h c.rem v) 400 (c.x.1.finish (four v),c.x.2))/\fF (gZ (G.bC k)) w/\Own Z G (Z.wk k) (gZ (G.bC k))/\(∀(n:Nat) own b o,(gZ (G.bC k))[n]?=some (own,b,o)->G.bO b≠Z.wk k)/\m7 c.rem=true
structure lG(X:dJ)(Z:Stat)(G:bI)(i:Nat)(ρ:Ren)(V:cY):Prop where
 fq:∀b aA,ρ.r b aA->aA≠Z.W/\aA≠Z.ch/\(aA=Z.z.T->b=X.ha)
 own:∀b aA,ρ.r b aA->(aA≠Z.z.T/\G.bO aA=i/\∀h,h≠i->¬G.ro h aA)\/(G.ro i aA/\hY V.w b)
 T:V.w.heap[X.ha]?=some (.cells #[ad 2,sl X.e9 2] 105 (0,2))
 sB:ρ.r X.ha Z.z.T
 uS:ρ.r X.e9 Z.z.F
 inexact:ρ.exact=false
 fits:Fits X.Q ρ
structure LCtx where
 V:cY
 ρ:Ren
 cs:List Frame
 o:lC
def LCtx.base(c:LCtx):List Frame:=c.cs++c.o.base
structure LCtx.qb(X:dJ)(Z:Stat)(G:bI)(k:Bool)(c:LCtx)(fr:Frame)(w:World):Prop where
 going:en X.Q 23 X.R c.V
 self:Self X.Q c.V
 pair:lD X.K c.ρ c.V fr c.cs w
 jV:lG X Z G (Z.wk k) c.ρ c.V
 o:c.o.Ok Z G k w
structure LCtx.qd(X:dJ)(Z:Stat)(G:bI)(k:Bool)(c:LCtx)(kd:CallKind)(w:World):Prop where
 going:en X.Q 23 X.R c.V
 self:Self X.Q c.V
 xl:kd=.normal\/kd=.deferred
 fr:c.V.fr=Frame.enter X.Q 37 #[pt X.ha,ad 0] kd
 some:c.V.cs≠[]
 cs:cA (cG X.K c.ρ) c.V.cs c.cs
 fit:Fit X.Q c.ρ
 room:c.ρ.room=true
 heap:gb c.ρ c.V.w w
 jV:lG X Z G (Z.wk k) c.ρ c.V
 o:c.o.Ok Z G k w
def np(T bz bA cL:Nat):Nat->Mem
 | 0=>[]
 | 1=>[(true,bz,.cells #[pt T] 60 (0,0))]
 | 2=>[(true,bz,.cells #[pt T] 60 (0,0)),(true,bA,.cells #[i0] 3 (0,0))]
 |_=>[(true,bz,.cells #[pt T] 60 (0,0)),(true,bA,.cells #[i0] 3 (0,0)),(true,cL,.cells #[i0,i0,i0,i0,i0] 102 (0,0))]
structure RCtx extends LCtx where
 kd:CallKind
 bz:Nat
 bA:Nat
 cL:Nat
 M:Mem
 mJ:bs
 nr:Nat
 bh:Nat
def RCtx.jT(c:RCtx):List Frame:=c.mJ.1::c.mJ.2++c.base
structure RCtx.Ok(X:dJ)(Z:Stat)(G:bI)(k:Bool)(c:RCtx)(w:World):Prop where
 l:c.toLCtx.qd X Z G k c.kd w
 on:eA (hn Z.z.T c.kd) c.nr ⟨14,[],c.bz,c.bA,c.cL,c.M⟩ 400 (c.mJ.1.finish unit,c.mJ.2)
 mem:fF c.M w
 own:Own Z G (Z.wk k) c.M
 tA:c.M=np Z.z.T c.bz c.bA c.cL 3
 run:c.mJ.1.mode=.run
 b4:∀b aA,c.ρ.r b aA->aA<c.bh
 aj:∀(i:Nat) b o,c.M[i]?=some (true,b,o)->c.bh<=b
 dA:c.bh<=w.heap.size
structure gL extends RCtx where
 iP:bs
 bJ:Nat
def gL.hL(c:gL):List Frame:=c.iP.1::c.iP.2++c.jT
structure gL.Ok(X:dJ)(Z:Stat)(G:bI)(k:Bool)(c:gL)(to:Nat)(w:World):Prop where
 r:c.toRCtx.Ok X Z G k w
 on:eA (iV Z.z.T) c.bJ ⟨to,c.bz,c.bA⟩ 400 (c.iP.1.finish unit,c.iP.2)
 run:c.iP.1.mode=.run
structure jh(Z:Stat)(G:bI)(i:Nat)(w:World)(v:Nat×Nat):Prop where
 cells:∃l,w.heap[v.1]?=some (.cells (#[ad 2,ad 3,ad 5,ad 6]++l) 3 (0,0))/\v.2<=l.size+4
 fq:v.1≠Z.z.T/\v.1≠Z.W/\v.1≠Z.ch
 own:G.bO v.1=i
def lv(cl:Nat×Nat):gR->Option (Nat×Nat)
 |.h _ v |.snd v=>some v
 |.bP |.g _=>none
 |_=>some cl
abbrev fI(Q:Program):=Nat×ku Q×Nat
def gC:gR->Bool
 |.bP |.g _=>true
 |_=>false
inductive eM(X:dJ)(Z:Stat)(G:bI)(k:Bool)(g:Goroutine)(w:World):bZ->fI X.Q->Prop
 |un (a2 bl):eM X Z G k g w ⟨.un,a2⟩ bl
 |out {p a2 x n j} (fp:ku X.Q) (ok:rp p=true) (h:cn (eZ (G.bC k)) Z G (Z.wk k) p [] x g w n j) (ah:gC p=true->a2=false)
  (ak:∀(n:Nat) own b o,(gZ (G.bC k))[n]?=some (own,b,o)->G.bO b≠Z.wk k) (aD:∀v,lv (G.cl k) p=some v->jh Z G (Z.wk k) w v):eM X Z G k g w ⟨.out p,a2⟩ (if gC p then 3 else 1,fp,n*500+j)
 |gone {a2} (fp:ku X.Q) (aB:g.status=.finished) (aD:jh Z G (Z.wk k) w (G.cl k)):eM X Z G k g w ⟨.out .fin,a2⟩ (0,fp,0)
 |lift {a2 fr} (c:LCtx) (eu:g.frame=fr) (ed:g.callers=c.base) (m8:g.dying=none) (h:c.qb X Z G k fr w) (aa:Acc (ds X.Q) c.V):eM X Z G k g w ⟨.lift,a2⟩ (2,⟨c.V,aa⟩,0)
 |eK {a2 l x n j} (c:LCtx) (kd bz bA cL M rem) (bh:Nat) (ok:lk l rem=true) (bG:∀(i:Nat) b o,M[i]?=some (true,b,o)->bh<=b) (cp:∀b aA,c.ρ.r b aA->aA<bh) (cw:bh<=w.heap.size) (bw:l<=16->M=np Z.z.T bz bA cL l) (h:c.qd X Z G k kd w)
  (aa:Acc (ds X.Q) c.V) (az:cn (hn Z.z.T kd) Z G (Z.wk k) ⟨l,rem,bz,bA,cL,M⟩ c.base x g w n j):eM X Z G k g w ⟨.eK l,a2⟩ (2,⟨c.V,aa⟩,(n*500+j)*10000000000)
 |db {a2 l x n j} (c:RCtx) (ok:ql l=true) (eH:1<=l->l<=7->a2=false) (h:c.Ok X Z G k w) (aa:Acc (ds X.Q) c.V) (az:cn (iV Z.z.T) Z G (Z.wk k) ⟨l,c.bz,c.bA⟩ c.jT x g w n j):eM X Z G k g w ⟨.db l,a2⟩ (2,⟨c.V,aa⟩,(c.nr*500+450)*10000000000+(n*500+j)*100000)
 |lock {p x n j} (c:gL) (h:c.Ok X Z G k 2 w) (aa:Acc (ds X.Q) c.V) (az:cn (uC Z.z.T 4 (105,28) .normal) Z G (Z.wk k) p c.hL x g w n j):eM X Z G k g w ⟨.lock p,false⟩ (2,⟨c.V,aa⟩,(c.nr*500+450)*10000000000+(c.bJ*500+450)*100000+(n*500+j))
 |c7 {l rem M x n j} (c:gL) (bh:Nat) (ok:nW l rem=true) (bG:∀(i:Nat) b o,M[i]?=some (true,b,o)->bh<=b) (cp:∀b aA,c.ρ.r b aA->aA<bh) (cF:∀(i:Nat) own b o,c.M[i]?=some (own,b,o)->b<bh) (cw:bh<=w.heap.size) (h:c.Ok X Z G k 4 w)
  (aa:Acc (ds X.Q) c.V) (az:cn (tH Z.z) Z G (Z.wk k) ⟨l,rem,M⟩ c.hL x g w n j):eM X Z G k g w ⟨.c7 l,false⟩ (2,⟨c.V,aa⟩,(c.nr*500+450)*10000000000+(c.bJ*500+450)*100000+(n*500+j))
 |g9 {p a2 x n j} (c:gL) (h:c.Ok X Z G k 8 w) (aa:Acc (ds X.Q) c.V) (az:cn (vw Z.z.T 4 (105,28) .normal) Z G (Z.wk k) p c.hL x g w n j):eM X Z G k g w ⟨.g9 p,a2⟩ (2,⟨c.V,aa⟩,(c.nr*500+450)*10000000000+(c.bJ*500+450)*100000+(n*500+j))
section
variable{X:dJ}{Z:Stat}{G dh:bI}{w aG:World}{k:Bool}
structure iE(Z:Stat)(G dh:bI)(i bh:Nat)(w aG:World):Prop where
 size:w.heap.size<=aG.heap.size
 bO:∀b,b<w.heap.size->dh.bO b=G.bO b
 ro:∀h b,G.ro h b->dh.ro h b
 Cl:∀h b,b<w.heap.size->dh.ro h b->G.ro h b\/G.bO b≠i
 keep:∀b,b<w.heap.size->b≠Z.z.T->b≠Z.W->b≠Z.ch->(G.bO b=i\/G.ro i b)->(b<bh\/G.bO b≠i)->aG.heap[b]?=w.heap[b]?
 T:∃mu ms aU a7,aG.heap[Z.z.T]?=some (.cells (dW Z.z mu ms aU a7) 105 (0,0))
abbrev eh(Z:Stat)(G dh:bI)(i:Nat)(w aG:World):Prop:=iE Z G dh i w.heap.size w aG
def fB{M:Mem}(h:fF M w){n:Nat}{own:Bool}{b:Nat}{o:Obj}(e:M[n]?=some (own,b,o)):b<w.heap.size:=(Array.getElem?_eq_some_iff.1 (h.has n own b o e)).1
variable{bh:Nat}
def fF.rely{M:Mem}{i:Nat}(h:fF M w)(c:Own Z G i M)(r:iE Z G dh i bh w aG)(d:∀(n:Nat) own b o,M[n]?=some (own,b,o)->b<bh\/G.bO b≠i):fF M aG:=
 h.keep λn own b o e=>r.keep b (fB h e) (c n own b o e).1.1 (c n own b o e).1.2.1 (c n own b o e).1.2.2 (c n own b o e).2.1 (d n own b o e)
def fF.floor{M:Mem}{i:Nat}(h:fF M w):∀(n:Nat) own b o,M[n]?=some (own,b,o)->b<w.heap.size\/G.bO b≠i:=λ_ _ _ _ e=>.inl (fB h e)
def Own.rely{M:Mem}{i:Nat}(h:fF M w)(p:Own Z G i M)(r:iE Z G dh i bh w aG):Own Z dh i M:=by
 intro n own b o e;obtain⟨f,g,c⟩:=p n own b o e;have d:=fB h e;refine⟨f,g.imp (λx=>(r.bO b d).trans x) (r.ro i b),λx=>⟨(r.bO b d).trans (c x).1,λj l q=>?_⟩⟩;rcases r.Cl j b d q with y|y
 .exact(c x).2 j l y
 .exact y (c x).1
def cn.rely{Pos:Type}{A:cS Pos}{i:Nat}{p:Pos}{base:List Frame}{x:bs}{g g':Goroutine}{n j:Nat}(h:cn A Z G i p base x g w n j)(r:eh Z G dh i w aG)(c:g'.frame=g.frame)(d:g'.callers=g.callers)(f:g'.dying=g.dying):cn A Z dh i p base x g' aG n j:=
 ⟨h.on,h.le,c.trans h.fr,d.trans h.cs,f.trans h.lL,h.mem.rely h.own r h.mem.floor,h.own.rely h.mem r⟩
def Dp{ρ:Ren}(g:Fits X.Q ρ)(he:ρ.exact=false)(hF:ρ.r X.e9 Z.z.F)(mu ms:Int)(aU a7:Bool):ev ρ (.cells #[ad 2,sl X.e9 2] 105 (0,2)) (.cells (dW Z.z mu ms aU a7) 105 (0,0)):=by
 refine .cells (.inr ⟨?_,?_⟩) (λi x y c d=>?_) (.inr ⟨he,rfl,Pk,Nat.zero_le _⟩)
 .cases a7<;>simp[dW,jx]
 .refine Px ?_ (g.cells 105)
  rw[X.tC];simp
 .have j:i<2:=by simpa using bp c
  have h:(dW Z.z mu ms aU a7)[i]?=#[ad 2,sl Z.z.F 2][i]?:=by
   have f:i=0\/i=1:=by omega
   rcases f with rfl|rfl<;>(cases a7<;>simp[dW,jx])
  rw[h]at d;have f:i=0\/i=1:=by omega
  rcases f with rfl|rfl
  .simp at c d
   subst c;subst d;exact .int _ _
  .simp at c d
   subst c;subst d;exact aM.slice (a:=⟨X.e9,0,none⟩) (b:=⟨Z.z.F,0,none⟩) ⟨hF,rfl,rfl⟩ 2 2
def gb.rely{ρ:Ren}{V:cY}{i:Nat}(h:gb ρ V.w w)(d:lG X Z G i ρ V)(r:iE Z G dh i bh w aG)(q:∀b c,ρ.r b c->c<bh):gb ρ V.w aG:=by
 refine⟨λb c f=>?_,h.lim,Po h.iI r.size⟩;obtain⟨o,u,l,j,p⟩:=h.obj b c f;by_cases g:c=Z.z.T
 .obtain rfl:=(d.fq b c f).2.2 g
  subst g;obtain⟨mu,ms,aU,a7,e⟩:=r.T;exact⟨_,_,d.T,e,Dp d.fits d.inexact d.uS _ _ _ _⟩
 .refine⟨o,u,l,?_,p⟩
  rw[r.keep c (bp j) g (d.fq b c f).1 (d.fq b c f).2.1 ((d.own b c f).imp (λx=>x.2.1) And.left) (.inl (q b c f))];exact j
def lG.rely{ρ:Ren}{V:cY}{i:Nat}(h:gb ρ V.w w)(c:lG X Z G i ρ V)(r:iE Z G dh i bh w aG):lG X Z dh i ρ V:=by
 refine⟨c.fq,λb d o=>?_,c.T,c.sB,c.uS,c.inexact,c.fits⟩;obtain⟨_,_,_,g,_⟩:=h.obj b d o;have p:=bp g;rcases c.own b d o with⟨f,l,q⟩|⟨f,g⟩
 .refine .inl ⟨f,(r.bO d p).trans l,λj u z=>?_⟩
  rcases r.Cl j d p z with y|y
  .exact q j u y
  .exact y l
 .exact .inr ⟨r.ro _ _ f,g⟩
def gb.floor{ρ:Ren}{v w:World}(h:gb ρ v w):∀b c,ρ.r b c->c<w.heap.size:=λb c f=>by obtain⟨_,_,_,d,_⟩:=h.obj b c f;exact bp d
def lC.Ok.rely{c:lC}(h:c.Ok Z G k w)(l:dh.bC k=G.bC k)(r:iE Z G dh (Z.wk k) bh w aG):c.Ok Z dh k aG:=by obtain⟨i,d,f,g,j⟩:=h;unfold lC.Ok;rw[l];exact⟨i,d.rely f r λn own b o e=>.inr (g n own b o e),f.rely d r,λn own b o e=>by rw[r.bO b (fB d e)];exact g n own b o e,j⟩
def LCtx.qb.rely{c:LCtx}{fr:Frame}(h:c.qb X Z G k fr w)(d:dh.bC k=G.bC k)(r:eh Z G dh (Z.wk k) w aG):c.qb X Z dh k fr aG:=
 ⟨h.going,h.self,⟨h.pair.fit,h.pair.room,h.pair.fr,h.pair.cs,h.pair.heap.rely h.jV r h.pair.heap.floor⟩,h.jV.rely h.pair.heap r,h.o.rely d r⟩
def LCtx.qd.rely{c:LCtx}{kd:CallKind}(h:c.qd X Z G k kd w)(f:dh.bC k=G.bC k)(r:iE Z G dh (Z.wk k) bh w aG)(g:∀b d,c.ρ.r b d->d<bh):c.qd X Z dh k kd aG:=
 ⟨h.going,h.self,h.xl,h.fr,h.some,h.cs,h.fit,h.room,h.heap.rely h.jV r g,h.jV.rely h.heap r,h.o.rely f r⟩
def RCtx.Ok.rely{c:RCtx}(h:c.Ok X Z G k w)(g:dh.bC k=G.bC k)(r:iE Z G dh (Z.wk k) bh w aG)(j:∀b d,c.ρ.r b d->d<bh)(f:∀(i:Nat) own b o,c.M[i]?=some (own,b,o)->b<bh):c.Ok X Z dh k aG:=
 ⟨h.l.rely g r j,h.on,h.mem.rely h.own r λn own b o e=>.inl (f n own b o e),h.own.rely h.mem r,h.tA,h.run,h.b4,h.aj,Po h.dA r.size⟩
def gL.Ok.rely{c:gL}{to:Nat}(h:c.Ok X Z G k to w)(g:dh.bC k=G.bC k)(r:iE Z G dh (Z.wk k) bh w aG)(j:∀b d,c.ρ.r b d->d<bh)(f:∀(i:Nat) own b o,c.M[i]?=some (own,b,o)->b<bh):c.Ok X Z dh k to aG:=⟨h.r.rely g r j f,h.on,h.run⟩
def jh.rely{i:Nat}{v:Nat×Nat}(h:jh Z G i w v)(r:eh Z G dh i w aG):jh Z dh i aG v:=by obtain⟨⟨l,f,j⟩,c,g⟩:=h;have d:=bp f;exact⟨⟨l,(r.keep _ d c.1 c.2.1 c.2.2 (.inl g) (.inl d)).trans f,j⟩,c,(r.bO _ d).trans g⟩
def eM.rely{g g':Goroutine}{s:bZ}{bl:fI X.Q}(h:eM X Z G k g w s bl)(i:dh.bC k=G.bC k)(C:dh.cl k=G.cl k)(r:eh Z G dh (Z.wk k) w aG)(j:g'.frame=g.frame)(l:g'.callers=g.callers)(p:g'.dying=g.dying)(D:g.status=.finished->g'.status=.finished):eM X Z dh k g' aG s bl:=by
 cases h with
 |un a2 bl=>exact .un a2 bl
 |out fp ok h K Q B=>exact .out fp ok (by rw[i];exact h.rely r j l p) K (λn own b o e=>by rw[i]at e;rw[r.bO b (fB h.mem e)];exact Q n own b o e) λv e=>(B v (by rw[C]at e;exact e)).rely r
 |gone fp I B=>exact .gone fp (D I) (by rw[C];exact B.rely r)
 |lift c J F H h d=>exact .lift c (j.trans J) (l.trans F) (p.trans H) (h.rely i r) d
 |eK c kd bz bA cL M rem bh ok q z u E h d f=>exact .eK c kd bz bA cL M rem bh ok q z (Po u r.size) E (h.rely i r h.heap.floor) d (f.rely r j l p)
 |db c ok P h d f=>exact .db c ok P (h.rely i r h.l.heap.floor λn own b o e=>fB h.mem e) d (f.rely r j l p)
 |lock c h d f=>exact .lock c (h.rely i r h.r.l.heap.floor λn own b o e=>fB h.r.mem e) d (f.rely r j l p)
 |c7 c bh ok q z L u h d f=>exact .c7 c bh ok q z L (Po u r.size) (h.rely i r h.r.l.heap.floor λn own b o e=>fB h.r.mem e) d (f.rely r j l p)
 |g9 c h d f=>exact .g9 c (h.rely i r h.r.l.heap.floor λn own b o e=>fB h.r.mem e) d (f.rely r j l p)
end
section
variable{Z:Stat}{G au:bI}{t:Trace}{B ej:Nat}
def gp(Z:Stat)(G:bI)(g:Nat):Prop:=g=0\/(∃k,g=Z.wk k/\(G.s k).c≠.un)\/(g=Z.N+2/\G.k≠.un)
structure ep(Z:Stat)(G:bI)(t:Trace)(B:Nat):Prop where
 c6:eF (pl Z G) t (ef Z G) B
 st:∀g,gp Z G g->Started (pl Z G) t g
 sI:∀k,(G.s k).dO=true->hr (pl Z G) t (Z.wk k)
 d0:Deaf t 0=iJ G.l
 o8:∀k,Deaf t (Z.wk k)=(G.s k).deaf
 m1:Deaf t (Z.N+2)=G.k.deaf
 above:∀j,Z.N+2<j->Deaf t j=0
 told:∀k,(G.s k).cI=true->Told (pl Z G) (· = Z.W) t (Z.wk k)
 shut:G.k.shut=true->Shut (pl Z G) Z.ch t (Z.N+2)
 said:G.k.said=false->∀i a,Z.cH<=i->touchAt t i=some a->a.kind≠.said
 l7:∀(i:Nat) op,Z.cH<=i->t[i]?=some op->op.act.touch?≠none->gp Z G op.g
 over:∀i g,i<Z.cH->t.g? i=some g->g≠0->t.counts i->∃j,t.g? j=some 0/\HappensBefore t i j
structure Apart(Z:Stat)(G:bI):Prop where
 bM:Z.z.T≠Z.W
 pO:Z.z.T≠Z.ch
 wc:Z.W≠Z.ch
 pos:0<Z.N
 u5:∀b,Z.aE b->b≠Z.z.T/\b≠Z.W/\b≠Z.ch/\G.bO b=Z.N+3/\∀g,¬G.ro g b
 Cm:∀g,¬G.ro g Z.W/\¬G.ro g Z.ch
def Apart.kB(A:Apart Z G):oL (pl Z G) where
 bB:=by
  rintro l i rfl h;obtain⟨c,f,q,r,j⟩:=A.u5 _ h;refine⟨?_,?_,λg p=>j g p.1⟩
  .rintro(⟨o,e,_⟩|⟨a,e,d⟩|e)
   .injection e with e;rw[e]at c;exact c rfl
   .injection e with e;rw[e]at f;exact f d
   .cases e
  .rintro⟨o,e,_⟩
   injection e with e;rw[e]at c;exact c rfl
 Cy:=by rintro l i rfl h;exact(A.u5 _ h).2.2.2.1
 mF:=by
  rintro l ⟨o,rfl,u⟩ (⟨w,e,c,f⟩|⟨a,e,d⟩|e)
  .injection e with e;injection e with _ e;omega
  .injection e with e;rw[<-e]at d;exact A.bM d
  .cases e
 vp:=by rintro l ⟨o,rfl,_⟩;rfl
 yJ:=by rintro l (⟨o,rfl,_⟩|⟨a,rfl,_⟩|rfl)<;>rfl
structure Grow(G au:bI)(B:Nat):Prop where
 bO:∀b,b<B->au.bO b=G.bO b
 ro:au.ro=G.ro
def El{op:MemOp}(h:op.act.low B){a:Touch}(c:op.act.touch?=some a)(hm:a.loc.isMemory=true):blk a.loc<B:=by
 obtain⟨g,fn,pos,act⟩:=op;dsimp only at h c;cases act with
 |access e=>
  cases c;have d:e.loc.low B:=h;generalize e.loc=l at *;cases l with
  |cell a=>exact d
  |obj r=>exact d
  |_=>cases hm
 |mark m=>
  cases m with
  |read a=>cases c;exact h
  |write a=>cases c;exact h
  |_=>cases c
 |_=>cases c
def eF.mx{s:oY}(h:eF (pl Z G) t s B)(r:Grow G au B):eF (pl Z au) t s B:=by
 refine⟨h.clean,h.size,h.gH,λi op a j d c hm f g=>?_,?_,h.seen⟩
 .have:=h.own i op a j d c hm f g
  have l:=El (h.seen op (Array.mem_of_getElem? d)) c hm;refine this.imp (λx=>x.trans (r.bO _ l).symm) λx=>⟨x.1,?_⟩
  obtain⟨_,o,p⟩:=x;refine⟨?_,p⟩;rw[r.ro];exact o
 .have:=h.cq
  cases s<;>exact this
def Started.mx{g:Nat}(h:Started (pl Z G) t g)(r:Grow G au B):Started (pl Z au) t g:=
 ⟨h.old,λl c=>h.ro l ⟨by have:=c.1;rw[r.ro]at this;exact this,c.2⟩⟩
inductive dR where
 |main|de (k:Bool)|dK
def dR.num(Z:Stat):dR->Nat
 |.main=>0
 |.de k=>Z.wk k
 |.dK=>Z.N+2
def dR.deaf(G:bI):dR->Nat
 |.main=>iJ G.l
 |.de k=>(G.s k).deaf
 |.dK=>G.k.deaf
def dR.g0(G:bI):dR->Prop
 |.main=>True
 |.de k=>(G.s k).c≠.un
 |.dK=>G.k≠.un
def y4{Z:Stat}{a b:Bool}(h:Z.wk a=Z.wk b):a=b:=by cases a<;>cases b<;>simp[Stat.wk]at h<;>rfl
def dR.uJ(c:0<Z.N){a b:dR}(h:a.num Z=b.num Z):a=b:=by
 cases a<;>cases b<;>simp only[dR.num]at h
 .rfl
 .rename_i k;cases k<;>simp[Stat.wk]at h<;>omega
 .omega
 .rename_i k;cases k<;>simp[Stat.wk]at h<;>omega
 .rw[y4 h]
 .rename_i k;cases k<;>simp[Stat.wk]at h
 .omega
 .rename_i k;cases k<;>simp[Stat.wk]at h
 .rfl
def dR.xM(Z:Stat)(a:dR):a.num Z<=Z.N+2:=by
 cases a with
 |main=>exact Nat.zero_le _
 |de k=>cases k<;>simp[dR.num,Stat.wk]
 |dK=>exact Pk
def ep.rX(h:ep Z G t B)(a:dR):Deaf t (a.num Z)=a.deaf G:=by
 cases a with
 |main=>exact h.d0
 |de k=>exact h.o8 k
 |dK=>exact h.m1
def dR.xA{a:dR}(h:a.g0 G):gp Z G (a.num Z):=by
 cases a with
 |main=>exact .inl rfl
 |de k=>exact .inr (.inl ⟨k,rfl,h⟩)
 |dK=>exact .inr (.inr ⟨rfl,h⟩)
def mo:List Event->Bool
 | []=>true
 |e::l=>if e.loc=.mark .enable then l.all (λe=>((MemAct.ofEvent e).touch?).isNone)else mo l
def Jy{g:Nat}{fn:FuncId}{pos:String}{es:Array Event}{j:Nat}{op:MemOp}(h:(MemOp.ofEvents g fn pos es)[j]?=some op):∃e,es[j]?=some e/\op={g,fn,pos,act:=.ofEvent e}:=by rw[ofEvents_eq,Array.getElem?_map]at h;obtain⟨e,c,d⟩:=Option.map_eq_some_iff.1 h;exact⟨e,c,d.symm⟩
def Jm{g:Nat}{fn:FuncId}{pos:String}{l:List Event}(d:mo l=true)(hd:0<Deaf t g){j:Nat}{e:Event}(he:l[j]?=some e)(f:(MemAct.ofEvent e).touch?≠none):¬(t++MemOp.ofEvents g fn pos l.toArray).heard (t.size+j):=by
 have key:∀(l:List Event) (t:Trace),mo l=true->0<Deaf t g->∀(j:Nat) (e:Event),l[j]?=some e->(MemAct.ofEvent e).touch?≠none->0<(t++MemOp.ofEvents g fn pos l.toArray).deaf g (t.size+j):=by
  intro l;induction l with
  |nil=>intro t _ _ j e he;simp at he
  |cons a l r=>
   intro t d hd j e he f;cases j with
   |zero=>rw[Nat.add_zero,deaf_old Pk];exact hd
   |succ j=>
    rw[List.getElem?_cons_succ]at he;unfold mo at d;split at d
    .rename_i p
     have:=List.all_eq_true.1 d e (Py he);exact absurd (by simpa using this) f
    .rename_i p
     have i:t++MemOp.ofEvents g fn pos (a::l).toArray=(t++#[{g,fn,pos,act:=.ofEvent a}])++MemOp.ofEvents g fn pos l.toArray:=by rw[ofEvents_eq,ofEvents_eq];apply Array.ext';simp
     have o:0<Deaf (t++#[{g,fn,pos,act:=.ofEvent a}]) g:=by
      rw[Deaf_push];unfold deafStep;split
      .split<;>omega
      .rename_i B
       exfalso;obtain⟨loc,wr,u⟩:=a;cases loc with
       |mark m=>cases m<;>simp_all [MemAct.ofEvent]
       |obj c=>cases wr<;>cases u<;>simp_all [MemAct.ofEvent]
       |_=>simp_all [MemAct.ofEvent]
      .exact hd
     have:=r _ d o j e he f;rw[i];have w:(t++#[({g,fn,pos,act:=.ofEvent a}:MemOp)]).size+j=t.size+(j+1):=by simp;omega
     rw[w]at this;exact this
 rintro⟨g',h,z⟩;have q:(t++MemOp.ofEvents g fn pos l.toArray)[t.size+j]?=some {g,fn,pos,act:=.ofEvent e}:=by rw[Array.getElem?_append_right (by omega),ofEvents_eq];simp[he]
 have:g'=g:=by simp[Trace.g?,q]at h;exact h.symm
 subst this;have:=key l t d hd j e he f;omega
structure tg(Z:Stat)(G:bI)(t:Trace)(i B:Nat)(e:Event):Prop where
 low:(MemAct.ofEvent e).low B
 ok:∀b,(MemAct.ofEvent e).touch?=some b->b.loc.isMemory=true->tk (pl Z G) i b\/((pl Z G).g4 b.loc/\(ef Z G=.written i\/(ef Z G=.done/\b.write=false/\hr (pl Z G) t i)))
 flag:e.loc=.cell ⟨Z.z.T,4,none⟩->e.write=false
def _root_.Go.aN.hr.JD{L:oU}{g:Nat}(h:hr L t g)(y:MemOp)(i:∀a,y.act.touch?=some a->¬L.g4 a.loc):hr L (t++#[y]) g:=
 h.app λop c a d f _=>by simp at c;subst c;exact absurd f (i a d)
def ep.core(A:Apart Z au)(h:ep Z G t B)(r:Grow G au B)(b3:dR)(af:b3.g0 G){fn:FuncId}{pos:String}{l:List Event}(ay:Z.cH<=t.size)(az:eF (pl Z au) (t++MemOp.ofEvents (b3.num Z) fn pos l.toArray) (ef Z au) ej)(am:∀e∈l,∀b,(MemAct.ofEvent e).touch?=some b->b.loc.isMemory=true->tk (pl Z au) (b3.num Z) b\/(pl Z au).g4 b.loc)(F:∀a:dR,a.g0 au↔a.g0 G)(Y:b3.deaf au=deafBehind (b3.deaf G) l.toArray)(aa:∀a:dR,a≠b3->a.deaf au=a.deaf G)(aq:∀k,(au.s k).dO=true->(G.s k).dO=true\/hr (pl Z au) (t++MemOp.ofEvents (b3.num Z) fn pos l.toArray) (Z.wk k))(V:∀e∈l,∀b,(MemAct.ofEvent e).touch?=some b->(pl Z au).g4 b.loc->b.write=true->∀k,(au.s k).dO=false)(av:∀k,(au.s k).cI=true->(G.s k).cI=true/\(b3=.de k->(mo l=true/\(0<b3.deaf G\/∀e∈l,(MemAct.ofEvent e).touch?=none))/\∀e∈l,∀b,(MemAct.ofEvent e).touch?=some b->(∃M,b.loc=.cell M/\M.block=Z.W)/\b.kind=.atomic))(aw:au.k.shut=true->G.k.shut=true/\(b3=.dK->∀e∈l,(MemAct.ofEvent e).touch?=none))(ap:∀e∈l,∀b,(MemAct.ofEvent e).touch?=some b->b.kind=.said->G.k.said=false/\au.k.said=true)(ar:au.k.said=false->G.k.said=false):
 ep Z au (t++MemOp.ofEvents (b3.num Z) fn pos l.toArray) ej:=by
 have hu:∀op∈MemOp.ofEvents (b3.num Z) fn pos l.toArray,op.g=b3.num Z:=λop o=>by obtain⟨e,_,rfl⟩:=Go.Conc.mem_ofEvents o;rfl
 have ax:∀g,gp Z G g->Started (pl Z au) t g:=λg f=>(h.st g f).mx r
 have hm:gp Z G (b3.num Z):=dR.xA af;have L:∀g,gp Z au g↔gp Z G g:=by
  intro g;constructor
  .rintro(rfl|⟨k,rfl,c⟩|⟨rfl,c⟩)
   .exact .inl rfl
   .exact .inr (.inl ⟨k,rfl,(F (.de k)).1 c⟩)
   .exact .inr (.inr ⟨rfl,(F .dK).1 c⟩)
  .rintro(rfl|⟨k,rfl,c⟩|⟨rfl,c⟩)
   .exact .inl rfl
   .exact .inr (.inl ⟨k,rfl,(F (.de k)).2 c⟩)
   .exact .inr (.inr ⟨rfl,(F .dK).2 c⟩)
 have other:∀g,g≠b3.num Z->Deaf (t++MemOp.ofEvents (b3.num Z) fn pos l.toArray) g=Deaf t g:=λg f=>Deaf_other t (Ne.symm f) _ hu
 have H:∀a:dR,Deaf (t++MemOp.ofEvents (b3.num Z) fn pos l.toArray) (a.num Z)=a.deaf au:=by
  intro a;by_cases d:a=b3
  .subst d;rw[Deaf_own,h.rX,Y]
  .rw[other _ (λe=>d (dR.uJ A.pos e)),h.rX,aa a d]
 have nk:∀op∈MemOp.ofEvents (b3.num Z) fn pos l.toArray,∀b,op.act.touch?=some b->b.loc.isMemory=true->tk (pl Z au) (b3.num Z) b\/(pl Z au).g4 b.loc:=by intro op o b p W;obtain⟨e,he,rfl⟩:=Go.Conc.mem_ofEvents o;exact am e (by simpa using he) b p W
 refine⟨az,λg f=>?_,λk c=>?_,H .main,λk=>H (.de k),H .dK,λj u=>?_,λk c=>?_,λc=>?_,λc i a q d=>?_,λi op q K E=>?_,λi g q f ai X=>?_⟩
 .refine(ax g ((L g).1 f)).app (λop o a d C T aj ak=>?_) ay
  rcases nk op o a d T.2.1 with(⟨w,_⟩|⟨_,_,_,hx⟩|⟨_,_,_,hx⟩)|hx
  .exact absurd w aj
  .by_cases Q:g=b3.num Z
   .rw[hu op o,Q]
   .exact absurd T (hx C g Q)
  .rw[hx]at C;cases C
  .exact absurd hx ak
 .rcases aq k c with hk0|hk0
  .have w:hr (pl Z au) t (Z.wk k):=h.sI k hk0
   refine w.app λop o a d p C=>?_
   obtain⟨e,he,rfl⟩:=Go.Conc.mem_ofEvents o;have:=V e (by simpa using he) a d p C k;rw[c]at this;cases this
  .exact hk0
 .have hle:=b3.xM Z
  rw[other j (by omega),h.above j u]
 .obtain⟨I,J⟩:=av k c
  have E:Told (pl Z au) (· = Z.W) t (Z.wk k):=h.told k I;by_cases R:b3=.de k
  .obtain⟨⟨ae,hdf⟩,P⟩:=J R
   refine E.app λj op a K f d hm=>?_
   obtain⟨e,he,rfl⟩:=Jy K;have D:l[j]?=some e:=by simpa using he
   refine⟨(P e (Py D) a d).1,(P e (Py D) a d).2,?_⟩;rcases hdf with hdf|hdf
   .exact Jm ae (by rw[h.rX];exact hdf) D (by rw[d];simp)
   .rw[hdf e (Py D)]at d;cases d
  .refine E.other λop o f=>?_
   rw[hu op o]at f;exact absurd (dR.uJ A.pos (a:=b3) (b:=.de k) f) R
 .obtain⟨I,J⟩:=aw c
  have w:Shut (pl Z au) Z.ch t (Z.N+2):=h.shut I;refine w.app λop o f=>?_
  rw[hu op o]at f;obtain⟨e,he,rfl⟩:=Go.Conc.mem_ofEvents o;exact J (dR.uJ A.pos (a:=b3) (b:=.dK) f) e (by simpa using he)
 .obtain⟨x,hx,U⟩:=touch_of d
  rcases getElem?_append_cases hx with⟨_,aA⟩|⟨_,aB⟩
  .exact h.said (ar c) i a q (by rw[touchAt_of aA];exact U)
  .obtain⟨e,he,rfl⟩:=Go.Conc.mem_ofEvents aB
   intro ah;have:=(ap e (by simpa using he) a U ah).2;rw[c]at this;cases this
 .rcases getElem?_append_cases K with⟨_,al⟩|⟨_,ao⟩
  .exact(L _).2 (h.l7 i op q al E)
  .rw[hu op ao];exact(L _).2 hm
 .have S:i<t.size:=by omega
  have ad:t.g? i=some g:=by simpa [Trace.g?,getElem?_append_old S]using f
  obtain⟨j,u,p⟩:=h.over i g q ad ai ((counts_old S).1 X);have ag:j<t.size:=by unfold Trace.g? at u;obtain⟨z,aC,_⟩:=Option.map_eq_some_iff.1 u;exact lt_size_of_getElem? aC
  exact⟨j,by simpa [Trace.g?,getElem?_append_old ag]using u,hb_app _ p⟩
def ep.app(A:Apart Z au)(h:ep Z G t B)(r:Grow G au B)(E:B<=ej)(b3:dR)(u:b3.g0 G){fn:FuncId}{pos:String}{l:List Event}(D:eF (pl Z au) t (ef Z au) B)(j:∀e∈l,tg Z au t (b3.num Z) ej e)(X:∀a:dR,a.g0 au↔a.g0 G)(I:b3.deaf au=deafBehind (b3.deaf G) l.toArray)(J:∀a:dR,a≠b3->a.deaf au=a.deaf G)(R:∀k,(au.s k).dO=true->(G.s k).dO=true\/hr (pl Z au) (t++MemOp.ofEvents (b3.num Z) fn pos l.toArray) (Z.wk k))(H:∀e∈l,∀b,(MemAct.ofEvent e).touch?=some b->(pl Z au).g4 b.loc->b.write=true->∀k,(au.s k).dO=false)(T:∀k,(au.s k).cI=true->(G.s k).cI=true/\(b3=.de k->(mo l=true/\(0<b3.deaf G\/∀e∈l,(MemAct.ofEvent e).touch?=none))/\∀e∈l,∀b,(MemAct.ofEvent e).touch?=some b->(∃o,b.loc=.cell o/\o.block=Z.W)/\b.kind=.atomic))(V:au.k.shut=true->G.k.shut=true/\(b3=.dK->∀e∈l,(MemAct.ofEvent e).touch?=none))(z:∀e∈l,∀b,(MemAct.ofEvent e).touch?=some b->b.kind=.said->G.k.said=false/\au.k.said=true)(S:au.k.said=false->G.k.said=false):
 ep Z au (t++MemOp.ofEvents (b3.num Z) fn pos l.toArray) ej:=by
 have hu:∀op∈MemOp.ofEvents (b3.num Z) fn pos l.toArray,op.g=b3.num Z:=λop d=>by obtain⟨e,_,rfl⟩:=Go.Conc.mem_ofEvents d;rfl
 have C:∀g,gp Z G g->Started (pl Z au) t g:=λg K=>(h.st g K).mx r
 have hm:gp Z G (b3.num Z):=dR.xA u;have F:=A.kB;have W:eF (pl Z au) (t++MemOp.ofEvents (b3.num Z) fn pos l.toArray) (ef Z au) ej:=by
  refine(D.mono E).app F (by have:=b3.xM Z;show _≠Z.N+3;omega) (C _ hm) hu ?_ ?_ ?_ ?_
  .intro op d b f p
   obtain⟨e,he,rfl⟩:=Go.Conc.mem_ofEvents d;exact(j e (by simpa using he)).ok b f p
  .intro op d b f M Q i a q P w
   obtain⟨e,he,rfl⟩:=Go.Conc.mem_ofEvents d;have U:=(z e (by simpa using he) b f M).1;by_cases L:i<Z.cH
   .rcases(C _ hm).old i a L q (by rw[P];exact F.yJ _ Q)with k|⟨⟨o,aa,ad⟩,k⟩
    .exact k
    .rw[w]at k;cases k
   .exact absurd w (h.said U i a (by omega) q)
  .intro op d sync ae
   obtain⟨e,he,rfl⟩:=Go.Conc.mem_ofEvents d;have:e.loc=.cell ⟨Z.z.T,4,none⟩/\e.write=true:=by
    obtain⟨loc,wr,Y⟩:=e;cases loc with
    |obj c=>cases wr<;>cases Y<;>simp_all [MemAct.ofEvent]
    |mark m=>simp_all [MemAct.ofEvent]
    |_=>simp_all [MemAct.ofEvent,pl]
   have k:=(j e (by simpa using he)).flag this.1;rw[this.2]at k;cases k
  .intro op d
   obtain⟨e,he,rfl⟩:=Go.Conc.mem_ofEvents d;exact(j e (by simpa using he)).low
 exact ep.core A h r b3 u D.size W (λe he b f p=>((j e he).ok b f p).imp id And.left) X I J R H T V z S
def ep.raise(A:Apart Z au)(h:ep Z G t B)(r:Grow G au B)(b3:dR)(q:b3.g0 G){fn:FuncId}{pos:String}(C:ef Z G=.written (b3.num Z))(D:ef Z au=.done)(E:Z.z.T<B)(M:∀a:dR,a.g0 au↔a.g0 G)(o:b3.deaf G=0)(p:∀a:dR,a.deaf au=a.deaf G)(I:∀k,(au.s k).dO=true->b3=.de k)(u:∀k,(au.s k).cI=true->(G.s k).cI=true/\b3≠.de k)(w:au.k.shut=true->G.k.shut=true/\b3≠.dK)(J:au.k.said=false->G.k.said=false):
 ep Z au (t++MemOp.ofEvents (b3.num Z) fn pos #[⟨.cell ⟨Z.z.T,4,none⟩,true,true⟩]) B:=by
 have hm:gp Z G (b3.num Z):=dR.xA q;have f:(pl Z au).h7 (.cell (pl Z au).jG):=.inl ⟨4,rfl,by omega,by omega⟩;have e:MemOp.ofEvents (b3.num Z) fn pos #[⟨.cell ⟨Z.z.T,4,none⟩,true,true⟩]=#[{g:=b3.num Z,fn,pos,act:=.access ⟨.cell ⟨Z.z.T,4,none⟩,true,true⟩}]:=by rw[ofEvents_eq];simp[MemAct.ofEvent]
 have i:=h.c6.mx r;rw[C]at i;have z:Started (pl Z au) t (b3.num Z):=(h.st _ hm).mx r;have H:Deaf t (b3.num Z)=0:=by rw[h.rX];exact o
 have L:eF (pl Z au) (t++MemOp.ofEvents (b3.num Z) fn pos #[⟨.cell ⟨Z.z.T,4,none⟩,true,true⟩]) (ef Z au) B:=by rw[e,D];exact i.raise A.kB z ⟨rfl,rfl⟩ H f E
 refine ep.core (l:=[⟨.cell ⟨Z.z.T,4,none⟩,true,true⟩]) A h r b3 q i.size L (λe he b d P=>?_) M ?_ (λa _=>p a) (λk c=>.inr ?_) (λe he b d K Q k=>?_) (λk c=>⟨(u k c).1,λj=>absurd j (u k c).2⟩) (λc=>⟨(w c).1,λj=>absurd j (w c).2⟩) (λe he b d c=>?_) J
 .simp at he;subst he
  cases d;exact .inl (.inl ⟨f,by simp⟩)
 .rw[p,o];rfl
 .obtain rfl:=I k c
  rw[e];exact(i.writer A.kB z).JD _ λa F d=>by cases F;exact(A.kB.mF _ d f).elim
 .simp at he;subst he
  cases d;exact(A.kB.mF _ K f).elim
 .simp at he;subst he
  cases d;cases c
end
section
variable{X:dJ}{Z:Stat}{G au:bI}{u ay w:World}{t a':Trace}{B ej:Nat}
def fO(Z:Stat)(G:bI)(i b:Nat):Prop:=(b≠Z.z.T/\b≠Z.W/\b≠Z.ch)/\G.bO b=i/\∀h,h≠i->¬G.ro h b
structure tj(Z:Stat)(G:bI):Prop where
 ro:∀k b,(b=Z.z.T\/b=Z.z.F\/b=Z.z.R\/b=Z.z.fl\/b=Z.z.fo\/b=Z.z.Fr)->G.ro (Z.wk k) b
 yb:∀k b,(b=Z.bX\/b=Z.a7)->G.ro (Z.wk k) b
 Cn:G.ro (Z.N+2) Z.bX
 fq:∀b,(b=Z.z.F\/b=Z.z.R\/b=Z.z.fl\/b=Z.z.fo\/b=Z.z.Fr)->(b≠Z.z.T/\b≠Z.W/\b≠Z.ch)/\b<Z.aI.heap.size
 hF:Z.aI.heap[Z.z.F]?=some (.cells #[ad 2,ad 1] 3 (0,0))
 cT:Z.aI.heap[Z.z.R]?=some (.cells #[ad 0,sl Z.z.fl 2,ad 2,sl Z.z.fo 2] 55 (0,0))
 kE:Z.aI.heap[Z.z.fl]?=some (.cells #[ad 1,ad 2] 3 (0,0))
 kk:Z.aI.heap[Z.z.fo]?=some (.cells #[ad 3,ad 1] 3 (0,0))
 kD:Z.aI.heap[Z.z.Fr]?=some (.cells #[ad 3] 3 (0,0))
 uh:aF.globals.size<=Z.z.T/\aF.globals.size<=Z.z.F
def tj.grow(h:tj Z G)(d:∀h b,G.ro h b->au.ro h b):tj Z au:=⟨λk b c=>d _ _ (h.ro k b c),λk b c=>d _ _ (h.yb k b c),d _ _ h.Cn,h.fq,h.hF,h.cT,h.kE,h.kk,h.kD,h.uh⟩
structure Base(Z:Stat)(G:bI)(w:World)(t:Trace):Prop where
 ww:dv Z G w
 bT:fT G
 ap:Apart Z G
 c6:ep Z G t w.heap.size
 mz:∀h b,G.ro h b->b<w.heap.size
 q3:∀b,Z.aE b->b<w.heap.size
 hold:∀b,b<Z.aI.heap.size->b≠Z.z.T->G.bO b=Z.N+3\/(G.bO b=0/\∃h,h≠0/\G.ro h b)
 old:Z.aI.heap.size<=w.heap.size
 ni:Z.aI.heap.size<=Z.W/\Z.aI.heap.size<=Z.ch
 hi:tj Z G
 pF:∀h b,h≠0->G.ro h b->G.bO b=0
 cfg:∀k,(G.bC k).W=Z.W/\(G.bC k).T=Z.z.T/\(G.bC k).ch=Z.ch/\(G.bC k).bX=Z.bX/\(G.bC k).i=(if k then 1 else 0)
def Base.BF(h:Base Z G w t)(b:Nat)(l:b<Z.aI.heap.size)(g:b≠Z.z.T)(i:Nat)(q:i<=Z.N+2):¬fO Z G i b:=by
 rintro⟨_,d,f⟩;rcases h.hold b l g with c|⟨c,j,o,p⟩
 .omega
 .obtain rfl:i=0:=d.symm.trans c
  exact f j o p
def dv.at(h:dv Z G w)(k:Nat):dv Z G (w.at k):=⟨h.T,h.W,h.ch,h.old,h.calm.trans (Calm.at w k)⟩
def Base.at(h:Base Z G w t)(k:Nat):Base Z G (w.at k) t:=⟨h.ww.at k,h.bT,h.ap,h.c6,h.mz,h.q3,h.hold,h.old,h.ni,h.hi,h.pF,h.cfg⟩
def eh.at(Z:Stat)(G:bI)(i:Nat)(h:dv Z G w)(k:Nat):eh Z G G i w (w.at k):=
 ⟨Pk,λ_ _=>rfl,λ_ _ h=>h,λ_ _ _ h=>.inl h,λ_ _ _ _ _ _ _=>rfl,⟨_,_,_,_,h.T⟩⟩
structure Alike(G au:bI):Prop where
 role:∀k,(au.s k).role=(G.s k).role
 cy:∀k,(au.s k).cy=(G.s k).cy
 cI:∀k,(au.s k).cI=(G.s k).cI
 deaf:∀k,(au.s k).deaf=(G.s k).deaf
 dO:∀k,(au.s k).dO=true->(G.s k).dO=true
 un:∀k,(au.s k).c=.un↔(G.s k).c=.un
 H7:au.k.ph=G.k.ph
 H4:au.k.deaf=G.k.deaf
 H3:G.k.bound<=au.k.bound
 xn:au.k.shut=G.k.shut
 H8:au.k.said=G.k.said
 A5:au.k=.un↔G.k=.un
 iW:24<=au.l↔24<=G.l
 xp:au.l<26↔G.l<26
 xq:au.l<27↔G.l<27
 xo:17<=au.l
 A':da au.l=da G.l
 Ih:iJ au.l=iJ G.l
 mu:au.mu=G.mu
 ms:au.ms=G.ms
 aU:au.aU=G.aU
 a7:au.a7=G.a7
 v:au.v=G.v
 m:au.m=G.m
 ro:au.ro=G.ro
 bC:au.bC=G.bC
def Alike.ei(h:Alike G au):ef Z au=ef Z G:=by unfold ef;rw[h.aU,h.role,h.role]
def Alike.agree(h:Alike G au)(a:fT G):fT au where
 once:=by rw[h.role,h.role,h.mu,h.ms,h.aU,h.a7];exact a.once
 wg:=by have e:decide (24<=au.l)=decide (24<=G.l):=decide_eq_decide.2 h.iW;rw[e,h.cy,h.cy,h.H7,h.v,h.m];exact a.wg
 bound:=by rw[h.cy,h.cy];exact Po a.bound h.H3
 cnt:=by rw[h.A',h.cI,h.cI];exact a.cnt
 kN:=by rw[h.xp,h.un];exact a.kN
 lr:=by rw[h.xq,h.A5];exact a.lr
 nQ:=λe=>a.nQ ((h.un false).1 e)
 b4:=h.xo
 dO:=λk e=>by rw[h.aU];exact a.dO k (h.dO k e)
def Alike.born(h:Alike G au)(a:dR):a.g0 au↔a.g0 G:=by
 cases a with
 |main=>exact Iff.rfl
 |de k=>exact not_congr (h.un k)
 |dK=>exact not_congr h.A5
def Alike.AW(h:Alike G au)(a:dR):a.deaf au=a.deaf G:=by
 cases a with
 |main=>exact h.Ih
 |de k=>exact h.deaf k
 |dK=>exact h.H4
inductive j3(Z:Stat)(G:bI)(t:Trace)(i B:Nat):Event->Prop
 |mem {loc:Loc} {wr gH:Bool} (hm:loc.isMemory=true) (hb:blk loc<B) (af:gH=true->∃a,loc=.cell a) (I:blk loc≠Z.W/\blk loc≠Z.ch) (aZ:blk loc=Z.z.T->loc=.obj Z.z.T\/∃o,loc=.cell ⟨Z.z.T,o,none⟩/\o<4)
  (av:fO Z G i (blk loc)\/((G.ro i (blk loc)\/(G.bO (blk loc)=i/\blk loc≠Z.z.T))/\wr=false)):j3 Z G t i B ⟨loc,wr,gH⟩
 |mark {m:Mark} (h:m=.noRoom\/∃f,m=.extern f):j3 Z G t i B ⟨.mark m,false,true⟩
 |cq {o:Nat} (h:13<=o) (hb:Z.z.T<B) (hd:ef Z G=.done) (af:hr (pl Z G) t i):j3 Z G t i B ⟨.cell ⟨Z.z.T,o,none⟩,false,false⟩
def I1{loc:Loc}{wr c:Bool}(hm:loc.isMemory=true)(d:c=true->∃a,loc=.cell a):MemAct.ofEvent ⟨loc,wr,c⟩=.access ⟨loc,wr,c⟩:=by
 cases loc with
 |cell a=>rfl
 |obj r=>
  cases c with
  |true=>obtain⟨a,e⟩:=d rfl;cases e
  |false=>cases wr<;>rfl
 |_=>cases hm
def IL{loc:Loc}{B:Nat}(hm:loc.isMemory=true)(h:blk loc<B):loc.low B:=by
 cases loc with
 |cell a=>exact h
 |obj r=>exact h
 |_=>cases hm
def j3.wS{i:Nat}{e:Event}(A:Apart Z G)(h:j3 Z G t i B e):tg Z G t i B e/\(∀b,(MemAct.ofEvent e).touch?=some b->(pl Z G).g4 b.loc->b.write=false)/\(∀b,(MemAct.ofEvent e).touch?=some b->b.kind≠.said)/\(e.loc≠.mark .disable/\e.loc≠.mark .enable):=by
 cases h with
 |@mem loc wr I hm c r u q g=>
  have j:=I1 (wr:=wr) hm r;have l:¬(pl Z G).h7 loc:=by
   rintro(⟨o,rfl,C,_⟩|⟨a,rfl,D⟩|rfl)
   .rcases q rfl with e|⟨H,e,_⟩
    .cases e
    .injection e with e;injection e with _ e;omega
   .exact u.1 D
   .exact u.2 rfl
  have p:¬(pl Z G).g4 loc:=by
   rintro⟨o,rfl,C⟩;rcases q rfl with e|⟨H,e,_⟩
   .cases e
   .injection e with e;injection e with _ e;omega
  refine⟨⟨by rw[j];exact IL hm c,λb d _=>?_,λe=>?_⟩,λb d=>?_,λb d=>?_,?_⟩
  .rw[j]at d
   cases d;refine .inl ?_;rcases g with g|⟨g|⟨g,J⟩,w⟩
   .exact .inr (.inl ⟨l,p,g.2.1,λ_ h E F=>g.2.2 h E F.1⟩)
   .exact .inr (.inr ⟨l,p,⟨g,hm,q⟩,w⟩)
   .exact .inr (.inl ⟨l,p,g,λz=>by rw[w]at z;cases z⟩)
  .have e:loc=.cell ⟨Z.z.T,4,none⟩:=e
   subst e;exact absurd (.inl ⟨4,rfl,by omega,by omega⟩) l
  .rw[j]at d;cases d;exact λk=>absurd k p
  .rw[j]at d;cases d;cases I<;>simp
  .cases loc<;>first|(cases hm;done)|exact⟨by simp,by simp⟩
 |mark h=>
  rcases h with rfl|⟨f,rfl⟩
  .exact⟨⟨trivial,λb c=>((by cases c)),λe=>((by cases e))⟩,λb c=>((by cases c)),λb c=>((by cases c)),(by simp),(by simp)⟩
  .exact⟨⟨trivial,λb c=>((by cases c)),λe=>((by cases e))⟩,λb c=>((by cases c)),λb c=>((by cases c)),(by simp),(by simp)⟩
 |@cq o h c hd r=>
  refine⟨⟨c,λb d _=>?_,λ_=>rfl⟩,λb d _=>?_,λb d=>?_,by simp,by simp⟩
  .cases d;exact .inr ⟨⟨o,rfl,h⟩,.inr ⟨hd,rfl,r⟩⟩
  .cases d;rfl
  .cases d;simp
def OV(Z:Stat)(k:Bool):Z.wk k<=Z.N+2:=by cases k<;>simp[Stat.wk]
def Base.kI(h:Base Z G u t)(b3:dR)(w:b3.g0 G)(eS:Alike G au)(Q:∀b,au.bO b=if b<u.heap.size then G.bO b else b3.num Z)(calm:Calm u ay)(keep:∀b,b<u.heap.size->ay.heap[b]?≠u.heap[b]?->fO Z G (b3.num Z) b){l:List Event}(cB:∀e∈l,j3 Z au t (b3.num Z) ay.heap.size e)(I:∀k,b3=.de k->(G.s k).cI=true->∀e∈l,(MemAct.ofEvent e).touch?=none)(H:b3=.dK->G.k.shut=true->∀e∈l,(MemAct.ofEvent e).touch?=none)(fn:FuncId)(pos:String):
 Base Z au ay (t++MemOp.ofEvents (b3.num Z) fn pos l.toArray)/\∀i,i≠b3.num Z->eh Z G au i u ay:=by
 have g:∀b,b<u.heap.size->¬fO Z G (b3.num Z) b->ay.heap[b]?=u.heap[b]?:=λb c hm=>Classical.byContradiction λj=>hm (keep b c j)
 have lt:=λ{b:Nat} {o:Obj} (e:u.heap[b]?=some o)=>(bp e:b<u.heap.size)
 have kZ:=g _ (lt h.ww.T) λhm=>hm.1.1 rfl
 have L:=g _ (lt h.ww.W) λhm=>hm.1.2.1 rfl
 have K:=g _ (lt h.ww.ch) λhm=>hm.1.2.2 rfl
 have f:∀b,b<u.heap.size->au.bO b=G.bO b:=λb c=>by rw[Q,if_pos c]
 have q:Apart Z au:=⟨h.ap.bM,h.ap.pO,h.ap.wc,h.ap.pos,λb c=>by obtain⟨z,B,C,M,P⟩:=h.ap.u5 b c;refine⟨z,B,C,(f b (h.q3 b c)).trans M,?_⟩;rw[eS.ro];exact P,by rw[eS.ro];exact h.ap.Cm⟩
 have hle:=b3.xM Z;have V:∀b i,b<u.heap.size->(fO Z au i b↔fO Z G i b):=λb i c=>by unfold fO;rw[f b c,eS.ro]
 refine⟨⟨⟨?_,?_,?_,λb c p=>?_,h.ww.calm.trans calm⟩,eS.agree h.bT,q,?_,λi b c=>?_,λb c=>Px (h.q3 b c) calm.size,λb c p=>?_,Po h.old calm.size,h.ni,(h.hi.grow λi b c=>by rw[eS.ro];exact c),(λi b w c=>by rw[eS.ro]at c;rw[f b (h.mz i b c)];exact h.pF i b w c),by rw[eS.bC];exact h.cfg⟩,λi F=>⟨calm.size,f,λi b c=>by rw[eS.ro];exact c,λi b _ c=>.inl (by rw[eS.ro]at c;exact c),λb c z B C av _=>?_,⟨_,_,_,_,kZ.trans h.ww.T⟩⟩⟩
 .rw[eS.mu,eS.ms,eS.aU,eS.a7];exact kZ.trans h.ww.T
 .rw[eS.v,eS.m];exact L.trans h.ww.W
 .rw[eS.xn,eS.A'];exact K.trans h.ww.ch
 .rw[g b (Px c h.old) (h.BF b c p _ hle)]
  exact h.ww.old b c p
 .have r:Grow G au u.heap.size:=⟨f,eS.ro⟩
  have T:eF (pl Z au) t (ef Z au) u.heap.size:=by rw[eS.ei];exact h.c6.c6.mx r
  have E:=λe he=>(cB e he).wS q
  refine ep.app q h.c6 r calm.size b3 w T (λe he=>(E e he).1) eS.born ?_ (λa _=>eS.AW a) (λk d=>.inl (eS.dO k d)) (λe he b c S J=>by rw[(E e he).2.1 b c S]at J;cases J) (λk d=>?_) (λd=>?_) (λe he b c R=>absurd R ((E e he).2.2.1 b c)) λd=>by rw[<-eS.H8];exact d
  .rw[eS.AW]
   exact(deafBehind_still (λe he=>(E e (by simpa using he)).2.2.2) _).symm
  .rw[eS.cI]at d
   refine⟨d,λj=>?_⟩;have:=I k j d;refine⟨⟨?_,.inr this⟩,λe he b c=>by rw[this e he]at c;cases c⟩;have D:=λe he=>(E e he).2.2.2.2
   clear this cB E I H;induction l with
   |nil=>rfl
   |cons a l U=>
    unfold mo;rw[if_neg (D a (by simp))];exact U λe he=>D e (by simp[he])
  .rw[eS.xn]at d
   exact⟨d,λj=>H j d⟩
 .rw[eS.ro]at c
  exact Px (h.mz i b c) calm.size
 .rw[f b (Px c h.old),eS.ro];exact h.hold b c p
 .refine g b c λhm=>?_
  rcases av with av|av
  .exact F (av.symm.trans hm.2.1)
  .exact hm.2.2 i F av
end
section
variable{Pos:Type}{A:cS Pos}{X:dJ}{Z:Stat}{G au:bI}{u ay w:World}{t a':Trace}{B ej i n j m:Nat}{p:Pos}{base:List Frame}{x:bs}{g:Goroutine}
def cn.shape(h:cn A Z G i p base x g w n j):∃st off,g=⟨x.1,x.2++base,st,none,off⟩:=by obtain⟨fr,cs,st,l,off⟩:=g;have c:=h.fr;have d:=h.cs;have f:=h.lL;dsimp only at c d f;subst c;subst d;subst f;exact⟨st,off,rfl⟩
def cn.uY(h:cn A Z G i p base x g w n j){y:bs}{q:Pos}{cM bn:Nat}(f:eA A cM q bn y)(c:bn<=400)(hm:fF (A.mem q) u)(d:Own Z au i (A.mem q)):cn A Z au i q base y (bQ y base) u cM bn:=
 ⟨f,c,rfl,rfl,rfl,hm,d⟩
def cn.quiet(T:dk A.P A.ext)(h:cn A Z G i p base x g w n j):(∃m,n=m+1/\At A m p x)\/
 ∃y bn,bn<j/\cn A Z G i p base y (bQ y base) w n bn/\∀main (u:World),stepG A.P main g u=.go (bQ y base) u:=by
 rcases h.on.step T with k|⟨y,bn,c,d,f⟩
 .exact .inl k
 .refine .inr ⟨y,bn,c,⟨d,by have:=h.le;omega,rfl,rfl,rfl,h.mem,h.own⟩,λmain u=>?_⟩
  obtain⟨st,off,rfl⟩:=h.shape;exact f main base st off u
def cn.bH(T:dk A.P A.ext)(F:∀p,A.dA p<=400)(h:cn A Z G i p base x g u n j)(C:At A m p x){ops:List gO}{to:Pos}(he:Edge.bH ops to∈A.cq p)(K:∀b,au.bO b=if b<u.heap.size then G.bO b else i)(z:au.ro=G.ro):
 ∃(y:bs) (ay:World) (l:List Event) (bn:Nat),cn A Z au i to base y (bQ y base) ay m bn/\(∀main,stepG A.P main g u=.go (bQ y base) ay l.toArray)/\Calm u ay/\(∀b,b<u.heap.size->ay.heap[b]?≠u.heap[b]?->fO Z G i b/\∃(k:Nat) (o:Obj),(A.mem p)[k]?=some (true,b,o))/\(∀e∈l,j3 Z au t i ay.heap.size e)/\(∀(k:Nat) own b o,(A.mem to)[k]?=some (own,b,o)->∃q,(A.mem p)[k]?=some (own,b,q)):=by
 obtain⟨y,J,L,M⟩:=C.bH T he;obtain⟨ay,hd,hm,D,_,P,H,E,w,_⟩:=sC L h.mem;obtain⟨st,off,rfl⟩:=h.shape;have mine:∀(b k:Nat) o,(A.mem p)[k]?=some (true,b,o)->fO Z G i b:=λb k o e=>by obtain⟨d,_,f⟩:=h.own k true b o e;exact⟨d,f rfl⟩
 have B:∀b,b<u.heap.size->au.bO b=G.bO b:=λb c=>by rw[K,if_pos c]
 refine⟨y,ay,_,_,h.uY J (F _) hm ?_,λmain=>M main base st off u ay _ hd,D,λb c I=>?_,λe he=>?_,w⟩
 .intro k own b o e
  obtain⟨q,r⟩:=w k own b o e;obtain⟨d,R,f⟩:=h.own k own b q r;have c:=fB h.mem r;rw[B b c,z];exact⟨d,R,f⟩
 .refine Classical.byContradiction λQ=>I (H b λk o e=>Q ⟨mine b k o e,k,o,e⟩)
 .obtain⟨k,own,b,o,V,wr,d,rfl,f⟩:=E e he
  obtain⟨q1,S,U⟩:=h.own k own b o d;have c:=fB h.mem d;refine .mem rfl (by rw[P];exact c) (by simp) ⟨q1.2.1,q1.2.2⟩ (λe=>absurd e q1.1) ?_;show fO Z au i b\/((au.ro i b\/(au.bO b=i/\b≠Z.z.T))/\wr=false)
  unfold fO;rw[B b c,z];cases wr with
  |true=>exact .inl ⟨q1,U (f rfl)⟩
  |false=>exact .inr ⟨S.symm.imp id λx=>⟨x,q1.1⟩,rfl⟩
def cn.xK(T:dk A.P A.ext)(C:∀p,A.dA p<=400)(h:cn A Z G i p base x g u n j)(B:At A m p x){o:Obj}{to:Nat->Pos}(he:Edge.new true o to∈A.cq p)(l:∀b,au.bO b=if b<u.heap.size then G.bO b else i)(q:au.ro=G.ro)(D:∀h b,G.ro h b->b<u.heap.size)(L:Z.z.T<u.heap.size/\Z.W<u.heap.size/\Z.ch<u.heap.size):
 ∃y ay bn,cn A Z au i (to u.heap.size) base y (bQ y base) ay m bn/\(∀main,stepG A.P main g u=.go (bQ y base) ay)/\Calm u ay/\(∀b,b<u.heap.size->ay.heap[b]?=u.heap[b]?)/\ay.heap.size=u.heap.size+1:=by
 obtain⟨y,E,d,H⟩:=B.new T he u.heap.size;obtain⟨st,off,rfl⟩:=h.shape;have I:∀b,b<u.heap.size->au.bO b=G.bO b:=λb c=>by rw[l,if_pos c]
 refine⟨y,_,_,h.uY E (C _) (by rw[d];exact h.mem.push rfl) ?_,λmain=>H main base st off u rfl,⟨by simp,rfl,rfl,Go.ConcM.OsLater.refl _⟩,λb c=>?_,by simp⟩
 .intro k own b r e
  rw[d]at e;have e:(A.mem p++[(true,u.heap.size,o)])[k]?=some (own,b,r):=e;rcases Nat.lt_or_ge k (A.mem p).length with k1|k1
  .rw[PF k1]at e
   obtain⟨q1,J,K⟩:=h.own k own b r e;have c:=fB h.mem e;rw[I b c,q];exact⟨q1,J,K⟩
  .rw[PE k1]at e
   have:k-(A.mem p).length=0:=by
    rcases Nat.eq_zero_or_pos (k-(A.mem p).length)with z|z
    .exact z
    .rw[List.getElem?_eq_none (by simp;omega)]at e;cases e
   rw[this]at e;simp at e;obtain⟨rfl,rfl,rfl⟩:=e;have f:au.bO u.heap.size=i:=by rw[l,if_neg (Nat.lt_irrefl _)]
   rw[q];exact⟨⟨by omega,by omega,by omega⟩,.inl f,λ_=>⟨f,λw _ F=>absurd (D w _ F) (Nat.lt_irrefl _)⟩⟩
 .show(u.heap.push o)[b]?=_
  rw[PA,if_neg (by omega)]
def cn.uQ(T:dk A.P A.ext)(o:∀p,A.dA p<=400)(h:cn A Z G i p base x g u n j)(d:At A m p x){f:FuncId}{id:Nat}{ops:Array Oper}{L:List (List Nat)}{to:List Nat->Pos}(he:Edge.ord f id ops L to∈A.cq p):
 ∃l y bn,l∈L/\cn A Z G i (to l) base y (bQ y base) (u.at (u.drawn+1)) m bn/\(∀main,stepG A.P main g u=.go (bQ y base) (u.at (u.drawn+1))):=by
 obtain⟨l,y,q,r,c,w⟩:=d.ord T he u;obtain⟨st,off,rfl⟩:=h.shape;exact⟨l,y,_,q,h.uY r (o _) (by rw[c];exact h.mem.keep λ_ _ _ _ _=>rfl) (by rw[c];exact h.own),λmain=>w main base st off⟩
def cn.H2(f:∀p,A.dA p<=400)(h:cn A Z G i p base x g u n j)(d:At A m p x){Y:bs}{to:Pos}(he:Edge.join Y to∈A.cq p):∃bn,cn A Z G i to base x g u m bn:=by obtain⟨l,c⟩:=d.join he;exact⟨_,l,f _,h.fr,h.cs,h.lL,by rw[c];exact h.mem,by rw[c];exact h.own⟩
def cn.k0(T:dk A.P A.ext)(l:∀p,A.dA p<=400)(h:cn A Z G i p base x g u n j)(f:At A m p x){nr wk:Bool}{an:List df}{c:List cr}{to:Pos}(he:Edge.fix nr wk an c to∈A.cq p){es:Array Event}(hd:Does u c ay es)(r:fF (A.mem p) ay/\Own Z au i (A.mem p)):
 ∃y bn,cn A Z au i to base y (bQ y base) ay m bn/\(wk=true->mayWake A.P g=true)/\∀main,stepG A.P main g u=.go (bQ y base) ay (gY nr (cB c)).toArray:=by
 obtain⟨y,o,d,w,q⟩:=f.fix T he;obtain⟨st,off,rfl⟩:=h.shape;refine⟨y,_,h.uY o (l _) (by rw[d];exact r.1) (by rw[d];exact r.2),λe=>?_,λmain=>q main base st off u ay es hd⟩;have:=w e;unfold yX at this;exact this
end
end Go.aN
