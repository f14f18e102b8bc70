/- A part; no conditions. -/
import Derived.Test.YtkifbmfagkjikaaGreatDoorP7
import Derived.Test.YtkifbmfagkjikaaGreatDoorP8
import Derived.Test.YtkifbmfagkjikaaGreatDoorP9
set_option maxHeartbeats 8000000
set_option maxRecDepth 100000
set_option linter.all false
namespace Go.aO
attribute [-simp] Go.Sem.runT_eq
open Go.Proofs
section
inductive jm where
 |idle|pe|b6|q|w2|aT|I|J|ax|uK|r2|fin
 deriving DecidableEq
def jm.zA:jm->Bool
 |.ax |.uK |.r2 |.fin=>true
 |_=>false
def jm.gC:jm->Bool
 |.J=>true
 |_=>false
def j2:jm->jm->Option (Int×Int)
 |.idle,.idle |.idle,.fin |.fin,.fin=>some (0,0)
 |.aT,.idle |.aT,.pe |.aT,.fin |.I,.idle |.I,.pe |.J,.idle |.J,.pe |.ax,.idle |.ax,.pe |.ax,.fin=>some (1,0)
 |.aT,.q |.I,.q |.J,.q |.ax,.q=>some (9,0)
 |.uK,.q=>some (8,0)
 |.r2,.q=>some (2,0)
 |.fin,.q=>some (2,1)
 |.fin,.w2=>some (2,0)
 |.fin,.pe |.fin,.b6=>some (0,0)
 |_,_=>none
def jO(a b:jm):Option (Int×Int):=match j2 a b with
 |some x=>some x
 |none=>j2 b a
def tU(a b:jm):Bool:=a.zA||b.zA
def u2(a b:jm):Bool:=tU a b||(a.gC||b.gC)
def Me(a b:jm):jO a b=jO b a:=by cases a<;>cases b<;>rfl
def I6(a b:jm):tU a b=tU b a:=by cases a<;>cases b<;>rfl
def Q7(a b:jm):u2 a b=u2 b a:=by cases a<;>cases b<;>rfl
structure cO(a b:jm)(mu ms:Int)(aY bc:Bool):Prop where
 mu:jO a b=some (mu,ms)
 aY:aY=tU a b
 bc:bc=u2 a b
def cO.symm{a b:jm}{mu ms:Int}{aY bc:Bool}(h:cO a b mu ms aY bc):cO b a mu ms aY bc:=⟨by rw[Me];exact h.mu,h.aY.trans (I6 _ _),h.bc.trans (Q7 _ _)⟩
section
variable{b:jm}{mu ms:Int}{aY bc:Bool}
def cO.jX(h:cO .idle b mu ms aY bc):(mu=0/\cO .aT b 1 ms aY bc)\/(mu=1/\cO .pe b 1 ms aY bc):=by obtain⟨c,rfl,rfl⟩:=h;cases b<;>simp[jO,j2]at c<;>obtain⟨rfl,rfl⟩:=c<;>first|exact .inl ⟨rfl,rfl,rfl,rfl⟩|exact .inr ⟨rfl,rfl,rfl,rfl⟩
def cO.look(h:cO .pe b mu ms aY bc):mu=1\/(mu=0/\cO .b6 b 0 ms aY bc):=by obtain⟨c,rfl,rfl⟩:=h;cases b<;>simp[jO,j2]at c<;>obtain⟨rfl,rfl⟩:=c<;>first|exact .inl rfl|exact .inr ⟨rfl,rfl,rfl,rfl⟩
def cO.queue(h:cO .pe b mu ms aY bc):(mu=1/\cO .q b 9 ms aY bc)\/(mu=0/\cO .b6 b 0 ms aY bc):=by obtain⟨c,rfl,rfl⟩:=h;cases b<;>simp[jO,j2]at c<;>obtain⟨rfl,rfl⟩:=c<;>first|exact .inl ⟨rfl,rfl,rfl,rfl⟩|exact .inr ⟨rfl,rfl,rfl,rfl⟩
def cO.b6(h:cO .b6 b mu ms aY bc):mu=0/\cO .aT b 1 ms aY bc:=by obtain⟨c,rfl,rfl⟩:=h;cases b<;>simp[jO,j2]at c<;>obtain⟨rfl,rfl⟩:=c<;>exact⟨rfl,rfl,rfl,rfl⟩
def cO.sema(h:cO .q b mu ms aY bc):(ms=0/\b≠.fin)\/(ms=1/\cO .w2 b mu 0 aY bc):=by obtain⟨c,rfl,rfl⟩:=h;cases b<;>simp[jO,j2]at c<;>obtain⟨rfl,rfl⟩:=c<;>first|exact .inl ⟨rfl,aF⟩|exact .inr ⟨rfl,rfl,rfl,rfl⟩
def cO.w2(h:cO .w2 b mu ms aY bc):mu=2/\cO .aT b 1 ms aY bc:=by obtain⟨c,rfl,rfl⟩:=h;cases b<;>simp[jO,j2]at c<;>obtain⟨rfl,rfl⟩:=c<;>exact⟨rfl,rfl,rfl,rfl⟩
def cO.KN(h:cO .fin b mu ms aY bc):aY=true:=by rw[h.aY];rfl
def cO.KM(h:cO .aT b mu ms aY bc):(aY=false/\cO .I b mu ms aY bc)\/(aY=true/\cO .ax b mu ms aY bc):=by obtain⟨c,rfl,rfl⟩:=h;cases b<;>simp[jO,j2]at c<;>obtain⟨rfl,rfl⟩:=c<;>first|exact .inl ⟨rfl,rfl,rfl,rfl⟩|exact .inr ⟨rfl,rfl,rfl,rfl⟩
def cO.write(h:cO .I b mu ms aY bc):aY=false/\bc=false/\b.gC=false/\cO .J b mu ms aY true:=by obtain⟨c,rfl,rfl⟩:=h;cases b<;>simp[jO,j2]at c<;>obtain⟨rfl,rfl⟩:=c<;>exact⟨rfl,rfl,rfl,rfl,rfl,rfl⟩
def cO.raise(h:cO .J b mu ms aY bc):aY=false/\bc=true/\cO .ax b mu ms true bc:=by obtain⟨c,rfl,rfl⟩:=h;cases b<;>simp[jO,j2]at c<;>obtain⟨rfl,rfl⟩:=c<;>exact⟨rfl,rfl,rfl,rfl,rfl⟩
def cO.held(h:cO .ax b mu ms aY bc):mu=1\/mu=9:=by obtain⟨c,rfl,rfl⟩:=h;cases b<;>simp[jO,j2]at c<;>obtain⟨rfl,rfl⟩:=c<;>first|exact .inl rfl|exact .inr rfl
def cO.add(h:cO .ax b mu ms aY bc):(mu=1/\cO .fin b 0 ms aY bc)\/(mu=9/\cO .uK b 8 ms aY bc):=by obtain⟨c,rfl,rfl⟩:=h;cases b<;>simp[jO,j2]at c<;>obtain⟨rfl,rfl⟩:=c<;>first|exact .inl ⟨rfl,rfl,rfl,rfl⟩|exact .inr ⟨rfl,rfl,rfl,rfl⟩
def cO.Im(h:cO .uK b mu ms aY bc):mu=8/\cO .r2 b 2 ms aY bc:=by obtain⟨c,rfl,rfl⟩:=h;cases b<;>simp[jO,j2]at c<;>obtain⟨rfl,rfl⟩:=c<;>exact⟨rfl,rfl,rfl,rfl⟩
def cO.post(h:cO .r2 b mu ms aY bc):ms=0/\cO .fin b mu 1 aY bc:=by obtain⟨c,rfl,rfl⟩:=h;cases b<;>simp[jO,j2]at c<;>obtain⟨rfl,rfl⟩:=c<;>exact⟨rfl,rfl,rfl,rfl⟩
end
inductive mX where
 |no|ic|hI|jT|yes
 deriving DecidableEq
inductive vr where
 |pre|reg|vg
 deriving DecidableEq
def mX.dec:mX->Bool
 |.no=>false
 |_=>true
def ey(two:Bool)(a b:mX)(k:vr):Option (Int×Int):=match two,a,b,k with
 |false,.no,.no,.pre=>some (4294967296,0)
 |true,.no,.no,.pre=>some (8589934592,0)
 |true,.yes,.no,.pre|true,.no,.yes,.pre=>some (4294967296,0)
 |true,.yes,.yes,.pre=>some (0,0)
 |true,.no,.no,.reg=>some (8589934593,0)
 |true,.yes,.no,.reg|true,.no,.yes,.reg=>some (4294967297,0)
 |true,.yes,.ic,.reg|true,.ic,.yes,.reg|true,.yes,.hI,.reg|true,.hI,.yes,.reg=>some (1,0)
 |true,.yes,.jT,.reg|true,.jT,.yes,.reg=>some (0,0)
 |true,.yes,.yes,.reg=>some (0,1)
 |true,.yes,.yes,.vg=>some (0,0)
 |_,_,_,_=>none
def G2(t:Bool)(a b:mX)(k:vr):ey t a b k=ey t b a k:=by cases t<;>cases a<;>cases b<;>cases k<;>rfl
section
variable{a b:mX}{k:vr}{v m:Int}
def R9(h:ey false a b k=some (v,m)):v=4294967296/\ey true a b k=some (8589934592,m):=by cases a<;>cases b<;>cases k<;>simp[ey]at h<;>obtain⟨rfl,rfl⟩:=h<;>exact⟨rfl,rfl⟩
def R'(h:ey true .no b k=some (v,m)):(v=8589934592/\ey true .yes b k=some (4294967296,m))\/(v=4294967296/\ey true .yes b k=some (0,m))\/
 (v=8589934593/\ey true .yes b k=some (4294967297,m))\/(v=4294967297/\ey true .ic b k=some (1,m)):=by
 cases b<;>cases k<;>simp[ey]at h<;>obtain⟨rfl,rfl⟩:=h<;>simp[ey]
def Sa(h:ey true .ic b k=some (v,m)):v=1/\ey true .hI b k=some (1,m):=by cases b<;>cases k<;>simp[ey]at h<;>obtain⟨rfl,rfl⟩:=h<;>exact⟨rfl,rfl⟩
def Sb(h:ey true .hI b k=some (v,m)):ey true .jT b k=some (0,m):=by cases b<;>cases k<;>simp[ey]at h<;>obtain⟨rfl,rfl⟩:=h<;>rfl
def Sc(h:ey true .jT b k=some (v,m)):m=0/\ey true .yes b k=some (v,1):=by cases b<;>cases k<;>simp[ey]at h<;>obtain⟨rfl,rfl⟩:=h<;>exact⟨rfl,rfl⟩
def left(a b:mX):Nat:=(if a.dec then 0 else 1)+(if b.dec then 0 else 1)
def G3(h:ey true a b .pre=some (v,m)):(left a b=0/\v=0/\ey true a b .vg=some (0,m))\/(left a b=1/\v=4294967296/\ey true a b .reg=some (4294967297,m))\/(left a b=2/\v=8589934592/\ey true a b .reg=some (8589934593,m)):=by cases a<;>cases b<;>simp[ey]at h<;>obtain⟨rfl,rfl⟩:=h<;>simp[ey,left,mX.dec]
def G4(h:ey true a b .reg=some (v,m)):(m=0/\¬(a=.yes/\b=.yes))\/(m=1/\ey true a b .vg=some (v,0)):=by cases a<;>cases b<;>simp[ey]at h<;>obtain⟨rfl,rfl⟩:=h<;>simp[ey]
def vc(h:ey true a b .vg=some (v,m)):v=0/\a=.yes/\b=.yes:=by cases a<;>cases b<;>simp[ey]at h<;>obtain⟨rfl,rfl⟩:=h<;>simp
end
end
end Go.aO
namespace Go.aO
attribute [-simp] Go.Sem.runT_eq
open Go.Proofs Go.Conc Go.ConcN
variable{es:Array Event}{fn:FuncId}{g':Goroutine}{op:MemOp}{g i:Nat}{o:Obj}{ρ:Ren}{pos:String}{V:dt}
noncomputable abbrev aK:Program:=Tryz.prog
structure et where
 Q:Program
 K:g8 Q Tryz.prog
 ht:Nat
 fI:Nat
 v0:World
 R:Value->World->Prop
 S:Same Q Tryz.prog
 ek:fe (fj (jv Q)) Q Q
 H:fe (fj K) Q Tryz.prog
 db:∀f a b,¬K.db f a b
 fn:∀f,K.fn f->f=31
 eb:eK Q 31=some 2/\eK Q 38=none
 vJ:Q.cellsOf 94=28
 c3:Q.cellsOf 3=1
 tj:Q.globals.size<=ht/\Q.globals.size<=fI/\ht≠fI
 ui:v0.heap[ht]?=some (.cells #[ah 2,sl fI 2] 94 (0,2))
 zw:v0.heap[fI]?=some (.cells #[ah 2,ah 1] 3 (0,2))
 going:e3 Q 38 R ⟨Frame.enter Q 38 #[pt ht,.agg dC] .normal,[],v0⟩
 self:Self Q ⟨Frame.enter Q 38 #[pt ht,.agg dC] .normal,[],v0⟩
 stub:∀V:dt,e3 Q 38 R V->∀a kind c cs,(kind=.normal\/kind=.deferred)->a.size=2->V.fr=Frame.enter Q 31 a kind->V.cs=c::cs->Kept c->
  a=#[pt ht,ah 0]/\∃n,runN Q n V.m=.next (lone (eU kind c iT) (cs++[wall]) V.w)
 res:∀v w,R v w->∃b c l,v=four (b,c)/\w.heap[b]?=some (.cells (#[ah 2,ah 3,ah 5,ah 6]++l) 3 (0,0))/\c=l.size+4
abbrev lP(Q:Program):={V:dt // Acc (dZ Q) V}
inductive Hu where
 |un|out (p:h5)|lift|fx (l:Nat)|dG (l:Nat)|lock (p:kg)|dB (l:Nat)|iu (p:m7)
structure ck where
 c:Hu
 bb:Bool
def pY:kg->jm
 |.jr |.jX=>.idle
 |.h6 |.gH |.aq |.fin=>.aT
 |.ld |.sp _ |.rs _ |.rj=>.pe
 |.ln |.bx=>.b6
 |.t1 |.qf _=>.q
 |.t2 _ |.oH _ _ |.rw |.c2=>.w2
def Be:m7->jm
 |.ld |.gH |.cx |.jr |.add=>.ax
 |.jX=>.uK
 |.db=>.r2
 |.h6 |.fin=>.fin
def vV(bb:Bool):Nat->jm
 | 2=>.aT
 | 3=>.I
 | 4|5=>.J
 | 7=>.ax
 |_=>if bb then .fin else .idle
def ck.role(s:ck):jm:=match s.c with
 |.lock p=>pY p
 |.iu p=>Be p
 |.dB l=>if l<49 then .I else .J
 |.dG l=>vV s.bb l
 |.un=>.idle
 |_=>if s.bb then .fin else .idle
def pk:h5->mX
 |.d4=>.ic
 |.d5=>.hI
 |.d7=>.jT
 |.d6 |.fin=>.yes
 |_=>.no
def ck.cR(s:ck):mX:=match s.c with
 |.out p=>pk p
 |_=>.no
def nF:h5->Bool
 |.d0 |.d1 |.d2 |.d3 |.d4 |.d5 |.d7 |.d6 |.fin=>true
 |_=>false
def ck.da(s:ck):Bool:=match s.c with
 |.out p=>nF p
 |_=>false
def ck.deaf(s:ck):Nat:=match s.c with
 |.out p=>(match p with
  |.d3 |.d4 |.d5 |.d7 |.d6=>1
  |_=>0)
 |.lock p=>(match p with
  |.jr |.gH |.aq |.fin=>0
  |_=>1)
 |.iu p=>(match p with
  |.add |.jX |.db |.h6=>1
  |_=>0)
 |_=>0
def ck.eC(s:ck):Bool:=match s.c with
 |.dG l=>decide (7<=l)
 |.iu _=>true
 |.fx l=>decide (14<=l)
 |_=>false
inductive dE where
 |un|at(p:gO)
def dE.ph:dE->vr
 |.un=>.pre
 |.at p=>match p with
  |.bx |.c1 _ |.c2 _=>.pre
  |.c3 |.c4 |.gq=>.reg
  |_=>.vg
def dE.deaf:dE->Nat
 |.at p=>(match p with
  |.c1 _ |.c2 _ |.c3 |.c4 |.gq |.pI |.pK=>1
  |_=>0)
 |.un=>0
def dE.bound:dE->Nat
 |.at (.c1 m) |.at (.c2 m)=>m
 |_=>2
def dE.shut:dE->Bool
 |.at .fin=>true
 |_=>false
def dE.said:dE->Bool
 |.at p=>(match p with
  |.bx |.c1 _ |.c2 _ |.c3 |.c4=>false
  |_=>true)
 |.un=>false
def j1(l:Nat):Nat:=if l=23\/l=24 then 1 else 0
def dF(l:Nat):Nat:=if l<=28 then 0 else if l<=34 then 1 else 2
structure Stat where
 z:eG
 L:Nat
 bc:Nat
 O:Nat
 ch:Nat
 cg:Nat
 W:Nat
 N:Nat
 cT:Nat
 aL:World
 kd:CallKind
 base:List Frame
 aH:Nat->Prop
class hi(X:et)(Z:Stat):Prop where
 je:∀b,je X.Q=some b->b=X.ht/\b=Z.z.T
structure bX where
 b1:Nat->Nat
 ro:Nat->Nat->Prop
 bP:Bool->mi
 s:Bool->ck
 k:dE
 l:Nat
 mu:Int
 ms:Int
 aY:Bool
 bc:Bool
 v:Int
 m:Int
 cy:Bool->Nat×Nat
def Stat.wk(Z:Stat):Bool->Nat
 |false=>Z.N
 |true=>Z.N+1
def mj(b:Bool):Int:=if b then 1 else 0
def kP(b:Bool):Array Value:=if b then #[ah 1,ah 1,ah 3,ah 0,ah 3]else #[ah 0,ah 0,ah 0,ah 0,ah 0]
def eN(z:eG)(mu ms:Int)(aY bc:Bool):Array Value:=
 #[ah 2,sl z.F 2,sl z.R 2,sl z.Fr 1,.int .u32 (mj aY),.int .i32 mu,.int .u32 ms,.int .u32 0,.int .i32 0,.int .u32 0,.int .u32 0,.int .i32 0,.int .u32 0]++kP bc++#[ah 0,ah 0,ah 0,ah 0,ah 0,ah 0,ah 0,ah 0,ah 0,ah 0]
structure ea(Z:Stat)(G:bX)(w:World):Prop where
 T:w.heap[Z.z.T]?=some (.cells (eN Z.z G.mu G.ms G.aY G.bc) 94 (0,0))
 W:w.heap[Z.W]?=some (.cells #[.int .u64 G.v,.int .u32 G.m] 201 (0,0))
 ch:w.heap[Z.ch]?=some (.chan 0 #[] G.k.shut (dF G.l) (dF G.l) false)
 old:∀b,b<Z.aL.heap.size->b≠Z.z.T->w.heap[b]?=Z.aL.heap[b]?
 calm:Calm Z.aL w
structure g5(G:bX):Prop where
 once:cO (G.s false).role (G.s true).role G.mu G.ms G.aY G.bc
 wg:ey (decide (24<=G.l)) (G.s false).cR (G.s true).cR G.k.ph=some (G.v,G.m)
 bound:left (G.s false).cR (G.s true).cR<=G.k.bound
 cnt:dF G.l=(if (G.s false).da then 1 else 0)+(if (G.s true).da then 1 else 0)
 l9:G.l<26↔(G.s true).c=.un
 mS:G.l<27↔G.k=.un
 pG:(G.s false).c≠.un
 bY:17<=G.l
 eC:∀k,(G.s k).eC=true->G.aY=true
def eX(Z:Stat)(G:bX):qI:=if G.aY then .done else if (G.s false).role.gC then .written (Z.wk false)else if (G.s true).role.gC then .written (Z.wk true)else .fresh
def blk:Loc->Nat
 |.cell a=>a.block
 |.obj r=>r
 |_=>0
def pl(Z:Stat)(G:bX):qE where
 cT:=Z.cT
 jy l:=(∃o,l=.cell ⟨Z.z.T,o,none⟩/\4<=o/\o<13)\/(∃a,l=.cell a/\a.block=Z.W)\/l=.obj Z.ch
 ik l:=∃o,l=.cell ⟨Z.z.T,o,none⟩/\13<=o
 kX:=⟨Z.z.T,4,none⟩
 b1 l:=G.b1 (blk l)
 oy g l:=G.ro g (blk l)/\l.isMemory=true/\(blk l=Z.z.T->l=.obj Z.z.T\/∃o,l=.cell ⟨Z.z.T,o,none⟩/\o<4)
 aH:=Z.aH
 no:=Z.N+3
def Own(Z:Stat)(G:bX)(i:Nat)(M:Mem):Prop:=∀(n:Nat) own b o,M[n]?=some (own,b,o)->
 (b≠Z.z.T/\b≠Z.W/\b≠Z.ch)/\(G.b1 b=i\/G.ro i b)/\(own=true->G.b1 b=i/\∀h,h≠i->¬G.ro h b)
structure cB{Pos:Type}(A:de Pos)(Z:Stat)(G:bX)(i:Nat)(p:Pos)(base:List Frame)(x:bA)(g:Goroutine)(w:World)(n j:Nat):Prop where
 on:eJ A n p j x
 le:j<=400
 fr:g.frame=x.1
 cs:g.callers=x.2++base
 m':g.dying=none
 mem:gN (A.mem p) w
 own:Own Z G i (A.mem p)
def oQ:List Nat->Bool
 | 6::_=>true
 | 0::r|1::r=>oQ r
 |_=>false
def nY:List Nat->Bool
 | 0::r|1::r|2::r|3::r=>nY r
 | 4::r=>oQ (r.filter (λn=>!(n == 5)))
 |_=>false
def tm:h5->Bool
 |.g r=>nY r
 |.h r _=>oQ r
 |_=>true
def mK(l:Nat)(r:List Nat):Bool:=match l with
 | 0|1|2|3|14|16|17=>true
 | 4|15=>r.all (· < 2)
 |_=>false
def sb:Nat->Bool
 | 0|1|2|3|4|5|7|8=>true
 |_=>false
def pO(l:Nat)(r:List Nat):Bool:=if l=48 then r.all (· < 3)else decide (l<=49)
structure m1 where
 x:bA
 rem:List Nat
 n:Nat
def m1.base(c:m1):List Frame:=c.x.1::c.x.2
def m1.Ok(c:m1)(Z:Stat)(G:bX)(k:Bool)(w:World):Prop:=
 (∀v,eJ (fP (G.bP k)) c.n (.h c.rem v) 400 (c.x.1.finish (four v),c.x.2))/\gN (ib (G.bP k)) w/\Own Z G (Z.wk k) (ib (G.bP k))/\(∀(n:Nat) own b o,(ib (G.bP k))[n]?=some (own,b,o)->G.b1 b≠Z.wk k)/\oQ c.rem=true
structure m5(X:et)(Z:Stat)(G:bX)(i:Nat)(ρ:Ren)(V:dt):Prop where
 gB:∀b aE,ρ.r b aE->aE≠Z.W/\aE≠Z.ch/\(aE=Z.z.T->b=X.ht)
 own:∀b aE,ρ.r b aE->(aE≠Z.z.T/\G.b1 aE=i/\∀h,h≠i->¬G.ro h aE)\/(G.ro i aE/\jk V.w b)
 T:V.w.heap[X.ht]?=some (.cells #[ah 2,sl X.fI 2] 94 (0,2))
 uI:ρ.r X.ht Z.z.T
 xo:ρ.r X.fI Z.z.F
 inexact:ρ.exact=false
 fits:Fits X.Q ρ
structure LCtx where
 V:dt
 ρ:Ren
 cs:List Frame
 o:m1
def LCtx.base(c:LCtx):List Frame:=c.cs++c.o.base
structure LCtx.rX(X:et)(Z:Stat)(G:bX)(k:Bool)(c:LCtx)(fr:Frame)(w:World):Prop where
 going:e3 X.Q 38 X.R c.V
 self:Self X.Q c.V
 pair:m2 X.K c.ρ c.V fr c.cs w
 ll:m5 X Z G (Z.wk k) c.ρ c.V
 o:c.o.Ok Z G k w
structure LCtx.rZ(X:et)(Z:Stat)(G:bX)(k:Bool)(c:LCtx)(kd:CallKind)(w:World):Prop where
 going:e3 X.Q 38 X.R c.V
 self:Self X.Q c.V
 zB:kd=.normal\/kd=.deferred
 fr:c.V.fr=Frame.enter X.Q 31 #[pt X.ht,ah 0] kd
 some:c.V.cs≠[]
 cs:cK (cN X.K c.ρ) c.V.cs c.cs
 fit:Fit X.Q c.ρ
 room:c.ρ.room=true
 heap:gm c.ρ c.V.w w
 ll:m5 X Z G (Z.wk k) c.ρ c.V
 o:c.o.Ok Z G k w
def o9(T bG bH df:Nat):Nat->Mem
 | 0=>[]
 | 1=>[(true,bG,.cells #[pt T] 70 (0,0))]
 | 2=>[(true,bG,.cells #[pt T] 70 (0,0)),(true,bH,.cells #[i0] 3 (0,0))]
 |_=>[(true,bG,.cells #[pt T] 70 (0,0)),(true,bH,.cells #[i0] 3 (0,0)),(true,df,.cells #[i0,i0,i0,i0,i0] 91 (0,0))]
structure RCtx extends LCtx where
 kd:CallKind
 bG:Nat
 bH:Nat
 df:Nat
 M:Mem
 oq:bA
 nr:Nat
 bq:Nat
def RCtx.lj(c:RCtx):List Frame:=c.oq.1::c.oq.2++c.base
structure RCtx.Ok(X:et)(Z:Stat)(G:bX)(k:Bool)(c:RCtx)(w:World):Prop where
 l:c.toLCtx.rZ X Z G k c.kd w
 on:eJ (iD Z.z.T c.kd) c.nr ⟨14,[],c.bG,c.bH,c.df,c.M⟩ 400 (c.oq.1.finish unit,c.oq.2)
 mem:gN c.M w
 own:Own Z G (Z.wk k) c.M
 vH:c.M=o9 Z.z.T c.bG c.bH c.df 3
 run:c.oq.1.mode=.run
 bY:∀b aE,c.ρ.r b aE->aE<c.bq
 ad:∀(i:Nat) b o,c.M[i]?=some (true,b,o)->c.bq<=b
 dh:c.bq<=w.heap.size
structure h0 extends RCtx where
 j7:bA
 bZ:Nat
def h0.ja(c:h0):List Frame:=c.j7.1::c.j7.2++c.lj
structure h0.Ok(X:et)(Z:Stat)(G:bX)(k:Bool)(c:h0)(to:Nat)(w:World):Prop where
 r:c.toRCtx.Ok X Z G k w
 on:eJ (ki Z.z.T) c.bZ ⟨to,c.bG,c.bH⟩ 400 (c.j7.1.finish unit,c.j7.2)
 run:c.j7.1.mode=.run
structure kA(Z:Stat)(G:bX)(i:Nat)(w:World)(v:Nat×Nat):Prop where
 cells:∃l,w.heap[v.1]?=some (.cells (#[ah 2,ah 3,ah 5,ah 6]++l) 3 (0,0))/\v.2<=l.size+4
 gB:v.1≠Z.z.T/\v.1≠Z.W/\v.1≠Z.ch
 own:G.b1 v.1=i
def mU(cy:Nat×Nat):h5->Option (Nat×Nat)
 |.h _ v |.snd v=>some v
 |.b6 |.g _=>none
 |_=>some cy
abbrev gQ(Q:Program):=Nat×lP Q×Nat
def hQ:h5->Bool
 |.b6 |.g _=>true
 |_=>false
inductive fz(X:et)(Z:Stat)(G:bX)(k:Bool)(g:Goroutine)(w:World):ck->gQ X.Q->Prop
 |un (bb bt):fz X Z G k g w ⟨.un,bb⟩ bt
 |out {p bb x n j} (gA:lP X.Q) (ok:tm p=true) (h:cB (fP (G.bP k)) Z G (Z.wk k) p [] x g w n j) (aj:hQ p=true->bb=false)
  (ak:∀(n:Nat) own b o,(ib (G.bP k))[n]?=some (own,b,o)->G.b1 b≠Z.wk k) (aJ:∀v,mU (G.cy k) p=some v->kA Z G (Z.wk k) w v):fz X Z G k g w ⟨.out p,bb⟩ (if hQ p then 3 else 1,gA,n*500+j)
 |gone {bb} (gA:lP X.Q) (aD:g.status=.finished) (aJ:kA Z G (Z.wk k) w (G.cy k)):fz X Z G k g w ⟨.out .fin,bb⟩ (0,gA,0)
 |lift {bb fr} (c:LCtx) (eM:g.frame=fr) (e8:g.callers=c.base) (oR:g.dying=none) (h:c.rX X Z G k fr w) (ae:Acc (dZ X.Q) c.V):fz X Z G k g w ⟨.lift,bb⟩ (2,⟨c.V,ae⟩,0)
 |fx {bb l x n j} (c:LCtx) (kd bG bH df M rem) (bq:Nat) (ok:mK l rem=true) (b0:∀(i:Nat) b o,M[i]?=some (true,b,o)->bq<=b) (cE:∀b aE,c.ρ.r b aE->aE<bq) (cM:bq<=w.heap.size) (bE:l<=16->M=o9 Z.z.T bG bH df l) (h:c.rZ X Z G k kd w)
  (ae:Acc (dZ X.Q) c.V) (aA:cB (iD Z.z.T kd) Z G (Z.wk k) ⟨l,rem,bG,bH,df,M⟩ c.base x g w n j):fz X Z G k g w ⟨.fx l,bb⟩ (2,⟨c.V,ae⟩,(n*500+j)*10000000000)
 |dG {bb l x n j} (c:RCtx) (ok:sb l=true) (fs:1<=l->l<=7->bb=false) (h:c.Ok X Z G k w) (ae:Acc (dZ X.Q) c.V) (aA:cB (ki Z.z.T) Z G (Z.wk k) ⟨l,c.bG,c.bH⟩ c.lj x g w n j):fz X Z G k g w ⟨.dG l,bb⟩ (2,⟨c.V,ae⟩,(c.nr*500+450)*10000000000+(n*500+j)*100000)
 |lock {p x n j} (c:h0) (h:c.Ok X Z G k 2 w) (ae:Acc (dZ X.Q) c.V) (aA:cB (wY Z.z.T 4 (94,28) .normal) Z G (Z.wk k) p c.ja x g w n j):fz X Z G k g w ⟨.lock p,false⟩ (2,⟨c.V,ae⟩,(c.nr*500+450)*10000000000+(c.bZ*500+450)*100000+(n*500+j))
 |dB {l rem M x n j} (c:h0) (bq:Nat) (ok:pO l rem=true) (b0:∀(i:Nat) b o,M[i]?=some (true,b,o)->bq<=b) (cE:∀b aE,c.ρ.r b aE->aE<bq) (c6:∀(i:Nat) own b o,c.M[i]?=some (own,b,o)->b<bq) (cM:bq<=w.heap.size) (h:c.Ok X Z G k 4 w)
  (ae:Acc (dZ X.Q) c.V) (aA:cB (vO Z.z) Z G (Z.wk k) ⟨l,rem,M⟩ c.ja x g w n j):fz X Z G k g w ⟨.dB l,false⟩ (2,⟨c.V,ae⟩,(c.nr*500+450)*10000000000+(c.bZ*500+450)*100000+(n*500+j))
 |iu {p bb x n j} (c:h0) (h:c.Ok X Z G k 8 w) (ae:Acc (dZ X.Q) c.V) (aA:cB (x8 Z.z.T 4 (94,28) .normal) Z G (Z.wk k) p c.ja x g w n j):fz X Z G k g w ⟨.iu p,bb⟩ (2,⟨c.V,ae⟩,(c.nr*500+450)*10000000000+(c.bZ*500+450)*100000+(n*500+j))
section
variable{X:et}{Z:Stat}{G dP:bX}{w aG:World}{k:Bool}
structure jV(Z:Stat)(G dP:bX)(i bq:Nat)(w aG:World):Prop where
 size:w.heap.size<=aG.heap.size
 b1:∀b,b<w.heap.size->dP.b1 b=G.b1 b
 ro:∀h b,G.ro h b->dP.ro h b
 Fh:∀h b,b<w.heap.size->dP.ro h b->G.ro h b\/G.b1 b≠i
 keep:∀b,b<w.heap.size->b≠Z.z.T->b≠Z.W->b≠Z.ch->(G.b1 b=i\/G.ro i b)->(b<bq\/G.b1 b≠i)->aG.heap[b]?=w.heap[b]?
 T:∃mu ms aY bc,aG.heap[Z.z.T]?=some (.cells (eN Z.z mu ms aY bc) 94 (0,0))
abbrev e0(Z:Stat)(G dP:bX)(i:Nat)(w aG:World):Prop:=jV Z G dP i w.heap.size w aG
def gL{M:Mem}(h:gN M w){n:Nat}{own:Bool}{b:Nat}(e:M[n]?=some (own,b,o)):b<w.heap.size:=(Array.getElem?_eq_some_iff.1 (h.has n own b o e)).1
variable{bq:Nat}
def gN.rely{M:Mem}(h:gN M w)(c:Own Z G i M)(r:jV Z G dP i bq w aG)(d:∀(n:Nat) own b o,M[n]?=some (own,b,o)->b<bq\/G.b1 b≠i):gN M aG:=
 h.keep λn own b o e=>r.keep b (gL h e) (c n own b o e).1.1 (c n own b o e).1.2.1 (c n own b o e).1.2.2 (c n own b o e).2.1 (d n own b o e)
def gN.floor{M:Mem}(h:gN M w):∀(n:Nat) own b o,M[n]?=some (own,b,o)->b<w.heap.size\/G.b1 b≠i:=λ_ _ _ _ e=>.inl (gL h e)
def Own.rely{M:Mem}(h:gN M w)(m:Own Z G i M)(r:jV Z G dP i bq w aG):Own Z dP i M:=by
 intro n own b o e;obtain⟨f,g,c⟩:=m n own b o e;have d:=gL h e;refine⟨f,g.imp (λx=>(r.b1 b d).trans x) (r.ro i b),λx=>⟨(r.b1 b d).trans (c x).1,λj l p=>?_⟩⟩;rcases r.Fh j b d p with y|y
 .exact(c x).2 j l y
 .exact y (c x).1
def cB.rely{Pos:Type}{A:de Pos}{p:Pos}{base:List Frame}{x:bA}{g:Goroutine}{n j:Nat}(h:cB A Z G i p base x g w n j)(r:e0 Z G dP i w aG)(c:g'.frame=g.frame)(d:g'.callers=g.callers)(f:g'.dying=g.dying):cB A Z dP i p base x g' aG n j:=
 ⟨h.on,h.le,c.trans h.fr,d.trans h.cs,f.trans h.m',h.mem.rely h.own r h.mem.floor,h.own.rely h.mem r⟩
def Gp(g:Fits X.Q ρ)(he:ρ.exact=false)(hF:ρ.r X.fI Z.z.F)(mu ms:Int)(aY bc:Bool):eZ ρ (.cells #[ah 2,sl X.fI 2] 94 (0,2)) (.cells (eN Z.z mu ms aY bc) 94 (0,0)):=by
 refine .cells (.inr ⟨?_,?_⟩) (λi x y c d=>?_) (.inr ⟨he,rfl,bg,Nat.zero_le _⟩)
 .cases bc<;>simp[eN,kP]
 .refine gu ?_ (g.cells 94)
  rw[X.vJ];simp
 .have j:i<2:=by simpa using bu c
  have h:(eN Z.z mu ms aY bc)[i]?=#[ah 2,sl Z.z.F 2][i]?:=by have f:i=0\/i=1:=U;rcases f with rfl|rfl<;>(cases bc<;>simp[eN,kP])
  rw[h]at d;have f:i=0\/i=1:=U;rcases f with rfl|rfl
  .simp at c d
   subst c;subst d;exact .int _ _
  .simp at c d
   subst c;subst d;exact aQ.slice (a:=⟨X.fI,0,none⟩) (b:=⟨Z.z.F,0,none⟩) ⟨hF,rfl,rfl⟩ 2 2
def gm.rely(h:gm ρ V.w w)(d:m5 X Z G i ρ V)(r:jV Z G dP i bq w aG)(n:∀b c,ρ.r b c->c<bq):gm ρ V.w aG:=by
 refine⟨λb c f=>?_,h.lim,cL h.js r.size⟩;obtain⟨o,p,l,j,m⟩:=h.obj b c f;by_cases g:c=Z.z.T
 .obtain rfl:=(d.gB b c f).2.2 g
  subst g;obtain⟨mu,ms,aY,bc,e⟩:=r.T;exact⟨_,_,d.T,e,Gp d.fits d.inexact d.xo _ _ _ _⟩
 .refine⟨o,p,l,?_,m⟩
  rw[r.keep c (bu j) g (d.gB b c f).1 (d.gB b c f).2.1 ((d.own b c f).imp (λx=>x.2.1) And.left) (.inl (n b c f))];exact j
def m5.rely(h:gm ρ V.w w)(c:m5 X Z G i ρ V)(r:jV Z G dP i bq w aG):m5 X Z dP i ρ V:=by
 refine⟨c.gB,λb d m=>?_,c.T,c.uI,c.xo,c.inexact,c.fits⟩;obtain⟨_,_,_,g,_⟩:=h.obj b d m;have n:=bu g;rcases c.own b d m with⟨f,l,o⟩|⟨f,g⟩
 .refine .inl ⟨f,(r.b1 d n).trans l,λj p q=>?_⟩
  rcases r.Fh j d n q with y|y
  .exact o j p y
  .exact y l
 .exact .inr ⟨r.ro _ _ f,g⟩
def gm.floor{v w:World}(h:gm ρ v w):∀b c,ρ.r b c->c<w.heap.size:=λb c f=>by obtain⟨_,_,_,d,_⟩:=h.obj b c f;exact bu d
def m1.Ok.rely{c:m1}(h:c.Ok Z G k w)(l:dP.bP k=G.bP k)(r:jV Z G dP (Z.wk k) bq w aG):c.Ok Z dP k aG:=by obtain⟨i,d,f,g,j⟩:=h;unfold m1.Ok;rw[l];exact⟨i,d.rely f r λn own b o e=>.inr (g n own b o e),f.rely d r,λn own b o e=>by rw[r.b1 b (gL d e)];exact g n own b o e,j⟩
def LCtx.rX.rely{c:LCtx}{fr:Frame}(h:c.rX X Z G k fr w)(d:dP.bP k=G.bP k)(r:e0 Z G dP (Z.wk k) w aG):c.rX X Z dP k fr aG:=
 ⟨h.going,h.self,⟨h.pair.fit,h.pair.room,h.pair.fr,h.pair.cs,h.pair.heap.rely h.ll r h.pair.heap.floor⟩,h.ll.rely h.pair.heap r,h.o.rely d r⟩
def LCtx.rZ.rely{c:LCtx}{kd:CallKind}(h:c.rZ X Z G k kd w)(f:dP.bP k=G.bP k)(r:jV Z G dP (Z.wk k) bq w aG)(g:∀b d,c.ρ.r b d->d<bq):c.rZ X Z dP k kd aG:=
 ⟨h.going,h.self,h.zB,h.fr,h.some,h.cs,h.fit,h.room,h.heap.rely h.ll r g,h.ll.rely h.heap r,h.o.rely f r⟩
def RCtx.Ok.rely{c:RCtx}(h:c.Ok X Z G k w)(g:dP.bP k=G.bP k)(r:jV Z G dP (Z.wk k) bq w aG)(j:∀b d,c.ρ.r b d->d<bq)(f:∀(i:Nat) own b o,c.M[i]?=some (own,b,o)->b<bq):c.Ok X Z dP k aG:=
 ⟨h.l.rely g r j,h.on,h.mem.rely h.own r λn own b o e=>.inl (f n own b o e),h.own.rely h.mem r,h.vH,h.run,h.bY,h.ad,cL h.dh r.size⟩
def h0.Ok.rely{c:h0}{to:Nat}(h:c.Ok X Z G k to w)(g:dP.bP k=G.bP k)(r:jV Z G dP (Z.wk k) bq w aG)(j:∀b d,c.ρ.r b d->d<bq)(f:∀(i:Nat) own b o,c.M[i]?=some (own,b,o)->b<bq):c.Ok X Z dP k to aG:=⟨h.r.rely g r j f,h.on,h.run⟩
def kA.rely{v:Nat×Nat}(h:kA Z G i w v)(r:e0 Z G dP i w aG):kA Z dP i aG v:=by obtain⟨⟨l,f,j⟩,c,g⟩:=h;have d:=bu f;exact⟨⟨l,(r.keep _ d c.1 c.2.1 c.2.2 (.inl g) (.inl d)).trans f,j⟩,c,(r.b1 _ d).trans g⟩
def fz.rely{g:Goroutine}{s:ck}{bt:gQ X.Q}(h:fz X Z G k g w s bt)(i:dP.bP k=G.bP k)(z:dP.cy k=G.cy k)(r:e0 Z G dP (Z.wk k) w aG)(j:g'.frame=g.frame)(l:g'.callers=g.callers)(m:g'.dying=g.dying)(B:g.status=.finished->g'.status=.finished):fz X Z dP k g' aG s bt:=by
 cases h with
 |un bb bt=>exact .un bb bt
 |out gA ok h I L y=>exact .out gA ok (by rw[i];exact h.rely r j l m) I (λn own b o e=>by rw[i]at e;rw[r.b1 b (gL h.mem e)];exact L n own b o e) λv e=>(y v (by rw[z]at e;exact e)).rely r
 |gone gA F y=>exact .gone gA (B F) (by rw[z];exact y.rely r)
 |lift c H D E h d=>exact .lift c (j.trans H) (l.trans D) (m.trans E) (h.rely i r) d
 |fx c kd bG bH df M rem bq ok p u q C h d f=>exact .fx c kd bG bH df M rem bq ok p u (cL q r.size) C (h.rely i r h.heap.floor) d (f.rely r j l m)
 |dG c ok K h d f=>exact .dG c ok K (h.rely i r h.l.heap.floor λn own b o e=>gL h.mem e) d (f.rely r j l m)
 |lock c h d f=>exact .lock c (h.rely i r h.r.l.heap.floor λn own b o e=>gL h.r.mem e) d (f.rely r j l m)
 |dB c bq ok p u J q h d f=>exact .dB c bq ok p u J (cL q r.size) (h.rely i r h.r.l.heap.floor λn own b o e=>gL h.r.mem e) d (f.rely r j l m)
 |iu c h d f=>exact .iu c (h.rely i r h.r.l.heap.floor λn own b o e=>gL h.r.mem e) d (f.rely r j l m)
end
section
variable{Z:Stat}{G aB:bX}{t:Trace}{B gX:Nat}
def hy(Z:Stat)(G:bX)(g:Nat):Prop:=g=0\/(∃k,g=Z.wk k/\(G.s k).c≠.un)\/(g=Z.N+2/\G.k≠.un)
structure e5(Z:Stat)(G:bX)(t:Trace)(B:Nat):Prop where
 dy:fp (pl Z G) t (eX Z G) B
 st:∀g,hy Z G g->Started (pl Z G) t g
 uQ:∀k,(G.s k).eC=true->iH (pl Z G) t (Z.wk k)
 d0:Deaf t 0=j1 G.l
 qU:∀k,Deaf t (Z.wk k)=(G.s k).deaf
 oJ:Deaf t (Z.N+2)=G.k.deaf
 above:∀j,Z.N+2<j->Deaf t j=0
 told:∀k,(G.s k).da=true->Told (pl Z G) (· = Z.W) t (Z.wk k)
 shut:G.k.shut=true->Shut (pl Z G) Z.ch t (Z.N+2)
 said:G.k.said=false->∀i a,Z.cT<=i->touchAt t i=some a->a.kind≠.said
 nH:∀(i:Nat) op,Z.cT<=i->t[i]?=some op->op.act.touch?≠none->hy Z G op.g
 over:∀i g,i<Z.cT->t.g? i=some g->g≠0->t.counts i->∃j,t.g? j=some 0/\HappensBefore t i j
structure Apart(Z:Stat)(G:bX):Prop where
 bM:Z.z.T≠Z.W
 rC:Z.z.T≠Z.ch
 wc:Z.W≠Z.ch
 pos:0<Z.N
 xF:∀b,Z.aH b->b≠Z.z.T/\b≠Z.W/\b≠Z.ch/\G.b1 b=Z.N+3/\∀g,¬G.ro g b
 Fi:∀g,¬G.ro g Z.W/\¬G.ro g Z.ch
def Apart.lU(A:Apart Z G):qu (pl Z G) where
 bK:=by
  rintro l bO rfl h;obtain⟨c,f,m,n,i⟩:=A.xF _ h;refine⟨?_,?_,λg j=>i g j.1⟩
  .rintro(⟨o,e,_⟩|⟨a,e,d⟩|e)
   .injection e with e;rw[e]at c;exact c rfl
   .injection e with e;rw[e]at f;exact f d
   .cases e
  .rintro⟨o,e,_⟩
   injection e with e;rw[e]at c;exact c rfl
 Fy:=by rintro l bO rfl h;exact(A.xF _ h).2.2.2.1
 oi:=by
  rintro l ⟨o,rfl,p⟩ (⟨q,e,c,f⟩|⟨a,e,d⟩|e)
  .injection e with e;injection e with _ e;omega
  .injection e with e;rw[<-e]at d;exact A.bM d
  .cases e
 x1:=by rintro l ⟨o,rfl,_⟩;rfl
 A7:=by rintro l (⟨o,rfl,_⟩|⟨a,rfl,_⟩|rfl)<;>rfl
structure Grow(G aB:bX)(B:Nat):Prop where
 b1:∀b,b<B->aB.b1 b=G.b1 b
 ro:aB.ro=G.ro
def Hv(h:op.act.low B){a:Touch}(c:op.act.touch?=some a)(hm:a.loc.isMemory=true):blk a.loc<B:=by
 obtain⟨g,fn,pos,act⟩:=op;dsimp only at h c;cases act with
 |access e=>
  cases c;have d:e.loc.low B:=h;generalize e.loc=l at *;cases l with
  |cell a=>exact d
  |obj r=>exact d
  |_=>cases hm
 |mark m=>
  cases m with
  |read a=>cases c;exact h
  |write a=>cases c;exact h
  |_=>cases c
 |_=>cases c
def fp.oa{s:qI}(h:fp (pl Z G) t s B)(r:Grow G aB B):fp (pl Z aB) t s B:=by
 refine⟨h.clean,h.size,h.hX,λi op a j d c hm f g=>?_,?_,h.seen⟩
 .have:=h.own i op a j d c hm f g
  have l:=Hv (h.seen op (Array.mem_of_getElem? d)) c hm;refine this.imp (λx=>x.trans (r.b1 _ l).symm) λx=>⟨x.1,?_⟩
  obtain⟨_,m,n⟩:=x;refine⟨?_,n⟩;rw[r.ro];exact m
 .have:=h.cz
  cases s<;>exact this
def Started.oa(h:Started (pl Z G) t g)(r:Grow G aB B):Started (pl Z aB) t g:=
 ⟨h.old,λl c=>h.ro l ⟨by have:=c.1;rw[r.ro]at this;exact this,c.2⟩⟩
inductive eF where
 |main|dN (k:Bool)|eu
def eF.num(Z:Stat):eF->Nat
 |.main=>0
 |.dN k=>Z.wk k
 |.eu=>Z.N+2
def eF.deaf(G:bX):eF->Nat
 |.main=>j1 G.l
 |.dN k=>(G.s k).deaf
 |.eu=>G.k.deaf
def eF.ig(G:bX):eF->Prop
 |.main=>True
 |.dN k=>(G.s k).c≠.un
 |.eu=>G.k≠.un
def Bw{Z:Stat}{a b:Bool}(h:Z.wk a=Z.wk b):a=b:=by cases a<;>cases b<;>simp[Stat.wk]at h<;>rfl
def eF.xb(hp:0<Z.N){a b:eF}(h:a.num Z=b.num Z):a=b:=by
 cases a<;>cases b<;>simp only[eF.num]at h
 .rfl
 .rename_i k;cases k<;>simp[Stat.wk]at h<;>omega
 .omega
 .rename_i k;cases k<;>simp[Stat.wk]at h<;>omega
 .rw[Bw h]
 .rename_i k;cases k<;>simp[Stat.wk]at h
 .omega
 .rename_i k;cases k<;>simp[Stat.wk]at h
 .rfl
def eF.z7(Z:Stat)(a:eF):a.num Z<=Z.N+2:=by
 cases a with
 |main=>exact Nat.zero_le _
 |dN k=>cases k<;>simp[eF.num,Stat.wk]
 |eu=>exact bg
def e5.tT(h:e5 Z G t B)(a:eF):Deaf t (a.num Z)=a.deaf G:=by
 cases a with
 |main=>exact h.d0
 |dN k=>exact h.qU k
 |eu=>exact h.oJ
def eF.zQ{a:eF}(h:a.ig G):hy Z G (a.num Z):=by
 cases a with
 |main=>exact .inl rfl
 |dN k=>exact .inr (.inl ⟨k,rfl,h⟩)
 |eu=>exact .inr (.inr ⟨rfl,h⟩)
def n0:List Event->Bool
 | []=>true
 |e::l=>if e.loc=.mark .enable then l.all (λe=>((MemAct.ofEvent e).touch?).isNone)else n0 l
def MI{j:Nat}(h:(MemOp.ofEvents g fn pos es)[j]?=some op):∃e,es[j]?=some e/\op={g,fn,pos,act:=.ofEvent e}:=by rw[ofEvents_eq,Array.getElem?_map]at h;obtain⟨e,c,d⟩:=Option.map_eq_some_iff.1 h;exact⟨e,c,d.symm⟩
def Mw{l:List Event}(d:n0 l=true)(hd:0<Deaf t g){j:Nat}{e:Event}(he:l[j]?=some e)(f:(MemAct.ofEvent e).touch?≠none):¬(t++MemOp.ofEvents g fn pos l.toArray).heard (t.size+j):=by
 have key:∀(l:List Event) (t:Trace),n0 l=true->0<Deaf t g->∀(j:Nat) (e:Event),l[j]?=some e->(MemAct.ofEvent e).touch?≠none->0<(t++MemOp.ofEvents g fn pos l.toArray).deaf g (t.size+j):=by
  intro l;induction l with
  |nil=>intro t _ _ j e he;simp at he
  |cons a l q=>
   intro t d hd j e he f;cases j with
   |zero=>rw[Nat.add_zero,deaf_old bg];exact hd
   |succ j=>
    rw[List.getElem?_cons_succ]at he;unfold n0 at d;split at d
    .rename_i o
     have:=List.all_eq_true.1 d e (hk he);exact absurd (by simpa using this) f
    .rename_i o
     have i:t++MemOp.ofEvents g fn pos (a::l).toArray=(t++#[{g,fn,pos,act:=.ofEvent a}])++MemOp.ofEvents g fn pos l.toArray:=by rw[ofEvents_eq,ofEvents_eq];apply Array.ext';simp
     have n:0<Deaf (t++#[{g,fn,pos,act:=.ofEvent a}]) g:=by
      rw[Deaf_push];unfold deafStep;split
      .split<;>omega
      .rename_i y
       exfalso;obtain⟨loc,wr,r⟩:=a;cases loc with
       |mark m=>cases m<;>simp_all [MemAct.ofEvent]
       |obj c=>cases wr<;>cases r<;>simp_all [MemAct.ofEvent]
       |_=>simp_all [MemAct.ofEvent]
      .exact hd
     have:=q _ d n j e he f;rw[i];have u:(t++#[({g,fn,pos,act:=.ofEvent a}:MemOp)]).size+j=t.size+(j+1):=cH;rw[u]at this;exact this
 rintro⟨g',h,w⟩;have p:(t++MemOp.ofEvents g fn pos l.toArray)[t.size+j]?=some {g,fn,pos,act:=.ofEvent e}:=by rw[Array.getElem?_append_right U,ofEvents_eq];simp[he]
 have:g'=g:=by simp[Trace.g?,p]at h;exact h.symm
 subst this;have:=key l t d hd j e he f;omega
structure vq(Z:Stat)(G:bX)(t:Trace)(i B:Nat)(e:Event):Prop where
 low:(MemAct.ofEvent e).low B
 ok:∀b,(MemAct.ofEvent e).touch?=some b->b.loc.isMemory=true->vu (pl Z G) i b\/((pl Z G).ik b.loc/\(eX Z G=.written i\/(eX Z G=.done/\b.write=false/\iH (pl Z G) t i)))
 flag:e.loc=.cell ⟨Z.z.T,4,none⟩->e.write=false
def _root_.Go.aO.iH.MN{L:qE}(h:iH L t g)(y:MemOp)(i:∀a,y.act.touch?=some a->¬L.ik a.loc):iH L (t++#[y]) g:=
 h.app λop c a d f _=>by simp at c;subst c;exact absurd f (i a d)
def e5.core(A:Apart Z aB)(h:e5 Z G t B)(r:Grow G aB B)(cl:eF)(aa:cl.ig G){l:List Event}(au:Z.cT<=t.size)(av:fp (pl Z aB) (t++MemOp.ofEvents (cl.num Z) fn pos l.toArray) (eX Z aB) gX)(aj:∀e∈l,∀b,(MemAct.ofEvent e).touch?=some b->b.loc.isMemory=true->vu (pl Z aB) (cl.num Z) b\/(pl Z aB).ik b.loc)(C:∀a:eF,a.ig aB↔a.ig G)(V:cl.deaf aB=deafBehind (cl.deaf G) l.toArray)(W:∀a:eF,a≠cl->a.deaf aB=a.deaf G)(am:∀k,(aB.s k).eC=true->(G.s k).eC=true\/iH (pl Z aB) (t++MemOp.ofEvents (cl.num Z) fn pos l.toArray) (Z.wk k))(R:∀e∈l,∀b,(MemAct.ofEvent e).touch?=some b->(pl Z aB).ik b.loc->b.write=true->∀k,(aB.s k).eC=false)(ap:∀k,(aB.s k).da=true->(G.s k).da=true/\(cl=.dN k->(n0 l=true/\(0<cl.deaf G\/∀e∈l,(MemAct.ofEvent e).touch?=none))/\∀e∈l,∀b,(MemAct.ofEvent e).touch?=some b->(∃bO,b.loc=.cell bO/\bO.block=Z.W)/\b.kind=.atomic))(aq:aB.k.shut=true->G.k.shut=true/\(cl=.eu->∀e∈l,(MemAct.ofEvent e).touch?=none))(al:∀e∈l,∀b,(MemAct.ofEvent e).touch?=some b->b.kind=.said->G.k.said=false/\aB.k.said=true)(ao:aB.k.said=false->G.k.said=false):
 e5 Z aB (t++MemOp.ofEvents (cl.num Z) fn pos l.toArray) gX:=by
 have hu:∀op∈MemOp.ofEvents (cl.num Z) fn pos l.toArray,op.g=cl.num Z:=λop m=>by obtain⟨e,_,rfl⟩:=Go.Conc.mem_ofEvents m;rfl
 have ar:∀g,hy Z G g->Started (pl Z aB) t g:=λg f=>(h.st g f).oa r
 have hm:hy Z G (cl.num Z):=eF.zQ aa;have I:∀g,hy Z aB g↔hy Z G g:=by
  intro g;constructor
  .rintro(rfl|⟨k,rfl,c⟩|⟨rfl,c⟩)
   .exact .inl rfl
   .exact .inr (.inl ⟨k,rfl,(C (.dN k)).1 c⟩)
   .exact .inr (.inr ⟨rfl,(C .eu).1 c⟩)
  .rintro(rfl|⟨k,rfl,c⟩|⟨rfl,c⟩)
   .exact .inl rfl
   .exact .inr (.inl ⟨k,rfl,(C (.dN k)).2 c⟩)
   .exact .inr (.inr ⟨rfl,(C .eu).2 c⟩)
 have other:∀g,g≠cl.num Z->Deaf (t++MemOp.ofEvents (cl.num Z) fn pos l.toArray) g=Deaf t g:=λg f=>Deaf_other t (Ne.symm f) _ hu
 have D:∀a:eF,Deaf (t++MemOp.ofEvents (cl.num Z) fn pos l.toArray) (a.num Z)=a.deaf aB:=by
  intro a;by_cases d:a=cl
  .subst d;rw[Deaf_own,h.tT,V]
  .rw[other _ (λe=>d (eF.xb A.pos e)),h.tT,W a d]
 have o6:∀op∈MemOp.ofEvents (cl.num Z) fn pos l.toArray,∀b,op.act.touch?=some b->b.loc.isMemory=true->vu (pl Z aB) (cl.num Z) b\/(pl Z aB).ik b.loc:=by intro op m b n S;obtain⟨e,he,rfl⟩:=Go.Conc.mem_ofEvents m;exact aj e (by simpa using he) b n S
 refine⟨av,λg f=>?_,λk c=>?_,D .main,λk=>D (.dN k),D .eu,λj p=>?_,λk c=>?_,λc=>?_,λc i a o d=>?_,λi op o H y=>?_,λi g o f af T=>?_⟩
 .refine(ar g ((I g).1 f)).app (λop m a d u P ag ah=>?_) au
  rcases o6 op m a d P.2.1 with(⟨q,_⟩|⟨_,_,_,hx⟩|⟨_,_,_,hx⟩)|hx
  .exact absurd q ag
  .by_cases K:g=cl.num Z
   .rw[hu op m,K]
   .exact absurd P (hx u g K)
  .rw[hx]at u;cases u
  .exact absurd hx ah
 .rcases am k c with hk0|hk0
  .have q:iH (pl Z aB) t (Z.wk k):=h.uQ k hk0
   refine q.app λop m a d n u=>?_
   obtain⟨e,he,rfl⟩:=Go.Conc.mem_ofEvents m;have:=R e (by simpa using he) a d n u k;rw[c]at this;cases this
  .exact hk0
 .have hle:=cl.z7 Z
  rw[other j U,h.above j p]
 .obtain⟨E,F⟩:=ap k c
  have y:Told (pl Z aB) (· = Z.W) t (Z.wk k):=h.told k E;by_cases L:cl=.dN k
  .obtain⟨⟨Y,hdf⟩,J⟩:=F L
   refine y.app λj op a H f d hm=>?_
   obtain⟨e,he,rfl⟩:=MI H;have w:l[j]?=some e:=by simpa using he
   refine⟨(J e (hk w) a d).1,(J e (hk w) a d).2,?_⟩;rcases hdf with hdf|hdf
   .exact Mw Y (by rw[h.tT];exact hdf) w (by rw[d];simp)
   .rw[hdf e (hk w)]at d;cases d
  .refine y.other λop m f=>?_
   rw[hu op m]at f;exact absurd (eF.xb A.pos (a:=cl) (b:=.dN k) f) L
 .obtain⟨E,F⟩:=aq c
  have q:Shut (pl Z aB) Z.ch t (Z.N+2):=h.shut E;refine q.app λop m f=>?_
  rw[hu op m]at f;obtain⟨e,he,rfl⟩:=Go.Conc.mem_ofEvents m;exact F (eF.xb A.pos (a:=cl) (b:=.eu) f) e (by simpa using he)
 .obtain⟨x,hx,Q⟩:=touch_of d
  rcases getElem?_append_cases hx with⟨_,aw⟩|⟨_,ax⟩
  .exact h.said (ao c) i a o (by rw[touchAt_of aw];exact Q)
  .obtain⟨e,he,rfl⟩:=Go.Conc.mem_ofEvents ax
   intro ae;have:=(al e (by simpa using he) a Q ae).2;rw[c]at this;cases this
 .rcases getElem?_append_cases H with⟨_,ai⟩|⟨_,ak⟩
  .exact(I _).2 (h.nH i op o ai y)
  .rw[hu op ak];exact(I _).2 hm
 .have M:i<t.size:=U
  have X:t.g? i=some g:=by simpa [Trace.g?,getElem?_append_old M]using f
  obtain⟨j,p,n⟩:=h.over i g o X af ((counts_old M).1 T);have ad:j<t.size:=by unfold Trace.g? at p;obtain⟨z,ay,_⟩:=Option.map_eq_some_iff.1 p;exact lt_size_of_getElem? ay
  exact⟨j,by simpa [Trace.g?,getElem?_append_old ad]using p,hb_app _ n⟩
def e5.app(A:Apart Z aB)(h:e5 Z G t B)(r:Grow G aB B)(z:B<=gX)(cl:eF)(p:cl.ig G){l:List Event}(y:fp (pl Z aB) t (eX Z aB) B)(j:∀e∈l,vq Z aB t (cl.num Z) gX e)(V:∀a:eF,a.ig aB↔a.ig G)(D:cl.deaf aB=deafBehind (cl.deaf G) l.toArray)(E:∀a:eF,a≠cl->a.deaf aB=a.deaf G)(M:∀k,(aB.s k).eC=true->(G.s k).eC=true\/iH (pl Z aB) (t++MemOp.ofEvents (cl.num Z) fn pos l.toArray) (Z.wk k))(C:∀e∈l,∀b,(MemAct.ofEvent e).touch?=some b->(pl Z aB).ik b.loc->b.write=true->∀k,(aB.s k).eC=false)(Q:∀k,(aB.s k).da=true->(G.s k).da=true/\(cl=.dN k->(n0 l=true/\(0<cl.deaf G\/∀e∈l,(MemAct.ofEvent e).touch?=none))/\∀e∈l,∀b,(MemAct.ofEvent e).touch?=some b->(∃bO,b.loc=.cell bO/\bO.block=Z.W)/\b.kind=.atomic))(S:aB.k.shut=true->G.k.shut=true/\(cl=.eu->∀e∈l,(MemAct.ofEvent e).touch?=none))(u:∀e∈l,∀b,(MemAct.ofEvent e).touch?=some b->b.kind=.said->G.k.said=false/\aB.k.said=true)(P:aB.k.said=false->G.k.said=false):
 e5 Z aB (t++MemOp.ofEvents (cl.num Z) fn pos l.toArray) gX:=by
 have hu:∀op∈MemOp.ofEvents (cl.num Z) fn pos l.toArray,op.g=cl.num Z:=λop d=>by obtain⟨e,_,rfl⟩:=Go.Conc.mem_ofEvents d;rfl
 have w:∀g,hy Z G g->Started (pl Z aB) t g:=λg H=>(h.st g H).oa r
 have hm:hy Z G (cl.num Z):=eF.zQ p;have F:=A.lU;have T:fp (pl Z aB) (t++MemOp.ofEvents (cl.num Z) fn pos l.toArray) (eX Z aB) gX:=by
  refine(y.mono z).app F (by have:=cl.z7 Z;show _≠Z.N+3;omega) (w _ hm) hu ?_ ?_ ?_ ?_
  .intro op d b f n
   obtain⟨e,he,rfl⟩:=Go.Conc.mem_ofEvents d;exact(j e (by simpa using he)).ok b f n
  .intro op d b f J L i a o K q
   obtain⟨e,he,rfl⟩:=Go.Conc.mem_ofEvents d;have R:=(u e (by simpa using he) b f J).1;by_cases I:i<Z.cT
   .rcases(w _ hm).old i a I o (by rw[K];exact F.A7 _ L)with k|⟨⟨bO,X,Y⟩,k⟩
    .exact k
    .rw[q]at k;cases k
   .exact absurd q (h.said R i a U o)
  .intro op d sync aa
   obtain⟨e,he,rfl⟩:=Go.Conc.mem_ofEvents d;have:e.loc=.cell ⟨Z.z.T,4,none⟩/\e.write=true:=by
    obtain⟨loc,wr,W⟩:=e;cases loc with
    |obj c=>cases wr<;>cases W<;>simp_all [MemAct.ofEvent]
    |mark m=>simp_all [MemAct.ofEvent]
    |_=>simp_all [MemAct.ofEvent,pl]
   have k:=(j e (by simpa using he)).flag this.1;rw[this.2]at k;cases k
  .intro op d
   obtain⟨e,he,rfl⟩:=Go.Conc.mem_ofEvents d;exact(j e (by simpa using he)).low
 exact e5.core A h r cl p y.size T (λe he b f n=>((j e he).ok b f n).imp id And.left) V D E M C Q S u P
def e5.raise(A:Apart Z aB)(h:e5 Z G t B)(r:Grow G aB B)(cl:eF)(o:cl.ig G)(w:eX Z G=.written (cl.num Z))(y:eX Z aB=.done)(z:Z.z.T<B)(J:∀a:eF,a.ig aB↔a.ig G)(m:cl.deaf G=0)(n:∀a:eF,a.deaf aB=a.deaf G)(E:∀k,(aB.s k).eC=true->cl=.dN k)(p:∀k,(aB.s k).da=true->(G.s k).da=true/\cl≠.dN k)(q:aB.k.shut=true->G.k.shut=true/\cl≠.eu)(F:aB.k.said=false->G.k.said=false):
 e5 Z aB (t++MemOp.ofEvents (cl.num Z) fn pos #[⟨.cell ⟨Z.z.T,4,none⟩,true,true⟩]) B:=by
 have hm:hy Z G (cl.num Z):=eF.zQ o;have f:(pl Z aB).jy (.cell (pl Z aB).kX):=.inl ⟨4,rfl,U,U⟩;have e:MemOp.ofEvents (cl.num Z) fn pos #[⟨.cell ⟨Z.z.T,4,none⟩,true,true⟩]=#[{g:=cl.num Z,fn,pos,act:=.access ⟨.cell ⟨Z.z.T,4,none⟩,true,true⟩}]:=by rw[ofEvents_eq];simp[MemAct.ofEvent]
 have i:=h.dy.oa r;rw[w]at i;have u:Started (pl Z aB) t (cl.num Z):=(h.st _ hm).oa r;have D:Deaf t (cl.num Z)=0:=by rw[h.tT];exact m
 have I:fp (pl Z aB) (t++MemOp.ofEvents (cl.num Z) fn pos #[⟨.cell ⟨Z.z.T,4,none⟩,true,true⟩]) (eX Z aB) B:=by rw[e,y];exact i.raise A.lU u ⟨rfl,rfl⟩ D f z
 refine e5.core (l:=[⟨.cell ⟨Z.z.T,4,none⟩,true,true⟩]) A h r cl o i.size I (λe he b d K=>?_) J ?_ (λa _=>n a) (λk c=>.inr ?_) (λe he b d H L k=>?_) (λk c=>⟨(p k c).1,λj=>absurd j (p k c).2⟩) (λc=>⟨(q c).1,λj=>absurd j (q c).2⟩) (λe he b d c=>?_) F
 .simp at he;subst he
  cases d;exact .inl (.inl ⟨f,aF⟩)
 .rw[n,m];rfl
 .obtain rfl:=E k c
  rw[e];exact(i.writer A.lU u).MN _ λa C d=>by cases C;exact(A.lU.oi _ d f).elim
 .simp at he;subst he
  cases d;exact(A.lU.oi _ H f).elim
 .simp at he;subst he
  cases d;cases c
end
section
variable{X:et}{Z:Stat}{G aB:bX}{u aC w:World}{t bh:Trace}{B gX:Nat}
def gY(Z:Stat)(G:bX)(i b:Nat):Prop:=(b≠Z.z.T/\b≠Z.W/\b≠Z.ch)/\G.b1 b=i/\∀h,h≠i->¬G.ro h b
structure vt(Z:Stat)(G:bX):Prop where
 ro:∀k b,(b=Z.z.T\/b=Z.z.F\/b=Z.z.R\/b=Z.z.gx\/b=Z.z.gy\/b=Z.z.Fr)->G.ro (Z.wk k) b
 Ax:∀k b,(b=Z.cg\/b=Z.bc)->G.ro (Z.wk k) b
 Fj:G.ro (Z.N+2) Z.cg
 gB:∀b,(b=Z.z.F\/b=Z.z.R\/b=Z.z.gx\/b=Z.z.gy\/b=Z.z.Fr)->(b≠Z.z.T/\b≠Z.W/\b≠Z.ch)/\b<Z.aL.heap.size
 hF:Z.aL.heap[Z.z.F]?=some (.cells #[ah 2,ah 1] 3 (0,0))
 c5:Z.aL.heap[Z.z.R]?=some (.cells #[ah 0,sl Z.z.gx 2,ah 2,sl Z.z.gy 2] 27 (0,0))
 kI:Z.aL.heap[Z.z.gx]?=some (.cells #[ah 1,ah 2] 3 (0,0))
 kk:Z.aL.heap[Z.z.gy]?=some (.cells #[ah 3,ah 1] 3 (0,0))
 lX:Z.aL.heap[Z.z.Fr]?=some (.cells #[ah 3] 3 (0,0))
 wD:aK.globals.size<=Z.z.T/\aK.globals.size<=Z.z.F
def vt.grow(h:vt Z G)(d:∀h b,G.ro h b->aB.ro h b):vt Z aB:=⟨λk b c=>d _ _ (h.ro k b c),λk b c=>d _ _ (h.Ax k b c),d _ _ h.Fj,h.gB,h.hF,h.c5,h.kI,h.kk,h.lX,h.wD⟩
structure Base(Z:Stat)(G:bX)(w:World)(t:Trace):Prop where
 ww:ea Z G w
 b9:g5 G
 ap:Apart Z G
 dy:e5 Z G t w.heap.size
 oc:∀h b,G.ro h b->b<w.heap.size
 s0:∀b,Z.aH b->b<w.heap.size
 hold:∀b,b<Z.aL.heap.size->b≠Z.z.T->G.b1 b=Z.N+3\/(G.b1 b=0/\∃h,h≠0/\G.ro h b)
 old:Z.aL.heap.size<=w.heap.size
 o4:Z.aL.heap.size<=Z.W/\Z.aL.heap.size<=Z.ch
 iA:vt Z G
 rn:∀h b,h≠0->G.ro h b->G.b1 b=0
 cfg:∀k,(G.bP k).W=Z.W/\(G.bP k).T=Z.z.T/\(G.bP k).ch=Z.ch/\(G.bP k).cg=Z.cg/\(G.bP k).i=(if k then 1 else 0)
def Base.Eh(h:Base Z G w t)(b:Nat)(l:b<Z.aL.heap.size)(g:b≠Z.z.T)(i:Nat)(o:i<=Z.N+2):¬gY Z G i b:=by
 rintro⟨_,d,f⟩;rcases h.hold b l g with c|⟨c,j,m,n⟩
 .omega
 .obtain rfl:i=0:=d.symm.trans c
  exact f j m n
def ea.at(h:ea Z G w)(k:Nat):ea Z G (w.at k):=⟨h.T,h.W,h.ch,h.old,h.calm.trans (Calm.at w k)⟩
def Base.at(h:Base Z G w t)(k:Nat):Base Z G (w.at k) t:=⟨h.ww.at k,h.b9,h.ap,h.dy,h.oc,h.s0,h.hold,h.old,h.o4,h.iA,h.rn,h.cfg⟩
def e0.at(Z:Stat)(G:bX)(i:Nat)(h:ea Z G w)(k:Nat):e0 Z G G i w (w.at k):=
 ⟨bg,λ_ _=>rfl,λ_ _ h=>h,λ_ _ _ h=>.inl h,λ_ _ _ _ _ _ _=>rfl,⟨_,_,_,_,h.T⟩⟩
structure Alike(G aB:bX):Prop where
 role:∀k,(aB.s k).role=(G.s k).role
 cR:∀k,(aB.s k).cR=(G.s k).cR
 da:∀k,(aB.s k).da=(G.s k).da
 deaf:∀k,(aB.s k).deaf=(G.s k).deaf
 eC:∀k,(aB.s k).eC=true->(G.s k).eC=true
 un:∀k,(aB.s k).c=.un↔(G.s k).c=.un
 Lh:aB.k.ph=G.k.ph
 Ld:aB.k.deaf=G.k.deaf
 Lc:G.k.bound<=aB.k.bound
 zE:aB.k.shut=G.k.shut
 Li:aB.k.said=G.k.said
 Dw:aB.k=.un↔G.k=.un
 km:24<=aB.l↔24<=G.l
 zG:aB.l<26↔G.l<26
 zH:aB.l<27↔G.l<27
 zF:17<=aB.l
 DC:dF aB.l=dF G.l
 Lq:j1 aB.l=j1 G.l
 mu:aB.mu=G.mu
 ms:aB.ms=G.ms
 aY:aB.aY=G.aY
 bc:aB.bc=G.bc
 v:aB.v=G.v
 m:aB.m=G.m
 ro:aB.ro=G.ro
 bP:aB.bP=G.bP
def Alike.ee(h:Alike G aB):eX Z aB=eX Z G:=by unfold eX;rw[h.aY,h.role,h.role]
def Alike.agree(h:Alike G aB)(a:g5 G):g5 aB where
 once:=by rw[h.role,h.role,h.mu,h.ms,h.aY,h.bc];exact a.once
 wg:=by have e:decide (24<=aB.l)=decide (24<=G.l):=decide_eq_decide.2 h.km;rw[e,h.cR,h.cR,h.Lh,h.v,h.m];exact a.wg
 bound:=by rw[h.cR,h.cR];exact cL a.bound h.Lc
 cnt:=by rw[h.DC,h.da,h.da];exact a.cnt
 l9:=by rw[h.zG,h.un];exact a.l9
 mS:=by rw[h.zH,h.Dw];exact a.mS
 pG:=λe=>a.pG ((h.un false).1 e)
 bY:=h.zF
 eC:=λk e=>by rw[h.aY];exact a.eC k (h.eC k e)
def Alike.born(h:Alike G aB)(a:eF):a.ig aB↔a.ig G:=by
 cases a with
 |main=>exact Iff.rfl
 |dN k=>exact not_congr (h.un k)
 |eu=>exact not_congr h.Dw
def Alike.Dp(h:Alike G aB)(a:eF):a.deaf aB=a.deaf G:=by
 cases a with
 |main=>exact h.Lq
 |dN k=>exact h.deaf k
 |eu=>exact h.Ld
inductive lx(Z:Stat)(G:bX)(t:Trace)(i B:Nat):Event->Prop
 |mem {loc:Loc} {wr hX:Bool} (hm:loc.isMemory=true) (hb:blk loc<B) (af:hX=true->∃a,loc=.cell a) (I:blk loc≠Z.W/\blk loc≠Z.ch) (a':blk loc=Z.z.T->loc=.obj Z.z.T\/∃o,loc=.cell ⟨Z.z.T,o,none⟩/\o<4)
  (az:gY Z G i (blk loc)\/((G.ro i (blk loc)\/(G.b1 (blk loc)=i/\blk loc≠Z.z.T))/\wr=false)):lx Z G t i B ⟨loc,wr,hX⟩
 |mark {m:Mark} (h:m=.noRoom\/∃f,m=.extern f):lx Z G t i B ⟨.mark m,false,true⟩
 |cz {o:Nat} (h:13<=o) (hb:Z.z.T<B) (hd:eX Z G=.done) (af:iH (pl Z G) t i):lx Z G t i B ⟨.cell ⟨Z.z.T,o,none⟩,false,false⟩
def L8{loc:Loc}{wr c:Bool}(hm:loc.isMemory=true)(d:c=true->∃a,loc=.cell a):MemAct.ofEvent ⟨loc,wr,c⟩=.access ⟨loc,wr,c⟩:=by
 cases loc with
 |cell a=>rfl
 |obj r=>
  cases c with
  |true=>obtain⟨a,e⟩:=d rfl;cases e
  |false=>cases wr<;>rfl
 |_=>cases hm
def LU{loc:Loc}{B:Nat}(hm:loc.isMemory=true)(h:blk loc<B):loc.low B:=by
 cases loc with
 |cell a=>exact h
 |obj r=>exact h
 |_=>cases hm
def lx.zb{e:Event}(A:Apart Z G)(h:lx Z G t i B e):vq Z G t i B e/\(∀b,(MemAct.ofEvent e).touch?=some b->(pl Z G).ik b.loc->b.write=false)/\(∀b,(MemAct.ofEvent e).touch?=some b->b.kind≠.said)/\(e.loc≠.mark .disable/\e.loc≠.mark .enable):=by
 cases h with
 |@mem loc wr E hm c p q n g=>
  have j:=L8 (wr:=wr) hm p;have l:¬(pl Z G).jy loc:=by
   rintro(⟨o,rfl,w,_⟩|⟨a,rfl,y⟩|rfl)
   .rcases n rfl with e|⟨D,e,_⟩
    .cases e
    .injection e with e;injection e with _ e;omega
   .exact q.1 y
   .exact q.2 rfl
  have m:¬(pl Z G).ik loc:=by
   rintro⟨o,rfl,w⟩;rcases n rfl with e|⟨D,e,_⟩
   .cases e
   .injection e with e;injection e with _ e;omega
  refine⟨⟨by rw[j];exact LU hm c,λb d _=>?_,λe=>?_⟩,λb d=>?_,λb d=>?_,?_⟩
  .rw[j]at d
   cases d;refine .inl ?_;rcases g with g|⟨g|⟨g,F⟩,r⟩
   .exact .inr (.inl ⟨l,m,g.2.1,λ_ h z C=>g.2.2 h z C.1⟩)
   .exact .inr (.inr ⟨l,m,⟨g,hm,n⟩,r⟩)
   .exact .inr (.inl ⟨l,m,g,λu=>by rw[r]at u;cases u⟩)
  .have e:loc=.cell ⟨Z.z.T,4,none⟩:=e
   subst e;exact absurd (.inl ⟨4,rfl,U,U⟩) l
  .rw[j]at d;cases d;exact λk=>absurd k m
  .rw[j]at d;cases d;cases E<;>simp
  .cases loc<;>first|(cases hm;done)|exact⟨aF,aF⟩
 |mark h=>
  rcases h with rfl|⟨f,rfl⟩
  .exact⟨⟨trivial,λb c=>((by cases c)),λe=>((by cases e))⟩,λb c=>((by cases c)),λb c=>((by cases c)),aF,aF⟩
  .exact⟨⟨trivial,λb c=>((by cases c)),λe=>((by cases e))⟩,λb c=>((by cases c)),λb c=>((by cases c)),aF,aF⟩
 |@cz o h c hd p=>
  refine⟨⟨c,λb d _=>?_,λ_=>rfl⟩,λb d _=>?_,λb d=>?_,aF,aF⟩
  .cases d;exact .inr ⟨⟨o,rfl,h⟩,.inr ⟨hd,rfl,p⟩⟩
  .cases d;rfl
  .cases d;simp
def Si(Z:Stat)(k:Bool):Z.wk k<=Z.N+2:=by cases k<;>simp[Stat.wk]
def Base.l3(h:Base Z G u t)(cl:eF)(p:cl.ig G)(fA:Alike G aB)(L:∀b,aB.b1 b=if b<u.heap.size then G.b1 b else cl.num Z)(calm:Calm u aC)(keep:∀b,b<u.heap.size->aC.heap[b]?≠u.heap[b]?->gY Z G (cl.num Z) b){l:List Event}(cI:∀e∈l,lx Z aB t (cl.num Z) aC.heap.size e)(D:∀k,cl=.dN k->(G.s k).da=true->∀e∈l,(MemAct.ofEvent e).touch?=none)(C:cl=.eu->G.k.shut=true->∀e∈l,(MemAct.ofEvent e).touch?=none)(fn:FuncId)(pos:String):
 Base Z aB aC (t++MemOp.ofEvents (cl.num Z) fn pos l.toArray)/\∀i,i≠cl.num Z->e0 Z G aB i u aC:=by
 have g:∀b,b<u.heap.size->¬gY Z G (cl.num Z) b->aC.heap[b]?=u.heap[b]?:=λb c hm=>Classical.byContradiction λj=>hm (keep b c j)
 have lt:=λ{b:Nat} {o:Obj} (e:u.heap[b]?=some o)=>(bu e:b<u.heap.size)
 have mq:=g _ (lt h.ww.T) λhm=>hm.1.1 rfl
 have I:=g _ (lt h.ww.W) λhm=>hm.1.2.1 rfl
 have H:=g _ (lt h.ww.ch) λhm=>hm.1.2.2 rfl
 have f:∀b,b<u.heap.size->aB.b1 b=G.b1 b:=λb c=>by rw[L,if_pos c]
 have n:Apart Z aB:=⟨h.ap.bM,h.ap.rC,h.ap.wc,h.ap.pos,λb c=>by obtain⟨q,w,y,J,K⟩:=h.ap.xF b c;refine⟨q,w,y,(f b (h.s0 b c)).trans J,?_⟩;rw[fA.ro];exact K,by rw[fA.ro];exact h.ap.Fi⟩
 have hle:=cl.z7 Z;have S:∀b i,b<u.heap.size->(gY Z aB i b↔gY Z G i b):=λb i c=>by unfold gY;rw[f b c,fA.ro]
 refine⟨⟨⟨?_,?_,?_,λb c m=>?_,h.ww.calm.trans calm⟩,fA.agree h.b9,n,?_,λi b c=>?_,λb c=>gu (h.s0 b c) calm.size,λb c m=>?_,cL h.old calm.size,h.o4,(h.iA.grow λi b c=>by rw[fA.ro];exact c),(λi b p c=>by rw[fA.ro]at c;rw[f b (h.oc i b c)];exact h.rn i b p c),by rw[fA.bP];exact h.cfg⟩,λi B=>⟨calm.size,f,λi b c=>by rw[fA.ro];exact c,λi b _ c=>.inl (by rw[fA.ro]at c;exact c),λb c q w y az _=>?_,⟨_,_,_,_,mq.trans h.ww.T⟩⟩⟩
 .rw[fA.mu,fA.ms,fA.aY,fA.bc];exact mq.trans h.ww.T
 .rw[fA.v,fA.m];exact I.trans h.ww.W
 .rw[fA.zE,fA.DC];exact H.trans h.ww.ch
 .rw[g b (gu c h.old) (h.Eh b c m _ hle)]
  exact h.ww.old b c m
 .have r:Grow G aB u.heap.size:=⟨f,fA.ro⟩
  have Q:fp (pl Z aB) t (eX Z aB) u.heap.size:=by rw[fA.ee];exact h.dy.dy.oa r
  have E:=λe he=>(cI e he).zb n
  refine e5.app n h.dy r calm.size cl p Q (λe he=>(E e he).1) fA.born ?_ (λa _=>fA.Dp a) (λk d=>.inl (fA.eC k d)) (λe he b c P F=>by rw[(E e he).2.1 b c P]at F;cases F) (λk d=>?_) (λd=>?_) (λe he b c M=>absurd M ((E e he).2.2.1 b c)) λd=>by rw[<-fA.Li];exact d
  .rw[fA.Dp]
   exact(deafBehind_still (λe he=>(E e (by simpa using he)).2.2.2) _).symm
  .rw[fA.da]at d
   refine⟨d,λj=>?_⟩;have:=D k j d;refine⟨⟨?_,.inr this⟩,λe he b c=>by rw[this e he]at c;cases c⟩;have z:=λe he=>(E e he).2.2.2.2
   clear this cI E D C;induction l with
   |nil=>rfl
   |cons a l R=>
    unfold n0;rw[if_neg (z a aF)];exact R λe he=>z e (by simp[he])
  .rw[fA.zE]at d
   exact⟨d,λj=>C j d⟩
 .rw[fA.ro]at c
  exact gu (h.oc i b c) calm.size
 .rw[f b (gu c h.old),fA.ro];exact h.hold b c m
 .refine g b c λhm=>?_
  rcases az with az|az
  .exact B (az.symm.trans hm.2.1)
  .exact hm.2.2 i B az
end
section
variable{Pos:Type}{A:de Pos}{X:et}{Z:Stat}{G aB:bX}{u aC w:World}{t bh:Trace}{B gX i n j m:Nat}{p:Pos}{base:List Frame}{x:bA}{g:Goroutine}
def cB.shape(h:cB A Z G i p base x g w n j):∃st off,g=⟨x.1,x.2++base,st,none,off⟩:=by obtain⟨fr,cs,st,l,off⟩:=g;have c:=h.fr;have d:=h.cs;have f:=h.m';dsimp only at c d f;subst c;subst d;subst f;exact⟨st,off,rfl⟩
def cB.xx(h:cB A Z G i p base x g w n j){y:bA}{q:Pos}{c9 bw:Nat}(f:eJ A c9 q bw y)(c:bw<=400)(hm:gN (A.mem q) u)(d:Own Z aB i (A.mem q)):cB A Z aB i q base y (bW y base) u c9 bw:=
 ⟨f,c,rfl,rfl,rfl,hm,d⟩
def cB.quiet(T:dn A.P A.ext)(h:cB A Z G i p base x g w n j):(∃m,n=m+1/\At A m p x)\/
 ∃y bw,bw<j/\cB A Z G i p base y (bW y base) w n bw/\∀main (u:World),stepG A.P main g u=.go (bW y base) u:=by
 rcases h.on.step T with k|⟨y,bw,c,d,f⟩
 .exact .inl k
 .refine .inr ⟨y,bw,c,⟨d,by have:=h.le;omega,rfl,rfl,rfl,h.mem,h.own⟩,λmain u=>?_⟩
  obtain⟨st,off,rfl⟩:=h.shape;exact f main base st off u
def cB.bL(T:dn A.P A.ext)(F:∀p,A.dh p<=400)(h:cB A Z G i p base x g u n j)(C:At A m p x){ops:List gZ}{to:Pos}(he:Edge.bL ops to∈A.cz p)(K:∀b,aB.b1 b=if b<u.heap.size then G.b1 b else i)(z:aB.ro=G.ro):
 ∃(y:bA) (aC:World) (l:List Event) (bw:Nat),cB A Z aB i to base y (bW y base) aC m bw/\(∀main,stepG A.P main g u=.go (bW y base) aC l.toArray)/\Calm u aC/\(∀b,b<u.heap.size->aC.heap[b]?≠u.heap[b]?->gY Z G i b/\∃(k:Nat) (o:Obj),(A.mem p)[k]?=some (true,b,o))/\(∀e∈l,lx Z aB t i aC.heap.size e)/\(∀(k:Nat) own b o,(A.mem to)[k]?=some (own,b,o)->∃q,(A.mem p)[k]?=some (own,b,q)):=by
 obtain⟨y,J,L,M⟩:=C.bL T he;obtain⟨aC,hd,hm,D,_,P,H,E,w,_⟩:=uJ L h.mem;obtain⟨st,off,rfl⟩:=h.shape;have mine:∀(b k:Nat) o,(A.mem p)[k]?=some (true,b,o)->gY Z G i b:=λb k o e=>by obtain⟨d,_,f⟩:=h.own k true b o e;exact⟨d,f rfl⟩
 have B:∀b,b<u.heap.size->aB.b1 b=G.b1 b:=λb c=>by rw[K,if_pos c]
 refine⟨y,aC,_,_,h.xx J (F _) hm ?_,λmain=>M main base st off u aC _ hd,D,λb c I=>?_,λe he=>?_,w⟩
 .intro k own b o e
  obtain⟨q,r⟩:=w k own b o e;obtain⟨d,R,f⟩:=h.own k own b q r;have c:=gL h.mem r;rw[B b c,z];exact⟨d,R,f⟩
 .refine Classical.byContradiction λQ=>I (H b λk o e=>Q ⟨mine b k o e,k,o,e⟩)
 .obtain⟨k,own,b,o,V,wr,d,rfl,f⟩:=E e he
  obtain⟨q1,S,U⟩:=h.own k own b o d;have c:=gL h.mem d;refine .mem rfl (by rw[P];exact c) aF ⟨q1.2.1,q1.2.2⟩ (λe=>absurd e q1.1) ?_;show gY Z aB i b\/((aB.ro i b\/(aB.b1 b=i/\b≠Z.z.T))/\wr=false)
  unfold gY;rw[B b c,z];cases wr with
  |true=>exact .inl ⟨q1,U (f rfl)⟩
  |false=>exact .inr ⟨S.symm.imp id λx=>⟨x,q1.1⟩,rfl⟩
def cB.z2(T:dn A.P A.ext)(C:∀p,A.dh p<=400)(h:cB A Z G i p base x g u n j)(B:At A m p x){to:Nat->Pos}(he:Edge.new true o to∈A.cz p)(l:∀b,aB.b1 b=if b<u.heap.size then G.b1 b else i)(q:aB.ro=G.ro)(D:∀h b,G.ro h b->b<u.heap.size)(L:Z.z.T<u.heap.size/\Z.W<u.heap.size/\Z.ch<u.heap.size):
 ∃y aC bw,cB A Z aB i (to u.heap.size) base y (bW y base) aC m bw/\(∀main,stepG A.P main g u=.go (bW y base) aC)/\Calm u aC/\(∀b,b<u.heap.size->aC.heap[b]?=u.heap[b]?)/\aC.heap.size=u.heap.size+1:=by
 obtain⟨y,E,d,H⟩:=B.new T he u.heap.size;obtain⟨st,off,rfl⟩:=h.shape;have I:∀b,b<u.heap.size->aB.b1 b=G.b1 b:=λb c=>by rw[l,if_pos c]
 refine⟨y,_,_,h.xx E (C _) (by rw[d];exact h.mem.push rfl) ?_,λmain=>H main base st off u rfl,⟨aF,rfl,rfl,Go.ConcM.OsLater.refl _⟩,λb c=>?_,aF⟩
 .intro k own b r e
  rw[d]at e;have e:(A.mem p++[(true,u.heap.size,o)])[k]?=some (own,b,r):=e;rcases Nat.lt_or_ge k (A.mem p).length with k1|k1
  .rw[jz k1]at e
   obtain⟨q1,J,K⟩:=h.own k own b r e;have c:=gL h.mem e;rw[I b c,q];exact⟨q1,J,K⟩
  .rw[jb k1]at e
   have:k-(A.mem p).length=0:=by
    rcases Nat.eq_zero_or_pos (k-(A.mem p).length)with z|z
    .exact z
    .rw[List.getElem?_eq_none cH]at e;cases e
   rw[this]at e;simp at e;obtain⟨rfl,rfl,rfl⟩:=e;have f:aB.b1 u.heap.size=i:=by rw[l,if_neg (Nat.lt_irrefl _)]
   rw[q];exact⟨⟨U,U,U⟩,.inl f,λ_=>⟨f,λw _ F=>absurd (D w _ F) (Nat.lt_irrefl _)⟩⟩
 .show(u.heap.push o)[b]?=_
  rw[iq,if_neg U]
def cB.xi(T:dn A.P A.ext)(o:∀p,A.dh p<=400)(h:cB A Z G i p base x g u n j)(d:At A m p x){f:FuncId}{id:Nat}{ops:Array Oper}{L:List (List Nat)}{to:List Nat->Pos}(he:Edge.ord f id ops L to∈A.cz p):
 ∃l y bw,l∈L/\cB A Z G i (to l) base y (bW y base) (u.at (u.drawn+1)) m bw/\(∀main,stepG A.P main g u=.go (bW y base) (u.at (u.drawn+1))):=by
 obtain⟨l,y,q,r,c,w⟩:=d.ord T he u;obtain⟨st,off,rfl⟩:=h.shape;exact⟨l,y,_,q,h.xx r (o _) (by rw[c];exact h.mem.keep λ_ _ _ _ _=>rfl) (by rw[c];exact h.own),λmain=>w main base st off⟩
def cB.Lb(f:∀p,A.dh p<=400)(h:cB A Z G i p base x g u n j)(d:At A m p x){Y:bA}{to:Pos}(he:Edge.join Y to∈A.cz p):∃bw,cB A Z G i to base x g u m bw:=by obtain⟨l,c⟩:=d.join he;exact⟨_,l,f _,h.fr,h.cs,h.m',by rw[c];exact h.mem,by rw[c];exact h.own⟩
def cB.mr(T:dn A.P A.ext)(l:∀p,A.dh p<=400)(h:cB A Z G i p base x g u n j)(f:At A m p x){nr wk:Bool}{an:List dO}{c:List cD}{to:Pos}(he:Edge.fix nr wk an c to∈A.cz p)(hd:Does u c aC es)(r:gN (A.mem p) aC/\Own Z aB i (A.mem p)):
 ∃y bw,cB A Z aB i to base y (bW y base) aC m bw/\(wk=true->mayWake A.P g=true)/\∀main,stepG A.P main g u=.go (bW y base) aC (hZ nr (cI c)).toArray:=by
 obtain⟨y,o,d,w,q⟩:=f.fix T he;obtain⟨st,off,rfl⟩:=h.shape;refine⟨y,_,h.xx o (l _) (by rw[d];exact r.1) (by rw[d];exact r.2),λe=>?_,λmain=>q main base st off u aC es hd⟩;have:=w e;unfold Bn at this;exact this
end
end Go.aO
