/- A part. -/
import Derived.Test.YtoebddanaobpaaaGreatDoorP6
import Derived.Test.YtoebddanaobpaaaGreatDoorP7
import Derived.Test.YtoebddanaobpaaaGreatDoorP8
import Derived.Conc.ClockLaws
set_option maxHeartbeats 8000000
set_option maxRecDepth 100000
set_option linter.all false
namespace Go.aO
attribute [-simp] Go.Sem.runT_eq
open Go.Proofs Tryz
section
inductive jm where
 |idle|pe|b6|q|w2|aT|I|J|ax|uK|r2|fin
 deriving DecidableEq
def jm.zA:jm->Ta
 |.ax |.uK |.r2 |.fin=>true
 |_=>false
def jm.gC:jm->Ta
 |.J=>true
 |_=>false
def j2:jm->jm->TI (Int×Int)
 |.idle,.idle |.idle,.fin |.fin,.fin=>some (0,0)
 |.aT,.idle |.aT,.pe |.aT,.fin |.I,.idle |.I,.pe |.J,.idle |.J,.pe |.ax,.idle |.ax,.pe |.ax,.fin=>some (1,0)
 |.aT,.q |.I,.q |.J,.q |.ax,.q=>some (9,0)
 |.uK,.q=>some (8,0)
 |.r2,.q=>some (2,0)
 |.fin,.q=>some (2,1)
 |.fin,.w2=>some (2,0)
 |.fin,.pe |.fin,.b6=>some (0,0)
 |_,_=>none
def jO(a b:jm):TI (Int×Int):=match j2 a b with
 |some x=>some x
 |none=>j2 b a
def tU(a b:jm):Ta:=a.zA||b.zA
def u2(a b:jm):Ta:=tU a b||(a.gC||b.gC)
def Me(a b:jm):jO a b=jO b a:=by cases a<;>cases b<;>rfl
def I6(a b:jm):tU a b=tU b a:=by cases a<;>cases b<;>rfl
def Q7(a b:jm):u2 a b=u2 b a:=by cases a<;>cases b<;>rfl
structure cO(a b:jm)(mu ms:Int)(aY bc:Ta):Prop where
 mu:jO a b=some (mu,ms)
 aY:aY=tU a b
 bc:bc=u2 a b
def cO.symm{a b:jm}{mu ms:Int}{aY bc:Ta}(h:cO a b mu ms aY bc):cO b a mu ms aY bc:=⟨by rw[Me];exact h.mu,h.aY.trans (I6 _ _),h.bc.trans (Q7 _ _)⟩
section
variable{b:jm}{mu ms:Int}{aY bc:Ta}
def cO.jX(h:cO .idle b mu ms aY bc):(mu=0/\cO .aT b 1 ms aY bc)\/(mu=1/\cO .pe b 1 ms aY bc):=by obtain⟨c,rfl,rfl⟩:=h;cases b<;>simp[jO,j2]at c<;>obtain⟨rfl,rfl⟩:=c<;>first|exact .inl ⟨S6,S6,S6,S6⟩|exact .inr ⟨S6,S6,S6,S6⟩
def cO.look(h:cO .pe b mu ms aY bc):mu=1\/(mu=0/\cO .b6 b 0 ms aY bc):=by obtain⟨c,rfl,rfl⟩:=h;cases b<;>simp[jO,j2]at c<;>obtain⟨rfl,rfl⟩:=c<;>first|exact .inl S6|exact .inr ⟨S6,S6,S6,S6⟩
def cO.queue(h:cO .pe b mu ms aY bc):(mu=1/\cO .q b 9 ms aY bc)\/(mu=0/\cO .b6 b 0 ms aY bc):=by obtain⟨c,rfl,rfl⟩:=h;cases b<;>simp[jO,j2]at c<;>obtain⟨rfl,rfl⟩:=c<;>first|exact .inl ⟨S6,S6,S6,S6⟩|exact .inr ⟨S6,S6,S6,S6⟩
def cO.b6(h:cO .b6 b mu ms aY bc):mu=0/\cO .aT b 1 ms aY bc:=by obtain⟨c,rfl,rfl⟩:=h;cases b<;>simp[jO,j2]at c<;>obtain⟨rfl,rfl⟩:=c<;>exact⟨S6,S6,S6,S6⟩
def cO.sema(h:cO .q b mu ms aY bc):(ms=0/\b≠.fin)\/(ms=1/\cO .w2 b mu 0 aY bc):=by obtain⟨c,rfl,rfl⟩:=h;cases b<;>simp[jO,j2]at c<;>obtain⟨rfl,rfl⟩:=c<;>first|exact .inl ⟨S6,aF⟩|exact .inr ⟨S6,S6,S6,S6⟩
def cO.w2(h:cO .w2 b mu ms aY bc):mu=2/\cO .aT b 1 ms aY bc:=by obtain⟨c,rfl,rfl⟩:=h;cases b<;>simp[jO,j2]at c<;>obtain⟨rfl,rfl⟩:=c<;>exact⟨S6,S6,S6,S6⟩
def cO.KN(h:cO .fin b mu ms aY bc):aY=true:=by rw[h.aY];rfl
def cO.KM(h:cO .aT b mu ms aY bc):(aY=false/\cO .I b mu ms aY bc)\/(aY=true/\cO .ax b mu ms aY bc):=by obtain⟨c,rfl,rfl⟩:=h;cases b<;>simp[jO,j2]at c<;>obtain⟨rfl,rfl⟩:=c<;>first|exact .inl ⟨S6,S6,S6,S6⟩|exact .inr ⟨S6,S6,S6,S6⟩
def cO.write(h:cO .I b mu ms aY bc):aY=false/\bc=false/\b.gC=false/\cO .J b mu ms aY true:=by obtain⟨c,rfl,rfl⟩:=h;cases b<;>simp[jO,j2]at c<;>obtain⟨rfl,rfl⟩:=c<;>exact⟨S6,S6,S6,S6,S6,S6⟩
def cO.raise(h:cO .J b mu ms aY bc):aY=false/\bc=true/\cO .ax b mu ms true bc:=by obtain⟨c,rfl,rfl⟩:=h;cases b<;>simp[jO,j2]at c<;>obtain⟨rfl,rfl⟩:=c<;>exact⟨S6,S6,S6,S6,S6⟩
def cO.held(h:cO .ax b mu ms aY bc):mu=1\/mu=9:=by obtain⟨c,rfl,rfl⟩:=h;cases b<;>simp[jO,j2]at c<;>obtain⟨rfl,rfl⟩:=c<;>first|exact .inl S6|exact .inr S6
def cO.add(h:cO .ax b mu ms aY bc):(mu=1/\cO .fin b 0 ms aY bc)\/(mu=9/\cO .uK b 8 ms aY bc):=by obtain⟨c,rfl,rfl⟩:=h;cases b<;>simp[jO,j2]at c<;>obtain⟨rfl,rfl⟩:=c<;>first|exact .inl ⟨S6,S6,S6,S6⟩|exact .inr ⟨S6,S6,S6,S6⟩
def cO.Im(h:cO .uK b mu ms aY bc):mu=8/\cO .r2 b 2 ms aY bc:=by obtain⟨c,rfl,rfl⟩:=h;cases b<;>simp[jO,j2]at c<;>obtain⟨rfl,rfl⟩:=c<;>exact⟨S6,S6,S6,S6⟩
def cO.post(h:cO .r2 b mu ms aY bc):ms=0/\cO .fin b mu 1 aY bc:=by obtain⟨c,rfl,rfl⟩:=h;cases b<;>simp[jO,j2]at c<;>obtain⟨rfl,rfl⟩:=c<;>exact⟨S6,S6,S6,S6⟩
end
inductive mX where
 |no|ic|hI|jT|yes
 deriving DecidableEq
inductive vr where
 |pre|reg|vg
 deriving DecidableEq
def mX.dec:mX->Ta
 |.no=>false
 |_=>true
def ey(two:Ta)(a b:mX)(k:vr):TI (Int×Int):=match two,a,b,k with
 |false,.no,.no,.pre=>some (4294967296,0)
 |true,.no,.no,.pre=>some (8589934592,0)
 |true,.yes,.no,.pre|true,.no,.yes,.pre=>some (4294967296,0)
 |true,.yes,.yes,.pre=>some (0,0)
 |true,.no,.no,.reg=>some (8589934593,0)
 |true,.yes,.no,.reg|true,.no,.yes,.reg=>some (4294967297,0)
 |true,.yes,.ic,.reg|true,.ic,.yes,.reg|true,.yes,.hI,.reg|true,.hI,.yes,.reg=>some (1,0)
 |true,.yes,.jT,.reg|true,.jT,.yes,.reg=>some (0,0)
 |true,.yes,.yes,.reg=>some (0,1)
 |true,.yes,.yes,.vg=>some (0,0)
 |_,_,_,_=>none
def G2(t:Ta)(a b:mX)(k:vr):ey t a b k=ey t b a k:=by cases t<;>cases a<;>cases b<;>cases k<;>rfl
section
variable{a b:mX}{k:vr}{v m:Int}
def R9(h:ey false a b k=some (v,m)):v=4294967296/\ey true a b k=some (8589934592,m):=by cases a<;>cases b<;>cases k<;>simp[ey]at h<;>obtain⟨rfl,rfl⟩:=h<;>exact⟨S6,S6⟩
def R'(h:ey true .no b k=some (v,m)):(v=8589934592/\ey true .yes b k=some (4294967296,m))\/(v=4294967296/\ey true .yes b k=some (0,m))\/
 (v=8589934593/\ey true .yes b k=some (4294967297,m))\/(v=4294967297/\ey true .ic b k=some (1,m)):=by
 cases b<;>cases k<;>simp[ey]at h<;>obtain⟨rfl,rfl⟩:=h<;>simp[ey]
def Sa(h:ey true .ic b k=some (v,m)):v=1/\ey true .hI b k=some (1,m):=by cases b<;>cases k<;>simp[ey]at h<;>obtain⟨rfl,rfl⟩:=h<;>exact⟨S6,S6⟩
def Sb(h:ey true .hI b k=some (v,m)):ey true .jT b k=some (0,m):=by cases b<;>cases k<;>simp[ey]at h<;>obtain⟨rfl,rfl⟩:=h<;>rfl
def Sc(h:ey true .jT b k=some (v,m)):m=0/\ey true .yes b k=some (v,1):=by cases b<;>cases k<;>simp[ey]at h<;>obtain⟨rfl,rfl⟩:=h<;>exact⟨S6,S6⟩
def S'(a b:mX):Nat:=(if a.dec then 0 else 1)+(if b.dec then 0 else 1)
def G3(h:ey true a b .pre=some (v,m)):(S' a b=0/\v=0/\ey true a b .vg=some (0,m))\/(S' a b=1/\v=4294967296/\ey true a b .reg=some (4294967297,m))\/(S' a b=2/\v=8589934592/\ey true a b .reg=some (8589934593,m)):=by cases a<;>cases b<;>simp[ey]at h<;>obtain⟨rfl,rfl⟩:=h<;>simp[ey,S',mX.dec]
def G4(h:ey true a b .reg=some (v,m)):(m=0/\¬(a=.yes/\b=.yes))\/(m=1/\ey true a b .vg=some (v,0)):=by cases a<;>cases b<;>simp[ey]at h<;>obtain⟨rfl,rfl⟩:=h<;>simp[ey]
def vc(h:ey true a b .vg=some (v,m)):v=0/\a=.yes/\b=.yes:=by cases a<;>cases b<;>simp[ey]at h<;>obtain⟨rfl,rfl⟩:=h<;>simp
end
end
end Go.aO
namespace Go.aO
attribute [-simp] Go.Sem.runT_eq
open Go.Proofs Tryz Go.Conc Go.ConcN
variable{op:MemOp}{B b bq bw c9 g i to:Nat}{o:Obj}{ρ:Ren}{pos:T6}{g':TC}{es:TE}{wr:Ta}{L:Tb TA}{d:Tb cD}{an:Tb dO}{ops:Tb gZ}{args:Te}{f fn:Tw}{y:bA}{V:dt}{q:h5}
noncomputable abbrev aK:To:=prog
structure et where
 Q:To
 K:g8 Q prog
 ht:Nat
 fI:Nat
 v0:S7
 R:S9->S7->Prop
 S:Same Q prog
 ek:fe (fj (jv Q)) Q Q
 H:fe (fj K) Q prog
 db:∀f a b,¬K.db f a b
 fn:∀f,K.fn f->f=46
 eb:eK Q 46=some 2/\eK Q 38=none
 vJ:Q.cellsOf 132=28
 c3:Q.cellsOf 3=1
 tj:Q.globals.size<=ht/\Q.globals.size<=fI/\ht≠fI
 ui:v0.heap[ht]?=some (.cells #[ah 2,sl fI 2] 132 (0,2))
 zw:v0.heap[fI]?=some (.cells #[ah 2,ah 1] 3 (0,2))
 going:e3 Q 38 R ⟨Frame.enter Q 38 #[pt ht,.agg dC] .normal,[],v0⟩
 self:Self Q ⟨Frame.enter Q 38 #[pt ht,.agg dC] .normal,[],v0⟩
 stub:∀V:dt,e3 Q 38 R V->∀a Tl c cs,(TG Tl)->a.size=2->V.fr=Frame.enter Q 46 a Tl->V.cs=c::cs->Kept c->
  a=#[pt ht,ah 0]/\∃n,runN Q n V.m=.next (lone (eU Tl c iT) (cs++[wall]) V.w)
 res:∀v w,R v w->∃b c l,v=four (b,c)/\w.heap[b]?=some (.cells (#[ah 2,ah 3,ah 5,ah 6]++l) 3 (0,0))/\c=l.size+4
abbrev lP(Q:To):={V:dt // Acc (dZ Q) V}
inductive Hu where
 |un|out (p:h5)|lift|fx (l:Nat)|dG (l:Nat)|lock (p:kg)|dB (l:Nat)|iu (p:m7)
structure ck where
 c:Hu
 bb:Ta
def pY:kg->jm
 |.jr |.jX=>.idle
 |.h6 |.gH |.aq |.fin=>.aT
 |.ld |.sp _ |.rs _ |.rj=>.pe
 |.ln |.bx=>.b6
 |.t1 |.qf _=>.q
 |.t2 _ |.oH _ _ |.rw |.c2=>.w2
def Be:m7->jm
 |.ld |.gH |.cx |.jr |.add=>.ax
 |.jX=>.uK
 |.db=>.r2
 |.h6 |.fin=>.fin
def vV(bb:Ta):Nat->jm
 | 2=>.aT
 | 3=>.I
 | 4|5=>.J
 | 7=>.ax
 |_=>if bb then .fin else .idle
def ck.role(s:ck):jm:=match s.c with
 |.lock p=>pY p
 |.iu p=>Be p
 |.dB l=>if l<49 then .I else .J
 |.dG l=>vV s.bb l
 |.un=>.idle
 |_=>if s.bb then .fin else .idle
def pk:h5->mX
 |.d4=>.ic
 |.d5=>.hI
 |.d7=>.jT
 |.d6 |.fin=>.yes
 |_=>.no
def ck.cR(s:ck):mX:=match s.c with
 |.out p=>pk p
 |_=>.no
def nF:h5->Ta
 |.d0 |.d1 |.d2 |.d3 |.d4 |.d5 |.d7 |.d6 |.fin=>true
 |_=>false
def ck.da(s:ck):Ta:=match s.c with
 |.out p=>nF p
 |_=>false
def ck.deaf(s:ck):Nat:=match s.c with
 |.out p=>(match p with
  |.d3 |.d4 |.d5 |.d7 |.d6=>1
  |_=>0)
 |.lock p=>(match p with
  |.jr |.gH |.aq |.fin=>0
  |_=>1)
 |.iu p=>(match p with
  |.add |.jX |.db |.h6=>1
  |_=>0)
 |_=>0
def ck.eC(s:ck):Ta:=match s.c with
 |.dG l=>decide (7<=l)
 |.iu _=>true
 |.fx l=>decide (14<=l)
 |_=>false
inductive dE where
 |un|at(p:gO)
def dE.ph:dE->vr
 |.un=>.pre
 |.at p=>match p with
  |.bx |.c1 _ |.c2 _=>.pre
  |.c3 |.c4 |.gq=>.reg
  |_=>.vg
def dE.deaf:dE->Nat
 |.at p=>(match p with
  |.c1 _ |.c2 _ |.c3 |.c4 |.gq |.pI |.pK=>1
  |_=>0)
 |.un=>0
def dE.bound:dE->Nat
 |.at (.c1 m) |.at (.c2 m)=>m
 |_=>2
def dE.shut:dE->Ta
 |.at .fin=>true
 |_=>false
def dE.said:dE->Ta
 |.at p=>(match p with
  |.bx |.c1 _ |.c2 _ |.c3 |.c4=>false
  |_=>true)
 |.un=>false
def j1(l:Nat):Nat:=if l=23\/l=24 then 1 else 0
def dF(l:Nat):Nat:=if l<=28 then 0 else if l<=34 then 1 else 2
structure Stat where
 z:eG
 L:Nat
 bc:Nat
 O:Nat
 ch:Nat
 cg:Nat
 W:Nat
 N:Nat
 cT:Nat
 aL:S7
 kd:Tx
 base:Tz
 aH:Nat->Prop
class hi(X:et)(Z:Stat):Prop where
 je:∀b,je X.Q=some b->b=X.ht/\b=Z.z.T
structure bX where
 b1:Nat->Nat
 ro:Nat->Nat->Prop
 bP:Ta->mi
 s:Ta->ck
 k:dE
 l:Nat
 mu:Int
 ms:Int
 aY:Ta
 bc:Ta
 v:Int
 m:Int
 cy:Ta->Nat×Nat
def Stat.wk(Z:Stat):Ta->Nat
 |false=>Z.N
 |true=>Z.N+1
def mj(b:Ta):Int:=if b then 1 else 0
def kP(b:Ta):Te:=if b then #[ah 1,ah 1,ah 3,ah 0,ah 3]else #[ah 0,ah 0,ah 0,ah 0,ah 0]
def eN(z:eG)(mu ms:Int)(aY bc:Ta):Te:=
 #[ah 2,sl z.F 2,sl z.R 2,sl z.Fr 1,.int .u32 (mj aY),.int .i32 mu,.int .u32 ms,.int .u32 0,.int .i32 0,.int .u32 0,.int .u32 0,.int .i32 0,.int .u32 0]++kP bc++#[ah 0,ah 0,ah 0,ah 0,ah 0,ah 0,ah 0,ah 0,ah 0,ah 0]
structure ea(Z:Stat)(G:bX)(w:S7):Prop where
 T:w.heap[Z.z.T]?=some (.cells (eN Z.z G.mu G.ms G.aY G.bc) 132 (0,0))
 W:w.heap[Z.W]?=some (.cells #[.int .u64 G.v,.int .u32 G.m] 208 (0,0))
 ch:w.heap[Z.ch]?=some (.chan 0 #[] G.k.shut (dF G.l) (dF G.l) false)
 old:∀b,b<Z.aL.heap.size->b≠Z.z.T->w.heap[b]?=Z.aL.heap[b]?
 calm:Calm Z.aL w
structure g5(G:bX):Prop where
 once:cO (G.s false).role (G.s true).role G.mu G.ms G.aY G.bc
 wg:ey (decide (24<=G.l)) (G.s false).cR (G.s true).cR G.k.ph=some (G.v,G.m)
 bound:S' (G.s false).cR (G.s true).cR<=G.k.bound
 cnt:dF G.l=(if (G.s false).da then 1 else 0)+(if (G.s true).da then 1 else 0)
 l9:G.l<26↔(G.s true).c=.un
 mS:G.l<27↔G.k=.un
 pG:(G.s false).c≠.un
 bY:17<=G.l
 eC:∀k,(G.s k).eC=true->G.aY=true
def eX(Z:Stat)(G:bX):qI:=if G.aY then .done else if (G.s false).role.gC then .written (Z.wk false)else if (G.s true).role.gC then .written (Z.wk true)else .fresh
def blk:Loc->Nat
 |.cell a=>a.block
 |.obj r=>r
 |_=>0
def pl(Z:Stat)(G:bX):qE where
 cT:=Z.cT
 jy l:=(∃o,l=.cell (S8 Z.z.T o)/\4<=o/\o<13)\/(∃a,l=.cell a/\a.block=Z.W)\/l=.obj Z.ch
 ik l:=∃o,l=.cell (S8 Z.z.T o)/\13<=o
 kX:=(S8 Z.z.T 4)
 b1 l:=G.b1 (blk l)
 oy g l:=G.ro g (blk l)/\l.isMemory=true/\(blk l=Z.z.T->l=.obj Z.z.T\/∃o,l=.cell (S8 Z.z.T o)/\o<4)
 aH:=Z.aH
 no:=Z.N+3
def Own(Z:Stat)(G:bX)(i:Nat)(M:Mem):Prop:=∀(n:Nat) own b o,M[n]?=some (own,b,o)->
 (b≠Z.z.T/\b≠Z.W/\b≠Z.ch)/\(G.b1 b=i\/G.ro i b)/\(own=true->G.b1 b=i/\∀h,h≠i->¬G.ro h b)
structure cB{Pos:Type}(A:de Pos)(Z:Stat)(G:bX)(i:Nat)(p:Pos)(Tc:Tz)(x:bA)(g:TC)(w:S7)(n j:Nat):Prop where
 on:eJ A n p j x
 le:j<=400
 fr:g.frame=x.1
 cs:g.callers=x.2++Tc
 m':g.dying=none
 mem:gN (A.mem p) w
 own:Own Z G i (A.mem p)
def oQ:TA->Ta
 | 6::_=>true
 | 0::r|1::r=>oQ r
 |_=>false
def nY:TA->Ta
 | 0::r|1::r|2::r|3::r=>nY r
 | 4::r=>oQ (r.filter (λn=>!(n == 5)))
 |_=>false
def tm:h5->Ta
 |.g r=>nY r
 |.h r _=>oQ r
 |_=>true
def mK(l:Nat)(r:TA):Ta:=match l with
 | 0|1|2|3|14|16|17=>true
 | 4|15=>r.all (· < 2)
 |_=>false
def sb:Nat->Ta
 | 0|1|2|3|4|5|7|8=>true
 |_=>false
def pO(l:Nat)(r:TA):Ta:=if l=48 then r.all (· < 3)else decide (l<=49)
structure m1 where
 x:bA
 rem:TA
 n:Nat
def m1.base(c:m1):Tz:=c.x.1::c.x.2
def m1.Ok(c:m1)(Z:Stat)(G:bX)(k:Ta)(w:S7):Prop:=
 (∀v,eJ (fP (G.bP k)) c.n (.h c.rem v) 400 (c.x.1.finish (four v),c.x.2))/\gN (ib (G.bP k)) w/\Own Z G (Z.wk k) (ib (G.bP k))/\(∀(n:Nat) own b o,(ib (G.bP k))[n]?=some (own,b,o)->G.b1 b≠Z.wk k)/\oQ c.rem=true
structure m5(X:et)(Z:Stat)(G:bX)(i:Nat)(ρ:Ren)(V:dt):Prop where
 gB:∀b aE,ρ.r b aE->aE≠Z.W/\aE≠Z.ch/\(aE=Z.z.T->b=X.ht)
 own:∀b aE,ρ.r b aE->(aE≠Z.z.T/\G.b1 aE=i/\∀h,h≠i->¬G.ro h aE)\/(G.ro i aE/\jk V.w b)
 T:V.w.heap[X.ht]?=some (.cells #[ah 2,sl X.fI 2] 132 (0,2))
 uI:ρ.r X.ht Z.z.T
 xo:ρ.r X.fI Z.z.F
 inexact:ρ.exact=false
 fits:Fits X.Q ρ
structure LCtx where
 V:dt
 ρ:Ren
 cs:Tz
 o:m1
def LCtx.base(c:LCtx):Tz:=c.cs++c.o.base
structure LCtx.rX(X:et)(Z:Stat)(G:bX)(k:Ta)(c:LCtx)(fr:TB)(w:S7):Prop where
 going:e3 X.Q 38 X.R c.V
 self:Self X.Q c.V
 pair:m2 X.K c.ρ c.V fr c.cs w
 ll:m5 X Z G (Z.wk k) c.ρ c.V
 o:c.o.Ok Z G k w
structure LCtx.rZ(X:et)(Z:Stat)(G:bX)(k:Ta)(c:LCtx)(kd:Tx)(w:S7):Prop where
 going:e3 X.Q 38 X.R c.V
 self:Self X.Q c.V
 zB:TG kd
 fr:c.V.fr=Frame.enter X.Q 46 #[pt X.ht,ah 0] kd
 some:c.V.cs≠[]
 cs:cK (cN X.K c.ρ) c.V.cs c.cs
 fit:Fit X.Q c.ρ
 room:c.ρ.room=true
 heap:gm c.ρ c.V.w w
 ll:m5 X Z G (Z.wk k) c.ρ c.V
 o:c.o.Ok Z G k w
def o9(T bG bH df:Nat):Nat->Mem
 | 0=>[]
 | 1=>[(true,bG,.cells #[pt T] 71 (0,0))]
 | 2=>[(true,bG,.cells #[pt T] 71 (0,0)),(true,bH,.cells #[i0] 3 (0,0))]
 |_=>[(true,bG,.cells #[pt T] 71 (0,0)),(true,bH,.cells #[i0] 3 (0,0)),(true,df,.cells #[i0,i0,i0,i0,i0] 129 (0,0))]
structure RCtx extends LCtx where
 kd:Tx
 bG:Nat
 bH:Nat
 df:Nat
 M:Mem
 oq:bA
 nr:Nat
 bq:Nat
def RCtx.lj(c:RCtx):Tz:=c.oq.1::c.oq.2++c.base
structure RCtx.Ok(X:et)(Z:Stat)(G:bX)(k:Ta)(c:RCtx)(w:S7):Prop where
 l:c.toLCtx.rZ X Z G k c.kd w
 on:eJ (iD Z.z.T c.kd) c.nr ⟨14,[],c.bG,c.bH,c.df,c.M⟩ 400 (c.oq.1.finish unit,c.oq.2)
 mem:gN c.M w
 own:Own Z G (Z.wk k) c.M
 vH:c.M=o9 Z.z.T c.bG c.bH c.df 3
 run:c.oq.1.mode=.run
 bY:∀b aE,c.ρ.r b aE->aE<c.bq
 ad:∀(i:Nat) b o,c.M[i]?=some (true,b,o)->c.bq<=b
 dh:c.bq<=w.heap.size
structure h0 extends RCtx where
 j7:bA
 bZ:Nat
def h0.ja(c:h0):Tz:=c.j7.1::c.j7.2++c.lj
structure h0.Ok(X:et)(Z:Stat)(G:bX)(k:Ta)(c:h0)(to:Nat)(w:S7):Prop where
 r:c.toRCtx.Ok X Z G k w
 on:eJ (ki Z.z.T) c.bZ ⟨to,c.bG,c.bH⟩ 400 (c.j7.1.finish unit,c.j7.2)
 run:c.j7.1.mode=.run
structure kA(Z:Stat)(G:bX)(i:Nat)(w:S7)(v:Nat×Nat):Prop where
 cells:∃l,w.heap[v.1]?=some (.cells (#[ah 2,ah 3,ah 5,ah 6]++l) 3 (0,0))/\v.2<=l.size+4
 gB:v.1≠Z.z.T/\v.1≠Z.W/\v.1≠Z.ch
 own:G.b1 v.1=i
def mU(cy:Nat×Nat):h5->T8
 |.h _ v |.snd v=>some v
 |.b6 |.g _=>none
 |_=>some cy
abbrev gQ(Q:To):=Nat×lP Q×Nat
def hQ:h5->Ta
 |.b6 |.g _=>true
 |_=>false
inductive fz(X:et)(Z:Stat)(G:bX)(k:Ta)(g:TC)(w:S7):ck->gQ X.Q->Prop
 |un (bb bt):fz X Z G k g w ⟨.un,bb⟩ bt
 |out {p bb x n j} (gA:lP X.Q) (ok:tm p=true) (h:cB (fP (G.bP k)) Z G (Z.wk k) p [] x g w n j) (aj:hQ p=true->bb=false)
  (ak:∀(n:Nat) own b o,(ib (G.bP k))[n]?=some (own,b,o)->G.b1 b≠Z.wk k) (aJ:∀v,mU (G.cy k) p=some v->kA Z G (Z.wk k) w v):fz X Z G k g w ⟨.out p,bb⟩ (if hQ p then 3 else 1,gA,n*500+j)
 |gone {bb} (gA:lP X.Q) (aD:g.status=.finished) (aJ:kA Z G (Z.wk k) w (G.cy k)):fz X Z G k g w ⟨.out .fin,bb⟩ (0,gA,0)
 |lift {bb fr} (c:LCtx) (eM:g.frame=fr) (e8:g.callers=c.base) (oR:g.dying=none) (h:c.rX X Z G k fr w) (ae:Acc (dZ X.Q) c.V):fz X Z G k g w ⟨.lift,bb⟩ (2,⟨c.V,ae⟩,0)
 |fx {bb l x n j} (c:LCtx) (kd bG bH df M rem) (bq:Nat) (ok:mK l rem=true) (b0:∀(i:Nat) b o,M[i]?=some (true,b,o)->bq<=b) (cE:∀b aE,c.ρ.r b aE->aE<bq) (cM:bq<=w.heap.size) (bE:l<=16->M=o9 Z.z.T bG bH df l) (h:c.rZ X Z G k kd w)
  (ae:Acc (dZ X.Q) c.V) (aA:cB (iD Z.z.T kd) Z G (Z.wk k) ⟨l,rem,bG,bH,df,M⟩ c.base x g w n j):fz X Z G k g w ⟨.fx l,bb⟩ (2,⟨c.V,ae⟩,(n*500+j)*10000000000)
 |dG {bb l x n j} (c:RCtx) (ok:sb l=true) (fs:1<=l->l<=7->bb=false) (h:c.Ok X Z G k w) (ae:Acc (dZ X.Q) c.V) (aA:cB (ki Z.z.T) Z G (Z.wk k) ⟨l,c.bG,c.bH⟩ c.lj x g w n j):fz X Z G k g w ⟨.dG l,bb⟩ (2,⟨c.V,ae⟩,(c.nr*500+450)*10000000000+(n*500+j)*100000)
 |lock {p x n j} (c:h0) (h:c.Ok X Z G k 2 w) (ae:Acc (dZ X.Q) c.V) (aA:cB (wY Z.z.T 4 (132,28) .normal) Z G (Z.wk k) p c.ja x g w n j):fz X Z G k g w ⟨.lock p,false⟩ (2,⟨c.V,ae⟩,(c.nr*500+450)*10000000000+(c.bZ*500+450)*100000+(n*500+j))
 |dB {l rem M x n j} (c:h0) (bq:Nat) (ok:pO l rem=true) (b0:∀(i:Nat) b o,M[i]?=some (true,b,o)->bq<=b) (cE:∀b aE,c.ρ.r b aE->aE<bq) (c6:∀(i:Nat) own b o,c.M[i]?=some (own,b,o)->b<bq) (cM:bq<=w.heap.size) (h:c.Ok X Z G k 4 w)
  (ae:Acc (dZ X.Q) c.V) (aA:cB (vO Z.z) Z G (Z.wk k) ⟨l,rem,M⟩ c.ja x g w n j):fz X Z G k g w ⟨.dB l,false⟩ (2,⟨c.V,ae⟩,(c.nr*500+450)*10000000000+(c.bZ*500+450)*100000+(n*500+j))
 |iu {p bb x n j} (c:h0) (h:c.Ok X Z G k 8 w) (ae:Acc (dZ X.Q) c.V) (aA:cB (x8 Z.z.T 4 (132,28) .normal) Z G (Z.wk k) p c.ja x g w n j):fz X Z G k g w ⟨.iu p,bb⟩ (2,⟨c.V,ae⟩,(c.nr*500+450)*10000000000+(c.bZ*500+450)*100000+(n*500+j))
section
variable{X:et}{Z:Stat}{G dP:bX}{w aG:S7}{k:Ta}
structure jV(Z:Stat)(G dP:bX)(i bq:Nat)(w aG:S7):Prop where
 size:w.heap.size<=aG.heap.size
 b1:∀b,b<w.heap.size->dP.b1 b=G.b1 b
 ro:∀h b,G.ro h b->dP.ro h b
 Fh:∀h b,b<w.heap.size->dP.ro h b->G.ro h b\/G.b1 b≠i
 keep:∀b,b<w.heap.size->b≠Z.z.T->b≠Z.W->b≠Z.ch->(G.b1 b=i\/G.ro i b)->(b<bq\/G.b1 b≠i)->aG.heap[b]?=w.heap[b]?
 T:∃mu ms aY bc,aG.heap[Z.z.T]?=some (.cells (eN Z.z mu ms aY bc) 132 (0,0))
abbrev e0(Z:Stat)(G dP:bX)(i:Nat)(w aG:S7):Prop:=jV Z G dP i w.heap.size w aG
def gL{M:Mem}(h:gN M w){n:Nat}{own:Ta}(e:M[n]?=some (own,b,o)):b<w.heap.size:=(Array.getElem?_eq_some_iff.1 (h.has n own b o e)).1
variable{bq:Nat}
def gN.rely{M:Mem}(h:gN M w)(c:Own Z G i M)(r:jV Z G dP i bq w aG)(d:∀(n:Nat) own b o,M[n]?=some (own,b,o)->b<bq\/G.b1 b≠i):gN M aG:=
 h.keep λn own b o e=>r.keep b (gL h e) (c n own b o e).1.1 (c n own b o e).1.2.1 (c n own b o e).1.2.2 (c n own b o e).2.1 (d n own b o e)
def gN.floor{M:Mem}(h:gN M w):∀(n:Nat) own b o,M[n]?=some (own,b,o)->b<w.heap.size\/G.b1 b≠i:=λ_ _ _ _ e=>.inl (gL h e)
def Own.rely{M:Mem}(h:gN M w)(m:Own Z G i M)(r:jV Z G dP i bq w aG):Own Z dP i M:=by
 intro n own b o e;let⟨f,g,c⟩:=m n own b o e;have d:=gL h e;refine⟨f,g.imp (λx=>(r.b1 b d).trans x) (r.ro i b),λx=>⟨(r.b1 b d).trans (c x).1,λj l p=>?_⟩⟩;rcases r.Fh j b d p with y|y
 .exact(c x).2 j l y
 .exact y (c x).1
def cB.rely{Pos:Type}{A:de Pos}{p:Pos}{Tc:Tz}{x:bA}{g:TC}{n j:Nat}(h:cB A Z G i p Tc x g w n j)(r:e0 Z G dP i w aG)(c:g'.frame=g.frame)(d:g'.callers=g.callers)(f:g'.dying=g.dying):cB A Z dP i p Tc x g' aG n j:=
 ⟨h.on,h.le,c.trans h.fr,d.trans h.cs,f.trans h.m',h.mem.rely h.own r h.mem.floor,h.own.rely h.mem r⟩
def Gp(g:Fits X.Q ρ)(he:ρ.exact=false)(hF:ρ.r X.fI Z.z.F)(mu ms:Int)(aY bc:Ta):eZ ρ (.cells #[ah 2,sl X.fI 2] 132 (0,2)) (.cells (eN Z.z mu ms aY bc) 132 (0,0)):=by
 refine .cells (.inr ⟨?_,?_⟩) (λi x y c d=>?_) (.inr ⟨he,S6,bg,T' _⟩)
 .cases bc<;>simp[eN,kP]
 .refine gu ?_ (g.cells 132)
  rw[X.vJ];simp
 .have j:i<2:=by simpa using bu c
  have h:(eN Z.z mu ms aY bc)[i]?=#[ah 2,sl Z.z.F 2][i]?:=by have f:i=0\/i=1:=U;rcases f with rfl|rfl<;>(cases bc<;>simp[eN,kP])
  rw[h]at d;have f:i=0\/i=1:=U;rcases f with rfl|rfl
  .simp at c d
   subst c;subst d;exact .int _ _
  .simp at c d
   subst c;subst d;exact aQ.slice (a:=(Ti X.fI)) (b:=(Ti Z.z.F)) ⟨hF,S6,S6⟩ 2 2
def gm.rely(h:gm ρ V.w w)(d:m5 X Z G i ρ V)(r:jV Z G dP i bq w aG)(n:∀b c,ρ.r b c->c<bq):gm ρ V.w aG:=by
 refine⟨λb c f=>?_,h.lim,cL h.js r.size⟩;let⟨o,p,l,j,m⟩:=h.obj b c f;by_cases g:c=Z.z.T
 .obtain rfl:=(d.gB b c f).2.2 g
  subst g;let⟨mu,ms,aY,bc,e⟩:=r.T;exact⟨_,_,d.T,e,Gp d.fits d.inexact d.xo _ _ _ _⟩
 .refine⟨o,p,l,?_,m⟩
  rw[r.keep c (bu j) g (d.gB b c f).1 (d.gB b c f).2.1 ((d.own b c f).imp (λx=>x.2.1) And.left) (.inl (n b c f))];exact j
def m5.rely(h:gm ρ V.w w)(c:m5 X Z G i ρ V)(r:jV Z G dP i bq w aG):m5 X Z dP i ρ V:=by
 refine⟨c.gB,λb d m=>?_,c.T,c.uI,c.xo,c.inexact,c.fits⟩;let⟨_,_,_,g,_⟩:=h.obj b d m;have n:=bu g;rcases c.own b d m with⟨f,l,o⟩|⟨f,g⟩
 .refine .inl ⟨f,(r.b1 d n).trans l,λj p q=>?_⟩
  rcases r.Fh j d n q with y|y
  .exact o j p y
  .exact y l
 .exact .inr ⟨r.ro _ _ f,g⟩
def gm.floor{v w:S7}(h:gm ρ v w):∀b c,ρ.r b c->c<w.heap.size:=λb c f=>by let⟨_,_,_,d,_⟩:=h.obj b c f;exact bu d
def m1.Ok.rely{c:m1}(h:c.Ok Z G k w)(l:dP.bP k=G.bP k)(r:jV Z G dP (Z.wk k) bq w aG):c.Ok Z dP k aG:=by obtain⟨i,d,f,g,j⟩:=h;unfold m1.Ok;rw[l];exact⟨i,d.rely f r λn own b o e=>.inr (g n own b o e),f.rely d r,λn own b o e=>by rw[r.b1 b (gL d e)];exact g n own b o e,j⟩
def LCtx.rX.rely{c:LCtx}{fr:TB}(h:c.rX X Z G k fr w)(d:dP.bP k=G.bP k)(r:e0 Z G dP (Z.wk k) w aG):c.rX X Z dP k fr aG:=
 ⟨h.going,h.self,⟨h.pair.fit,h.pair.room,h.pair.fr,h.pair.cs,h.pair.heap.rely h.ll r h.pair.heap.floor⟩,h.ll.rely h.pair.heap r,h.o.rely d r⟩
def LCtx.rZ.rely{c:LCtx}{kd:Tx}(h:c.rZ X Z G k kd w)(f:dP.bP k=G.bP k)(r:jV Z G dP (Z.wk k) bq w aG)(g:∀b d,c.ρ.r b d->d<bq):c.rZ X Z dP k kd aG:=
 ⟨h.going,h.self,h.zB,h.fr,h.some,h.cs,h.fit,h.room,h.heap.rely h.ll r g,h.ll.rely h.heap r,h.o.rely f r⟩
def RCtx.Ok.rely{c:RCtx}(h:c.Ok X Z G k w)(g:dP.bP k=G.bP k)(r:jV Z G dP (Z.wk k) bq w aG)(j:∀b d,c.ρ.r b d->d<bq)(f:∀(i:Nat) own b o,c.M[i]?=some (own,b,o)->b<bq):c.Ok X Z dP k aG:=
 ⟨h.l.rely g r j,h.on,h.mem.rely h.own r λn own b o e=>.inl (f n own b o e),h.own.rely h.mem r,h.vH,h.run,h.bY,h.ad,cL h.dh r.size⟩
def h0.Ok.rely{c:h0}(h:c.Ok X Z G k to w)(g:dP.bP k=G.bP k)(r:jV Z G dP (Z.wk k) bq w aG)(j:∀b d,c.ρ.r b d->d<bq)(f:∀(i:Nat) own b o,c.M[i]?=some (own,b,o)->b<bq):c.Ok X Z dP k to aG:=⟨h.r.rely g r j f,h.on,h.run⟩
def kA.rely{v:Nat×Nat}(h:kA Z G i w v)(r:e0 Z G dP i w aG):kA Z dP i aG v:=by obtain⟨⟨l,f,j⟩,c,g⟩:=h;have d:=bu f;exact⟨⟨l,(r.keep _ d c.1 c.2.1 c.2.2 (.inl g) (.inl d)).trans f,j⟩,c,(r.b1 _ d).trans g⟩
def fz.rely{g:TC}{s:ck}{bt:gQ X.Q}(h:fz X Z G k g w s bt)(i:dP.bP k=G.bP k)(z:dP.cy k=G.cy k)(r:e0 Z G dP (Z.wk k) w aG)(j:g'.frame=g.frame)(l:g'.callers=g.callers)(m:g'.dying=g.dying)(B:g.status=.finished->g'.status=.finished):fz X Z dP k g' aG s bt:=by
 cases h with
 |un bb bt=>exact .un bb bt
 |out gA ok h I L y=>exact .out gA ok (by rw[i];exact h.rely r j l m) I (λn own b o e=>by rw[i]at e;rw[r.b1 b (gL h.mem e)];exact L n own b o e) λv e=>(y v (by rw[z]at e;exact e)).rely r
 |gone gA F y=>exact .gone gA (B F) (by rw[z];exact y.rely r)
 |lift c H D E h d=>exact .lift c (j.trans H) (l.trans D) (m.trans E) (h.rely i r) d
 |fx c kd bG bH df M rem bq ok p u q C h d f=>exact .fx c kd bG bH df M rem bq ok p u (cL q r.size) C (h.rely i r h.heap.floor) d (f.rely r j l m)
 |dG c ok K h d f=>exact .dG c ok K (h.rely i r h.l.heap.floor λn own b o e=>gL h.mem e) d (f.rely r j l m)
 |lock c h d f=>exact .lock c (h.rely i r h.r.l.heap.floor λn own b o e=>gL h.r.mem e) d (f.rely r j l m)
 |dB c bq ok p u J q h d f=>exact .dB c bq ok p u J (cL q r.size) (h.rely i r h.r.l.heap.floor λn own b o e=>gL h.r.mem e) d (f.rely r j l m)
 |iu c h d f=>exact .iu c (h.rely i r h.r.l.heap.floor λn own b o e=>gL h.r.mem e) d (f.rely r j l m)
end
section
variable{Z:Stat}{G aB:bX}{t:Tt}{B gX:Nat}
def hy(Z:Stat)(G:bX)(g:Nat):Prop:=g=0\/(∃k,g=Z.wk k/\(G.s k).c≠.un)\/(g=Z.N+2/\G.k≠.un)
structure e5(Z:Stat)(G:bX)(t:Tt)(B:Nat):Prop where
 dy:fp (pl Z G) t (eX Z G) B
 st:∀g,hy Z G g->Started (pl Z G) t g
 uQ:∀k,(G.s k).eC=true->iH (pl Z G) t (Z.wk k)
 d0:Deaf t 0=j1 G.l
 qU:∀k,Deaf t (Z.wk k)=(G.s k).deaf
 oJ:Deaf t (Z.N+2)=G.k.deaf
 above:∀j,Z.N+2<j->Deaf t j=0
 told:∀k,(G.s k).da=true->Told (pl Z G) (· = Z.W) t (Z.wk k)
 shut:G.k.shut=true->Shut (pl Z G) Z.ch t (Z.N+2)
 said:G.k.said=false->∀i a,Z.cT<=i->touchAt t i=some a->a.kind≠.said
 nH:∀(i:Nat) op,Z.cT<=i->t[i]?=some op->op.act.touch?≠none->hy Z G op.g
 over:∀i g,i<Z.cT->t.g? i=some g->g≠0->t.counts i->∃j,t.g? j=some 0/\HappensBefore t i j
structure Apart(Z:Stat)(G:bX):Prop where
 bM:Z.z.T≠Z.W
 rC:Z.z.T≠Z.ch
 wc:Z.W≠Z.ch
 pos:0<Z.N
 xF:∀b,Z.aH b->b≠Z.z.T/\b≠Z.W/\b≠Z.ch/\G.b1 b=Z.N+3/\∀g,¬G.ro g b
 Fi:∀g,¬G.ro g Z.W/\¬G.ro g Z.ch
def Apart.lU(A:Apart Z G):qu (pl Z G) where
 bK:=by
  rintro l bO rfl h;let⟨c,f,m,n,i⟩:=A.xF _ h;refine⟨?_,?_,λg j=>i g j.1⟩
  .rintro(⟨o,e,_⟩|⟨a,e,d⟩|e)
   .injection e with e;rw[e]at c;exact c S6
   .injection e with e;rw[e]at f;exact f d
   .cases e
  .rintro⟨o,e,_⟩
   injection e with e;rw[e]at c;exact c S6
 Fy:=by rintro l bO rfl h;exact(A.xF _ h).2.2.2.1
 oi:=by
  rintro l ⟨o,rfl,p⟩ (⟨q,e,c,f⟩|⟨a,e,d⟩|e)
  .injection e with e;injection e with _ e;omega
  .injection e with e;rw[<-e]at d;exact A.bM d
  .cases e
 x1:=by rintro l ⟨o,rfl,_⟩;rfl
 A7:=by rintro l (⟨o,rfl,_⟩|⟨a,rfl,_⟩|rfl)<;>rfl
structure Grow(G aB:bX)(B:Nat):Prop where
 b1:∀b,b<B->aB.b1 b=G.b1 b
 ro:aB.ro=G.ro
def Hv(h:op.act.low B){a:Touch}(c:op.act.touch?=some a)(hm:a.loc.isMemory=true):blk a.loc<B:=by
 obtain⟨g,fn,pos,act⟩:=op;dsimp only at h c;cases act with
 |access e=>
  cases c;have d:e.loc.low B:=h;generalize e.loc=l at *;cases l with
  |cell a=>exact d
  |obj r=>exact d
  |_=>cases hm
 |mark m=>
  cases m with
  |read a=>cases c;exact h
  |write a=>cases c;exact h
  |_=>cases c
 |_=>cases c
def fp.oa{s:qI}(h:fp (pl Z G) t s B)(r:Grow G aB B):fp (pl Z aB) t s B:=by
 refine⟨h.clean,h.size,h.hX,λi op a j d c hm f g=>?_,?_,h.seen⟩
 .have:=h.own i op a j d c hm f g
  have l:=Hv (h.seen op (Array.mem_of_getElem? d)) c hm;refine this.imp (λx=>x.trans (r.b1 _ l).symm) λx=>⟨x.1,?_⟩
  obtain⟨_,m,n⟩:=x;refine⟨?_,n⟩;rw[r.ro];exact m
 .have:=h.cz
  cases s<;>exact this
def Started.oa(h:Started (pl Z G) t g)(r:Grow G aB B):Started (pl Z aB) t g:=
 ⟨h.old,λl c=>h.ro l ⟨by have:=c.1;rw[r.ro]at this;exact this,c.2⟩⟩
inductive eF where
 |main|dN (k:Ta)|eu
def eF.num(Z:Stat):eF->Nat
 |.main=>0
 |.dN k=>Z.wk k
 |.eu=>Z.N+2
def eF.deaf(G:bX):eF->Nat
 |.main=>j1 G.l
 |.dN k=>(G.s k).deaf
 |.eu=>G.k.deaf
def eF.ig(G:bX):eF->Prop
 |.main=>True
 |.dN k=>(G.s k).c≠.un
 |.eu=>G.k≠.un
def Bw{Z:Stat}{a b:Ta}(h:Z.wk a=Z.wk b):a=b:=by cases a<;>cases b<;>simp[Stat.wk]at h<;>rfl
def eF.xb(hp:0<Z.N){a b:eF}(h:a.num Z=b.num Z):a=b:=by
 cases a<;>cases b<;>simp only[eF.num]at h
 .rfl
 .rename_i k;cases k<;>simp[Stat.wk]at h<;>omega
 .omega
 .rename_i k;cases k<;>simp[Stat.wk]at h<;>omega
 .rw[Bw h]
 .rename_i k;cases k<;>simp[Stat.wk]at h
 .omega
 .rename_i k;cases k<;>simp[Stat.wk]at h
 .rfl
def eF.z7(Z:Stat)(a:eF):a.num Z<=Z.N+2:=by
 cases a with
 |main=>exact T' _
 |dN k=>cases k<;>simp[eF.num,Stat.wk]
 |eu=>exact bg
def e5.tT(h:e5 Z G t B)(a:eF):Deaf t (a.num Z)=a.deaf G:=by
 cases a with
 |main=>exact h.d0
 |dN k=>exact h.qU k
 |eu=>exact h.oJ
def eF.zQ{a:eF}(h:a.ig G):hy Z G (a.num Z):=by
 cases a with
 |main=>exact .inl S6
 |dN k=>exact .inr (.inl ⟨k,S6,h⟩)
 |eu=>exact .inr (.inr ⟨S6,h⟩)
def n0:Tb TL->Ta
 | []=>true
 |e::l=>if e.loc=.mark .enable then l.all (λe=>((MemAct.ofEvent e).touch?).isNone)else n0 l
def MI{j:Nat}(h:(MemOp.ofEvents g fn pos es)[j]?=some op):∃e,es[j]?=some e/\op={g,fn,pos,act:=.ofEvent e}:=by rw[ofEvents_eq,Uk]at h;let⟨e,c,d⟩:=Option.map_eq_some_iff.1 h;exact⟨e,c,d.symm⟩
def Mw{l:Tb TL}(d:n0 l=true)(hd:0<Deaf t g){j:Nat}{e:TL}(he:l[j]?=some e)(f:(MemAct.ofEvent e).touch?≠none):¬(t++MemOp.ofEvents g fn pos l.toArray).heard (t.size+j):=by
 have key:∀(l:Tb TL) (t:Tt),n0 l=true->0<Deaf t g->∀(j:Nat) (e:TL),l[j]?=some e->(MemAct.ofEvent e).touch?≠none->0<(t++MemOp.ofEvents g fn pos l.toArray).deaf g (t.size+j):=by
  intro l;induction l with
  |nil=>intro t _ _ j e he;simp at he
  |cons a l q=>
   intro t d hd j e he f;cases j with
   |zero=>rw[Nat.add_zero,deaf_old bg];exact hd
   |succ j=>
    rw[List.getElem?_cons_succ]at he;unfold n0 at d;split at d
    .rename_i o
     have:=List.all_eq_true.1 d e (hk he);exact Td (by simpa using this) f
    .rename_i o
     have i:t++MemOp.ofEvents g fn pos (a::l).toArray=(t++#[{g,fn,pos,act:=.ofEvent a}])++MemOp.ofEvents g fn pos l.toArray:=by rw[ofEvents_eq,ofEvents_eq];apply Array.ext';simp
     have n:0<Deaf (t++#[{g,fn,pos,act:=.ofEvent a}]) g:=by
      rw[Deaf_push];unfold deafStep;split
      .split<;>omega
      .rename_i y
       exfalso;obtain⟨loc,wr,r⟩:=a;cases loc with
       |mark m=>cases m<;>simp_all [MemAct.ofEvent]
       |obj c=>cases wr<;>cases r<;>simp_all [MemAct.ofEvent]
       |_=>simp_all [MemAct.ofEvent]
      .exact hd
     have:=q _ d n j e he f;rw[i];have u:(t++#[({g,fn,pos,act:=.ofEvent a}:MemOp)]).size+j=t.size+(j+1):=cH;rw[u]at this;exact this
 rintro⟨g',h,w⟩;have p:(t++MemOp.ofEvents g fn pos l.toArray)[t.size+j]?=some {g,fn,pos,act:=.ofEvent e}:=by rw[Uo U,ofEvents_eq];simp[he]
 have:g'=g:=by simp[Trace.g?,p]at h;exact h.symm
 subst this;have:=key l t d hd j e he f;omega
structure vq(Z:Stat)(G:bX)(t:Tt)(i B:Nat)(e:TL):Prop where
 low:(MemAct.ofEvent e).low B
 ok:∀b,(MemAct.ofEvent e).touch?=some b->b.loc.isMemory=true->vu (pl Z G) i b\/((pl Z G).ik b.loc/\(eX Z G=.written i\/(eX Z G=.done/\b.write=false/\iH (pl Z G) t i)))
 flag:e.loc=.cell (S8 Z.z.T 4)->e.write=false
def _root_.Go.aO.iH.MN{L:qE}(h:iH L t g)(y:MemOp)(i:∀a,y.act.touch?=some a->¬L.ik a.loc):iH L (t++#[y]) g:=
 h.app λop c a d f _=>by simp at c;subst c;exact Td f (i a d)
def e5.core(A:Apart Z aB)(h:e5 Z G t B)(r:Grow G aB B)(cl:eF)(aa:cl.ig G){l:Tb TL}(au:Z.cT<=t.size)(av:fp (pl Z aB) (t++MemOp.ofEvents (cl.num Z) fn pos l.toArray) (eX Z aB) gX)(aj:∀e∈l,∀b,(MemAct.ofEvent e).touch?=some b->b.loc.isMemory=true->vu (pl Z aB) (cl.num Z) b\/(pl Z aB).ik b.loc)(C:∀a:eF,a.ig aB↔a.ig G)(V:cl.deaf aB=deafBehind (cl.deaf G) l.toArray)(W:∀a:eF,a≠cl->a.deaf aB=a.deaf G)(am:∀k,(aB.s k).eC=true->(G.s k).eC=true\/iH (pl Z aB) (t++MemOp.ofEvents (cl.num Z) fn pos l.toArray) (Z.wk k))(R:∀e∈l,∀b,(MemAct.ofEvent e).touch?=some b->(pl Z aB).ik b.loc->b.write=true->∀k,(aB.s k).eC=false)(ap:∀k,(aB.s k).da=true->(G.s k).da=true/\(cl=.dN k->(n0 l=true/\(0<cl.deaf G\/∀e∈l,(MemAct.ofEvent e).touch?=none))/\∀e∈l,∀b,(MemAct.ofEvent e).touch?=some b->(∃bO,b.loc=.cell bO/\bO.block=Z.W)/\b.kind=.atomic))(aq:aB.k.shut=true->G.k.shut=true/\(cl=.eu->∀e∈l,(MemAct.ofEvent e).touch?=none))(al:∀e∈l,∀b,(MemAct.ofEvent e).touch?=some b->b.kind=.said->G.k.said=false/\aB.k.said=true)(ao:aB.k.said=false->G.k.said=false):
 e5 Z aB (t++MemOp.ofEvents (cl.num Z) fn pos l.toArray) gX:=by
 have hu:∀op∈MemOp.ofEvents (cl.num Z) fn pos l.toArray,op.g=cl.num Z:=λop m=>by obtain⟨e,_,rfl⟩:=Go.Conc.mem_ofEvents m;rfl
 have ar:∀g,hy Z G g->Started (pl Z aB) t g:=λg f=>(h.st g f).oa r
 have hm:hy Z G (cl.num Z):=eF.zQ aa;have I:∀g,hy Z aB g↔hy Z G g:=by
  intro g;constructor
  .rintro(rfl|⟨k,rfl,c⟩|⟨rfl,c⟩)
   .exact .inl S6
   .exact .inr (.inl ⟨k,S6,(C (.dN k)).1 c⟩)
   .exact .inr (.inr ⟨S6,(C .eu).1 c⟩)
  .rintro(rfl|⟨k,rfl,c⟩|⟨rfl,c⟩)
   .exact .inl S6
   .exact .inr (.inl ⟨k,S6,(C (.dN k)).2 c⟩)
   .exact .inr (.inr ⟨S6,(C .eu).2 c⟩)
 have other:∀g,g≠cl.num Z->Deaf (t++MemOp.ofEvents (cl.num Z) fn pos l.toArray) g=Deaf t g:=λg f=>Deaf_other t (TT f) _ hu
 have D:∀a:eF,Deaf (t++MemOp.ofEvents (cl.num Z) fn pos l.toArray) (a.num Z)=a.deaf aB:=by
  intro a;by_cases d:a=cl
  .subst d;rw[Deaf_own,h.tT,V]
  .rw[other _ (λe=>d (eF.xb A.pos e)),h.tT,W a d]
 have o6:∀op∈MemOp.ofEvents (cl.num Z) fn pos l.toArray,∀b,op.act.touch?=some b->b.loc.isMemory=true->vu (pl Z aB) (cl.num Z) b\/(pl Z aB).ik b.loc:=by intro op m b n S;obtain⟨e,he,rfl⟩:=Go.Conc.mem_ofEvents m;exact aj e (by simpa using he) b n S
 refine⟨av,λg f=>?_,λk c=>?_,D .main,λk=>D (.dN k),D .eu,λj p=>?_,λk c=>?_,λc=>?_,λc i a o d=>?_,λi op o H y=>?_,λi g o f af T=>?_⟩
 .refine(ar g ((I g).1 f)).app (λop m a d u P ag ah=>?_) au
  rcases o6 op m a d P.2.1 with(⟨q,_⟩|⟨_,_,_,hx⟩|⟨_,_,_,hx⟩)|hx
  .exact Td q ag
  .by_cases K:g=cl.num Z
   .rw[hu op m,K]
   .exact Td P (hx u g K)
  .rw[hx]at u;cases u
  .exact Td hx ah
 .rcases am k c with hk0|hk0
  .have q:iH (pl Z aB) t (Z.wk k):=h.uQ k hk0
   refine q.app λop m a d n u=>?_
   obtain⟨e,he,rfl⟩:=Go.Conc.mem_ofEvents m;have:=R e (by simpa using he) a d n u k;rw[c]at this;cases this
  .exact hk0
 .have hle:=cl.z7 Z
  rw[other j U,h.above j p]
 .let⟨E,F⟩:=ap k c
  have y:Told (pl Z aB) (· = Z.W) t (Z.wk k):=h.told k E;by_cases L:cl=.dN k
  .let⟨⟨Y,hdf⟩,J⟩:=F L
   refine y.app λj op a H f d hm=>?_
   obtain⟨e,he,rfl⟩:=MI H;have w:l[j]?=some e:=by simpa using he
   refine⟨(J e (hk w) a d).1,(J e (hk w) a d).2,?_⟩;rcases hdf with hdf|hdf
   .exact Mw Y (by rw[h.tT];exact hdf) w (by rw[d];simp)
   .rw[hdf e (hk w)]at d;cases d
  .refine y.other λop m f=>?_
   rw[hu op m]at f;exact Td (eF.xb A.pos (a:=cl) (b:=.dN k) f) L
 .let⟨E,F⟩:=aq c
  have q:Shut (pl Z aB) Z.ch t (Z.N+2):=h.shut E;refine q.app λop m f=>?_
  rw[hu op m]at f;obtain⟨e,he,rfl⟩:=Go.Conc.mem_ofEvents m;exact F (eF.xb A.pos (a:=cl) (b:=.eu) f) e (by simpa using he)
 .let⟨x,hx,Q⟩:=touch_of d
  rcases getElem?_append_cases hx with⟨_,aw⟩|⟨_,ax⟩
  .exact h.said (ao c) i a o (by rw[touchAt_of aw];exact Q)
  .obtain⟨e,he,rfl⟩:=Go.Conc.mem_ofEvents ax
   intro ae;have:=(al e (by simpa using he) a Q ae).2;rw[c]at this;cases this
 .rcases getElem?_append_cases H with⟨_,ai⟩|⟨_,ak⟩
  .exact(I _).2 (h.nH i op o ai y)
  .rw[hu op ak];exact(I _).2 hm
 .have M:i<t.size:=U
  have X:t.g? i=some g:=by simpa [Trace.g?,getElem?_append_old M]using f
  let⟨j,p,n⟩:=h.over i g o X af ((counts_old M).1 T);have ad:j<t.size:=by unfold Trace.g? at p;let⟨z,ay,_⟩:=Option.map_eq_some_iff.1 p;exact lt_size_of_getElem? ay
  exact⟨j,by simpa [Trace.g?,getElem?_append_old ad]using p,hb_app _ n⟩
def e5.app(A:Apart Z aB)(h:e5 Z G t B)(r:Grow G aB B)(z:B<=gX)(cl:eF)(p:cl.ig G){l:Tb TL}(y:fp (pl Z aB) t (eX Z aB) B)(j:∀e∈l,vq Z aB t (cl.num Z) gX e)(V:∀a:eF,a.ig aB↔a.ig G)(D:cl.deaf aB=deafBehind (cl.deaf G) l.toArray)(E:∀a:eF,a≠cl->a.deaf aB=a.deaf G)(M:∀k,(aB.s k).eC=true->(G.s k).eC=true\/iH (pl Z aB) (t++MemOp.ofEvents (cl.num Z) fn pos l.toArray) (Z.wk k))(C:∀e∈l,∀b,(MemAct.ofEvent e).touch?=some b->(pl Z aB).ik b.loc->b.write=true->∀k,(aB.s k).eC=false)(Q:∀k,(aB.s k).da=true->(G.s k).da=true/\(cl=.dN k->(n0 l=true/\(0<cl.deaf G\/∀e∈l,(MemAct.ofEvent e).touch?=none))/\∀e∈l,∀b,(MemAct.ofEvent e).touch?=some b->(∃bO,b.loc=.cell bO/\bO.block=Z.W)/\b.kind=.atomic))(S:aB.k.shut=true->G.k.shut=true/\(cl=.eu->∀e∈l,(MemAct.ofEvent e).touch?=none))(u:∀e∈l,∀b,(MemAct.ofEvent e).touch?=some b->b.kind=.said->G.k.said=false/\aB.k.said=true)(P:aB.k.said=false->G.k.said=false):
 e5 Z aB (t++MemOp.ofEvents (cl.num Z) fn pos l.toArray) gX:=by
 have hu:∀op∈MemOp.ofEvents (cl.num Z) fn pos l.toArray,op.g=cl.num Z:=λop d=>by obtain⟨e,_,rfl⟩:=Go.Conc.mem_ofEvents d;rfl
 have w:∀g,hy Z G g->Started (pl Z aB) t g:=λg H=>(h.st g H).oa r
 have hm:hy Z G (cl.num Z):=eF.zQ p;have F:=A.lU;have T:fp (pl Z aB) (t++MemOp.ofEvents (cl.num Z) fn pos l.toArray) (eX Z aB) gX:=by
  refine(y.mono z).app F (by have:=cl.z7 Z;show _≠Z.N+3;omega) (w _ hm) hu ?_ ?_ ?_ ?_
  .intro op d b f n
   obtain⟨e,he,rfl⟩:=Go.Conc.mem_ofEvents d;exact(j e (by simpa using he)).ok b f n
  .intro op d b f J L i a o K q
   obtain⟨e,he,rfl⟩:=Go.Conc.mem_ofEvents d;have R:=(u e (by simpa using he) b f J).1;by_cases I:i<Z.cT
   .rcases(w _ hm).old i a I o (by rw[K];exact F.A7 _ L)with k|⟨⟨bO,X,Y⟩,k⟩
    .exact k
    .rw[q]at k;cases k
   .exact Td q (h.said R i a U o)
  .intro op d sync aa
   obtain⟨e,he,rfl⟩:=Go.Conc.mem_ofEvents d;have:e.loc=.cell (S8 Z.z.T 4)/\e.write=true:=by
    obtain⟨loc,wr,W⟩:=e;cases loc with
    |obj c=>cases wr<;>cases W<;>simp_all [MemAct.ofEvent]
    |mark m=>simp_all [MemAct.ofEvent]
    |_=>simp_all [MemAct.ofEvent,pl]
   have k:=(j e (by simpa using he)).flag this.1;rw[this.2]at k;cases k
  .intro op d
   obtain⟨e,he,rfl⟩:=Go.Conc.mem_ofEvents d;exact(j e (by simpa using he)).low
 exact e5.core A h r cl p y.size T (λe he b f n=>((j e he).ok b f n).imp id And.left) V D E M C Q S u P
def e5.raise(A:Apart Z aB)(h:e5 Z G t B)(r:Grow G aB B)(cl:eF)(o:cl.ig G)(w:eX Z G=.written (cl.num Z))(y:eX Z aB=.done)(z:Z.z.T<B)(J:∀a:eF,a.ig aB↔a.ig G)(m:cl.deaf G=0)(n:∀a:eF,a.deaf aB=a.deaf G)(E:∀k,(aB.s k).eC=true->cl=.dN k)(p:∀k,(aB.s k).da=true->(G.s k).da=true/\cl≠.dN k)(q:aB.k.shut=true->G.k.shut=true/\cl≠.eu)(F:aB.k.said=false->G.k.said=false):
 e5 Z aB (t++MemOp.ofEvents (cl.num Z) fn pos #[⟨.cell (S8 Z.z.T 4),true,true⟩]) B:=by
 have hm:hy Z G (cl.num Z):=eF.zQ o;have f:(pl Z aB).jy (.cell (pl Z aB).kX):=.inl ⟨4,S6,U,U⟩;have e:MemOp.ofEvents (cl.num Z) fn pos #[⟨.cell (S8 Z.z.T 4),true,true⟩]=#[{g:=cl.num Z,fn,pos,act:=.access ⟨.cell (S8 Z.z.T 4),true,true⟩}]:=by rw[ofEvents_eq];simp[MemAct.ofEvent]
 have i:=h.dy.oa r;rw[w]at i;have u:Started (pl Z aB) t (cl.num Z):=(h.st _ hm).oa r;have D:Deaf t (cl.num Z)=0:=by rw[h.tT];exact m
 have I:fp (pl Z aB) (t++MemOp.ofEvents (cl.num Z) fn pos #[⟨.cell (S8 Z.z.T 4),true,true⟩]) (eX Z aB) B:=by rw[e,y];exact i.raise A.lU u ⟨S6,S6⟩ D f z
 refine e5.core (l:=[⟨.cell (S8 Z.z.T 4),true,true⟩]) A h r cl o i.size I (λe he b d K=>?_) J ?_ (λa _=>n a) (λk c=>.inr ?_) (λe he b d H L k=>?_) (λk c=>⟨(p k c).1,λj=>Td j (p k c).2⟩) (λc=>⟨(q c).1,λj=>Td j (q c).2⟩) (λe he b d c=>?_) F
 .simp at he;subst he
  cases d;exact .inl (.inl ⟨f,aF⟩)
 .rw[n,m];rfl
 .obtain rfl:=E k c
  rw[e];exact(i.writer A.lU u).MN _ λa C d=>by cases C;exact(A.lU.oi _ d f).elim
 .simp at he;subst he
  cases d;exact(A.lU.oi _ H f).elim
 .simp at he;subst he
  cases d;cases c
end
section
variable{X:et}{Z:Stat}{G aB:bX}{u aC w:S7}{t bh:Tt}{B gX:Nat}
def gY(Z:Stat)(G:bX)(i b:Nat):Prop:=(b≠Z.z.T/\b≠Z.W/\b≠Z.ch)/\G.b1 b=i/\∀h,h≠i->¬G.ro h b
structure vt(Z:Stat)(G:bX):Prop where
 ro:∀k b,(b=Z.z.T\/b=Z.z.F\/b=Z.z.R\/b=Z.z.gx\/b=Z.z.gy\/b=Z.z.Fr)->G.ro (Z.wk k) b
 Ax:∀k b,(b=Z.cg\/b=Z.bc)->G.ro (Z.wk k) b
 Fj:G.ro (Z.N+2) Z.cg
 gB:∀b,(b=Z.z.F\/b=Z.z.R\/b=Z.z.gx\/b=Z.z.gy\/b=Z.z.Fr)->(b≠Z.z.T/\b≠Z.W/\b≠Z.ch)/\b<Z.aL.heap.size
 hF:Z.aL.heap[Z.z.F]?=some (.cells #[ah 2,ah 1] 3 (0,0))
 c5:Z.aL.heap[Z.z.R]?=some (.cells #[ah 0,sl Z.z.gx 2,ah 2,sl Z.z.gy 2] 27 (0,0))
 kI:Z.aL.heap[Z.z.gx]?=some (.cells #[ah 1,ah 2] 3 (0,0))
 kk:Z.aL.heap[Z.z.gy]?=some (.cells #[ah 3,ah 1] 3 (0,0))
 lX:Z.aL.heap[Z.z.Fr]?=some (.cells #[ah 3] 3 (0,0))
 wD:aK.globals.size<=Z.z.T/\aK.globals.size<=Z.z.F
def vt.grow(h:vt Z G)(d:∀h b,G.ro h b->aB.ro h b):vt Z aB:=⟨λk b c=>d _ _ (h.ro k b c),λk b c=>d _ _ (h.Ax k b c),d _ _ h.Fj,h.gB,h.hF,h.c5,h.kI,h.kk,h.lX,h.wD⟩
structure Base(Z:Stat)(G:bX)(w:S7)(t:Tt):Prop where
 ww:ea Z G w
 b9:g5 G
 ap:Apart Z G
 dy:e5 Z G t w.heap.size
 oc:∀h b,G.ro h b->b<w.heap.size
 s0:∀b,Z.aH b->b<w.heap.size
 hold:∀b,b<Z.aL.heap.size->b≠Z.z.T->G.b1 b=Z.N+3\/(G.b1 b=0/\∃h,h≠0/\G.ro h b)
 old:Z.aL.heap.size<=w.heap.size
 o4:Z.aL.heap.size<=Z.W/\Z.aL.heap.size<=Z.ch
 iA:vt Z G
 rn:∀h b,h≠0->G.ro h b->G.b1 b=0
 cfg:∀k,(G.bP k).W=Z.W/\(G.bP k).T=Z.z.T/\(G.bP k).ch=Z.ch/\(G.bP k).cg=Z.cg/\(G.bP k).i=(if k then 1 else 0)
def Base.Eh(h:Base Z G w t)(b:Nat)(l:b<Z.aL.heap.size)(g:b≠Z.z.T)(i:Nat)(o:i<=Z.N+2):¬gY Z G i b:=by
 rintro⟨_,d,f⟩;rcases h.hold b l g with c|⟨c,j,m,n⟩
 .omega
 .obtain rfl:i=0:=d.symm.trans c
  exact f j m n
def ea.at(h:ea Z G w)(k:Nat):ea Z G (w.at k):=⟨h.T,h.W,h.ch,h.old,h.calm.trans (Calm.at w k)⟩
def Base.at(h:Base Z G w t)(k:Nat):Base Z G (w.at k) t:=⟨h.ww.at k,h.b9,h.ap,h.dy,h.oc,h.s0,h.hold,h.old,h.o4,h.iA,h.rn,h.cfg⟩
def e0.at(Z:Stat)(G:bX)(i:Nat)(h:ea Z G w)(k:Nat):e0 Z G G i w (w.at k):=
 ⟨bg,λ_ _=>S6,λ_ _ h=>h,λ_ _ _ h=>.inl h,λ_ _ _ _ _ _ _=>S6,⟨_,_,_,_,h.T⟩⟩
structure Alike(G aB:bX):Prop where
 role:∀k,(aB.s k).role=(G.s k).role
 cR:∀k,(aB.s k).cR=(G.s k).cR
 da:∀k,(aB.s k).da=(G.s k).da
 deaf:∀k,(aB.s k).deaf=(G.s k).deaf
 eC:∀k,(aB.s k).eC=true->(G.s k).eC=true
 un:∀k,(aB.s k).c=.un↔(G.s k).c=.un
 Lh:aB.k.ph=G.k.ph
 Ld:aB.k.deaf=G.k.deaf
 Lc:G.k.bound<=aB.k.bound
 zE:aB.k.shut=G.k.shut
 Li:aB.k.said=G.k.said
 Dw:aB.k=.un↔G.k=.un
 km:24<=aB.l↔24<=G.l
 zG:aB.l<26↔G.l<26
 zH:aB.l<27↔G.l<27
 zF:17<=aB.l
 DC:dF aB.l=dF G.l
 Lq:j1 aB.l=j1 G.l
 mu:aB.mu=G.mu
 ms:aB.ms=G.ms
 aY:aB.aY=G.aY
 bc:aB.bc=G.bc
 v:aB.v=G.v
 m:aB.m=G.m
 ro:aB.ro=G.ro
 bP:aB.bP=G.bP
def Alike.ee(h:Alike G aB):eX Z aB=eX Z G:=by unfold eX;rw[h.aY,h.role,h.role]
def Alike.agree(h:Alike G aB)(a:g5 G):g5 aB where
 once:=by rw[h.role,h.role,h.mu,h.ms,h.aY,h.bc];exact a.once
 wg:=by have e:decide (24<=aB.l)=decide (24<=G.l):=decide_eq_decide.2 h.km;rw[e,h.cR,h.cR,h.Lh,h.v,h.m];exact a.wg
 bound:=by rw[h.cR,h.cR];exact cL a.bound h.Lc
 cnt:=by rw[h.DC,h.da,h.da];exact a.cnt
 l9:=by rw[h.zG,h.un];exact a.l9
 mS:=by rw[h.zH,h.Dw];exact a.mS
 pG:=λe=>a.pG ((h.un false).1 e)
 bY:=h.zF
 eC:=λk e=>by rw[h.aY];exact a.eC k (h.eC k e)
def Alike.born(h:Alike G aB)(a:eF):a.ig aB↔a.ig G:=by
 cases a with
 |main=>exact T4
 |dN k=>exact not_congr (h.un k)
 |eu=>exact not_congr h.Dw
def Alike.Dp(h:Alike G aB)(a:eF):a.deaf aB=a.deaf G:=by
 cases a with
 |main=>exact h.Lq
 |dN k=>exact h.deaf k
 |eu=>exact h.Ld
inductive lx(Z:Stat)(G:bX)(t:Tt)(i B:Nat):TL->Prop
 |mem {loc:Loc} {wr hX:Ta} (hm:loc.isMemory=true) (hb:blk loc<B) (af:hX=true->∃a,loc=.cell a) (I:blk loc≠Z.W/\blk loc≠Z.ch) (a':blk loc=Z.z.T->loc=.obj Z.z.T\/∃o,loc=.cell ⟨Z.z.T,o,none⟩/\o<4)
  (az:gY Z G i (blk loc)\/((G.ro i (blk loc)\/(G.b1 (blk loc)=i/\blk loc≠Z.z.T))/\wr=false)):lx Z G t i B ⟨loc,wr,hX⟩
 |mark {m:Mark} (h:m=.noRoom\/∃f,m=.extern f):lx Z G t i B ⟨.mark m,false,true⟩
 |cz {o:Nat} (h:13<=o) (hb:Z.z.T<B) (hd:eX Z G=.done) (af:iH (pl Z G) t i):lx Z G t i B ⟨.cell ⟨Z.z.T,o,none⟩,false,false⟩
def L8{loc:Loc}{c:Ta}(hm:loc.isMemory=true)(d:c=true->∃a,loc=.cell a):MemAct.ofEvent ⟨loc,wr,c⟩=.access ⟨loc,wr,c⟩:=by
 cases loc with
 |cell a=>rfl
 |obj r=>
  cases c with
  |true=>let⟨a,e⟩:=d S6;cases e
  |false=>cases wr<;>rfl
 |_=>cases hm
def LU{loc:Loc}{B:Nat}(hm:loc.isMemory=true)(h:blk loc<B):loc.low B:=by
 cases loc with
 |cell a=>exact h
 |obj r=>exact h
 |_=>cases hm
def lx.zb{e:TL}(A:Apart Z G)(h:lx Z G t i B e):vq Z G t i B e/\(∀b,(MemAct.ofEvent e).touch?=some b->(pl Z G).ik b.loc->b.write=false)/\(∀b,(MemAct.ofEvent e).touch?=some b->b.kind≠.said)/\(e.loc≠.mark .disable/\e.loc≠.mark .enable):=by
 cases h with
 |@mem loc wr E hm c p q n g=>
  have j:=L8 (wr:=wr) hm p;have l:¬(pl Z G).jy loc:=by
   rintro(⟨o,rfl,w,_⟩|⟨a,rfl,y⟩|rfl)
   .rcases n rfl with e|⟨D,e,_⟩
    .cases e
    .injection e with e;injection e with _ e;omega
   .exact q.1 y
   .exact q.2 S6
  have m:¬(pl Z G).ik loc:=by
   rintro⟨o,rfl,w⟩;rcases n rfl with e|⟨D,e,_⟩
   .cases e
   .injection e with e;injection e with _ e;omega
  refine⟨⟨by rw[j];exact LU hm c,λb d _=>?_,λe=>?_⟩,λb d=>?_,λb d=>?_,?_⟩
  .rw[j]at d
   cases d;refine .inl ?_;rcases g with g|⟨g|⟨g,F⟩,r⟩
   .exact .inr (.inl ⟨l,m,g.2.1,λ_ h z C=>g.2.2 h z C.1⟩)
   .exact .inr (.inr ⟨l,m,⟨g,hm,n⟩,r⟩)
   .exact .inr (.inl ⟨l,m,g,λu=>by rw[r]at u;cases u⟩)
  .have e:loc=.cell ⟨Z.z.T,4,none⟩:=e
   subst e;exact Td (.inl ⟨4,S6,U,U⟩) l
  .rw[j]at d;cases d;exact λk=>Td k m
  .rw[j]at d;cases d;cases E<;>simp
  .cases loc<;>first|(cases hm;done)|exact⟨aF,aF⟩
 |mark h=>
  rcases h with rfl|⟨f,rfl⟩
  .exact⟨⟨Tf,λb c=>((by cases c)),λe=>((by cases e))⟩,λb c=>((by cases c)),λb c=>((by cases c)),aF,aF⟩
  .exact⟨⟨Tf,λb c=>((by cases c)),λe=>((by cases e))⟩,λb c=>((by cases c)),λb c=>((by cases c)),aF,aF⟩
 |@cz o h c hd p=>
  refine⟨⟨c,λb d _=>?_,λ_=>S6⟩,λb d _=>?_,λb d=>?_,aF,aF⟩
  .cases d;exact .inr ⟨⟨o,S6,h⟩,.inr ⟨hd,S6,p⟩⟩
  .cases d;rfl
  .cases d;simp
def Si(Z:Stat)(k:Ta):Z.wk k<=Z.N+2:=by cases k<;>simp[Stat.wk]
def Base.l3(h:Base Z G u t)(cl:eF)(p:cl.ig G)(fA:Alike G aB)(L:∀b,aB.b1 b=if b<u.heap.size then G.b1 b else cl.num Z)(calm:Calm u aC)(keep:∀b,b<u.heap.size->aC.heap[b]?≠u.heap[b]?->gY Z G (cl.num Z) b){l:Tb TL}(cI:∀e∈l,lx Z aB t (cl.num Z) aC.heap.size e)(D:∀k,cl=.dN k->(G.s k).da=true->∀e∈l,(MemAct.ofEvent e).touch?=none)(C:cl=.eu->G.k.shut=true->∀e∈l,(MemAct.ofEvent e).touch?=none)(fn:Tw)(pos:T6):
 Base Z aB aC (t++MemOp.ofEvents (cl.num Z) fn pos l.toArray)/\∀i,i≠cl.num Z->e0 Z G aB i u aC:=by
 have f:∀b,b<u.heap.size->¬gY Z G (cl.num Z) b->aC.heap[b]?=u.heap[b]?:=λb c hm=>Uh λg=>hm (keep b c g)
 have lt:=λ{b:Nat} {o:Obj} (e:u.heap[b]?=some o)=>(bu e:b<u.heap.size)
 have mq:=f _ (lt h.ww.T) λhm=>hm.1.1 S6
 have I:=f _ (lt h.ww.W) λhm=>hm.1.2.1 S6
 have H:=f _ (lt h.ww.ch) λhm=>hm.1.2.2 S6
 have j:∀b,b<u.heap.size->aB.b1 b=G.b1 b:=λb c=>by rw[L,Tq c]
 have n:Apart Z aB:=⟨h.ap.bM,h.ap.rC,h.ap.wc,h.ap.pos,λb c=>by let⟨q,w,y,J,K⟩:=h.ap.xF b c;refine⟨q,w,y,(j b (h.s0 b c)).trans J,?_⟩;rw[fA.ro];exact K,by rw[fA.ro];exact h.ap.Fi⟩
 have hle:=cl.z7 Z;refine⟨⟨⟨?_,?_,?_,λb c m=>?_,h.ww.calm.trans calm⟩,fA.agree h.b9,n,?_,λi b c=>?_,λb c=>gu (h.s0 b c) calm.size,λb c m=>?_,cL h.old calm.size,h.o4,(h.iA.grow λi b c=>by rw[fA.ro];exact c),(λi b p c=>by rw[fA.ro]at c;rw[j b (h.oc i b c)];exact h.rn i b p c),by rw[fA.bP];exact h.cfg⟩,λi B=>⟨calm.size,j,λi b c=>by rw[fA.ro];exact c,λi b _ c=>.inl (by rw[fA.ro]at c;exact c),λb c q w y az _=>?_,⟨_,_,_,_,mq.trans h.ww.T⟩⟩⟩
 .rw[fA.mu,fA.ms,fA.aY,fA.bc];exact mq.trans h.ww.T
 .rw[fA.v,fA.m];exact I.trans h.ww.W
 .rw[fA.zE,fA.DC];exact H.trans h.ww.ch
 .rw[f b (gu c h.old) (h.Eh b c m _ hle)]
  exact h.ww.old b c m
 .have r:Grow G aB u.heap.size:=⟨j,fA.ro⟩
  have Q:fp (pl Z aB) t (eX Z aB) u.heap.size:=by rw[fA.ee];exact h.dy.dy.oa r
  have E:=λe he=>(cI e he).zb n
  refine e5.app n h.dy r calm.size cl p Q (λe he=>(E e he).1) fA.born ?_ (λa _=>fA.Dp a) (λk d=>.inl (fA.eC k d)) (λe he b c P F=>by rw[(E e he).2.1 b c P]at F;cases F) (λk d=>?_) (λd=>?_) (λe he b c M=>Td M ((E e he).2.2.1 b c)) λd=>by rw[<-fA.Li];exact d
  .rw[fA.Dp]
   exact(deafBehind_still (λe he=>(E e (by simpa using he)).2.2.2) _).symm
  .rw[fA.da]at d
   refine⟨d,λg=>?_⟩;have:=D k g d;refine⟨⟨?_,.inr this⟩,λe he b c=>by rw[this e he]at c;cases c⟩;have z:=λe he=>(E e he).2.2.2.2
   clear this cI E D C;induction l with
   |nil=>rfl
   |cons a l R=>
    unfold n0;rw[Tm (z a aF)];exact R λe he=>z e (by simp[he])
  .rw[fA.zE]at d
   exact⟨d,λg=>C g d⟩
 .rw[fA.ro]at c
  exact gu (h.oc i b c) calm.size
 .rw[j b (gu c h.old),fA.ro];exact h.hold b c m
 .refine f b c λhm=>?_
  rcases az with az|az
  .exact B (az.symm.trans hm.2.1)
  .exact hm.2.2 i B az
end
section
variable{Pos:Type}{A:de Pos}{X:et}{Z:Stat}{G aB:bX}{u aC w:S7}{t bh:Tt}{B gX i n j m:Nat}{p:Pos}{Tc:Tz}{x:bA}{g:TC}
def cB.shape(h:cB A Z G i p Tc x g w n j):∃st off,g=⟨x.1,x.2++Tc,st,none,off⟩:=by obtain⟨fr,cs,st,l,off⟩:=g;have c:=h.fr;have d:=h.cs;have f:=h.m';dsimp only at c d f;subst c;subst d;subst f;exact⟨st,off,S6⟩
def cB.xx(h:cB A Z G i p Tc x g w n j){q:Pos}(f:eJ A c9 q bw y)(c:bw<=400)(hm:gN (A.mem q) u)(d:Own Z aB i (A.mem q)):cB A Z aB i q Tc y (bW y Tc) u c9 bw:=
 ⟨f,c,rfl,rfl,rfl,hm,d⟩
def cB.quiet(T:dn A.P A.ext)(h:cB A Z G i p Tc x g w n j):(∃m,n=m+1/\At A m p x)\/
 ∃y bw,bw<j/\cB A Z G i p Tc y (bW y Tc) w n bw/\∀main (u:S7),stepG A.P main g u=.go (bW y Tc) u:=by
 rcases h.on.step T with k|⟨y,bw,c,d,f⟩
 .exact .inl k
 .refine .inr ⟨y,bw,c,⟨d,by have:=h.le;omega,S6,S6,S6,h.mem,h.own⟩,λmain u=>?_⟩
  obtain⟨st,off,rfl⟩:=h.shape;exact f main Tc st off u
def cB.bL(T:dn A.P A.ext)(F:∀p,A.dh p<=400)(h:cB A Z G i p Tc x g u n j)(C:At A m p x){to:Pos}(he:Edge.bL ops to∈A.cz p)(K:∀b,aB.b1 b=if b<u.heap.size then G.b1 b else i)(z:aB.ro=G.ro):
 ∃(y:bA) (aC:S7) (l:Tb TL) (bw:Nat),cB A Z aB i to Tc y (bW y Tc) aC m bw/\(∀main,stepG A.P main g u=.go (bW y Tc) aC l.toArray)/\Calm u aC/\(∀b,b<u.heap.size->aC.heap[b]?≠u.heap[b]?->gY Z G i b/\∃(k:Nat) (o:Obj),(A.mem p)[k]?=some (true,b,o))/\(∀e∈l,lx Z aB t i aC.heap.size e)/\(∀(k:Nat) own b o,(A.mem to)[k]?=some (own,b,o)->∃q,(A.mem p)[k]?=some (own,b,q)):=by
 let⟨y,J,L,M⟩:=C.bL T he;let⟨aC,hd,hm,D,_,P,H,E,w,_⟩:=uJ L h.mem;obtain⟨st,off,rfl⟩:=h.shape;have mine:∀(b k:Nat) o,(A.mem p)[k]?=some (true,b,o)->gY Z G i b:=λb k o e=>by let⟨d,_,f⟩:=h.own k true b o e;exact⟨d,f S6⟩
 have B:∀b,b<u.heap.size->aB.b1 b=G.b1 b:=λb c=>by rw[K,Tq c]
 refine⟨y,aC,_,_,h.xx J (F _) hm ?_,λmain=>M main Tc st off u aC _ hd,D,λb c I=>?_,λe he=>?_,w⟩
 .intro k own b o e
  let⟨q,r⟩:=w k own b o e;let⟨d,R,f⟩:=h.own k own b q r;have c:=gL h.mem r;rw[B b c,z];exact⟨d,R,f⟩
 .refine Uh λQ=>I (H b λk o e=>Q ⟨mine b k o e,k,o,e⟩)
 .obtain⟨k,own,b,o,V,wr,d,rfl,f⟩:=E e he
  let⟨q1,S,U⟩:=h.own k own b o d;have c:=gL h.mem d;refine .mem S6 (by rw[P];exact c) aF ⟨q1.2.1,q1.2.2⟩ (λe=>Td e q1.1) ?_;show gY Z aB i b\/((aB.ro i b\/(aB.b1 b=i/\b≠Z.z.T))/\wr=false)
  unfold gY;rw[B b c,z];cases wr with
  |true=>exact .inl ⟨q1,U (f S6)⟩
  |false=>exact .inr ⟨S.symm.imp id λx=>⟨x,q1.1⟩,S6⟩
def cB.z2(T:dn A.P A.ext)(C:∀p,A.dh p<=400)(h:cB A Z G i p Tc x g u n j)(B:At A m p x){to:Nat->Pos}(he:Edge.new true o to∈A.cz p)(l:∀b,aB.b1 b=if b<u.heap.size then G.b1 b else i)(q:aB.ro=G.ro)(D:∀h b,G.ro h b->b<u.heap.size)(L:Z.z.T<u.heap.size/\Z.W<u.heap.size/\Z.ch<u.heap.size):
 ∃y aC bw,cB A Z aB i (to u.heap.size) Tc y (bW y Tc) aC m bw/\(∀main,stepG A.P main g u=.go (bW y Tc) aC)/\Calm u aC/\(∀b,b<u.heap.size->aC.heap[b]?=u.heap[b]?)/\aC.heap.size=u.heap.size+1:=by
 let⟨y,E,d,H⟩:=B.new T he u.heap.size;obtain⟨st,off,rfl⟩:=h.shape;have I:∀b,b<u.heap.size->aB.b1 b=G.b1 b:=λb c=>by rw[l,Tq c]
 refine⟨y,_,_,h.xx E (C _) (by rw[d];exact h.mem.push S6) ?_,λmain=>H main Tc st off u S6,⟨aF,S6,S6,Go.ConcM.OsLater.refl _⟩,λb c=>?_,aF⟩
 .intro k own b r e
  rw[d]at e;have e:(A.mem p++[(true,u.heap.size,o)])[k]?=some (own,b,r):=e;rcases Ub k (A.mem p).length with k1|k1
  .rw[jz k1]at e
   let⟨q1,J,K⟩:=h.own k own b r e;have c:=gL h.mem e;rw[I b c,q];exact⟨q1,J,K⟩
  .rw[jb k1]at e
   have:k-(A.mem p).length=0:=by
    rcases Uq (k-(A.mem p).length)with z|z
    .exact z
    .rw[List.getElem?_eq_none cH]at e;cases e
   rw[this]at e;simp at e;obtain⟨rfl,rfl,rfl⟩:=e;have f:aB.b1 u.heap.size=i:=by rw[l,Tm (Nat.lt_irrefl _)]
   rw[q];exact⟨⟨U,U,U⟩,.inl f,λ_=>⟨f,λw _ F=>Td (D w _ F) (Nat.lt_irrefl _)⟩⟩
 .show(u.heap.push o)[b]?=_
  rw[iq,Tm U]
def cB.xi(T:dn A.P A.ext)(o:∀p,A.dh p<=400)(h:cB A Z G i p Tc x g u n j)(d:At A m p x){id:Nat}{ops:Tv Oper}{to:TA->Pos}(he:Edge.ord f id ops L to∈A.cz p):
 ∃l y bw,l∈L/\cB A Z G i (to l) Tc y (bW y Tc) (u.at (u.drawn+1)) m bw/\(∀main,stepG A.P main g u=.go (bW y Tc) (u.at (u.drawn+1))):=by
 let⟨l,y,q,r,c,w⟩:=d.ord T he u;obtain⟨st,off,rfl⟩:=h.shape;exact⟨l,y,_,q,h.xx r (o _) (by rw[c];exact h.mem.keep λ_ _ _ _ _=>S6) (by rw[c];exact h.own),λmain=>w main Tc st off⟩
def cB.Lb(f:∀p,A.dh p<=400)(h:cB A Z G i p Tc x g u n j)(d:At A m p x){Y:bA}{to:Pos}(he:Edge.join Y to∈A.cz p):∃bw,cB A Z G i to Tc x g u m bw:=by let⟨l,c⟩:=d.join he;exact⟨_,l,f _,h.fr,h.cs,h.m',by rw[c];exact h.mem,by rw[c];exact h.own⟩
def cB.mr(T:dn A.P A.ext)(l:∀p,A.dh p<=400)(h:cB A Z G i p Tc x g u n j)(f:At A m p x){nr wk:Ta}{c:Tb cD}{to:Pos}(he:Edge.fix nr wk an c to∈A.cz p)(hd:Does u c aC es)(r:gN (A.mem p) aC/\Own Z aB i (A.mem p)):
 ∃y bw,cB A Z aB i to Tc y (bW y Tc) aC m bw/\(wk=true->mayWake A.P g=true)/\∀main,stepG A.P main g u=.go (bW y Tc) aC (hZ nr (cI c)).toArray:=by
 let⟨y,o,d,w,q⟩:=f.fix T he;obtain⟨st,off,rfl⟩:=h.shape;refine⟨y,_,h.xx o (l _) (by rw[d];exact r.1) (by rw[d];exact r.2),λe=>?_,λmain=>q main Tc st off u aC es hd⟩;have:=w e;unfold Bn at this;exact this
end
section
variable{X:et}{Z:Stat}{G aB:bX}{u aC w:S7}{t bh:Tt}{B gX:Nat}
inductive iv(Z:Stat)(B:Nat):TL->Prop
 |mark {m:Mark} (I:(MemAct.mark m).touch?=none) (J:(MemAct.mark m).low B):iv Z B ⟨.mark m,false,true⟩
 |bM {o:Nat} {wr:Ta} (I:4<=o) (J:o<13) (ax:o=4->wr=false):iv Z B ⟨.cell ⟨Z.z.T,o,none⟩,wr,true⟩
 |wg {o:Nat} {wr:Ta}:iv Z B ⟨.cell ⟨Z.W,o,none⟩,wr,true⟩
def iv.zb{e:TL}(A:Apart Z G)(l:Z.z.T<B)(hW:Z.W<B)(h:iv Z B e)(t:Tt):vq Z G t i B e/\(∀b,(MemAct.ofEvent e).touch?=some b->¬(pl Z G).ik b.loc)/\(∀b,(MemAct.ofEvent e).touch?=some b->b.kind=.atomic):=by
 cases h with
 |mark d g=>exact⟨⟨g,λb c=>(by rw[show MemAct.ofEvent ⟨.mark _,false,true⟩=MemAct.mark _ from S6,d]at c;cases c),λe=>((by cases e))⟩,λb c=>(by rw[show MemAct.ofEvent ⟨.mark _,false,true⟩=MemAct.mark _ from S6,d]at c;cases c),λb c=>(by rw[show MemAct.ofEvent ⟨.mark _,false,true⟩=MemAct.mark _ from S6,d]at c;cases c)⟩
 |@bM o wr d g j=>
  have f:(pl Z G).jy (.cell (S8 Z.z.T o)):=.inl ⟨o,S6,d,g⟩;refine⟨⟨l,λb c _=>?_,λe=>?_⟩,λb c=>?_,λb c=>?_⟩
  .cases c;exact .inl (.inl ⟨f,aF⟩)
  .injection e with e;injection e with _ e;exact j e
  .cases c;exact λk=>A.lU.oi _ k f
  .cases c;rfl
 |@wg o wr=>
  have f:(pl Z G).jy (.cell (S8 Z.W o)):=.inr (.inl ⟨_,S6,S6⟩);refine⟨⟨hW,λb c _=>?_,λe=>?_⟩,λb c=>?_,λb c=>?_⟩
  .cases c;exact .inl (.inl ⟨f,aF⟩)
  .injection e with e;injection e with e _;exact Td e.symm A.bM
  .cases c;exact λk=>A.lU.oi _ k f
  .cases c;rfl
def Base.fv(h:Base Z G u t):Z.z.T<u.heap.size/\Z.W<u.heap.size/\Z.ch<u.heap.size:=⟨bu h.ww.T,bu h.ww.W,bu h.ww.ch⟩
def Apart.same(h:Apart Z G)(d:aB.b1=G.b1)(c:aB.ro=G.ro):Apart Z aB:=⟨h.bM,h.rC,h.wc,h.pos,by rw[d,c];exact h.xF,by rw[c];exact h.Fi⟩
def e0.same(m:aB.b1=G.b1)(d:aB.ro=G.ro)(n:aC.heap.size=u.heap.size)(l:∀b,b≠Z.z.T->b≠Z.W->b≠Z.ch->aC.heap[b]?=u.heap[b]?)(o:ea Z aB aC):e0 Z G aB i u aC:=
 ⟨Nat.le_of_eq n.symm,λb _=>by rw[m],λh b c=>by rw[d];exact c,λh b _ c=>.inl (by rw[d]at c;exact c),λb _ f g j _ _=>l b f g j,⟨_,_,_,_,o.T⟩⟩
def Base.rest(h:Base Z G u t)(d:aB.b1=G.b1)(c:aB.ro=G.ro)(l:aB.bP=G.bP)(f:aC.heap.size=u.heap.size)(n:ea Z aB aC)(g:g5 aB)(m:e5 Z aB bh aC.heap.size):Base Z aB aC bh:=
 ⟨n,g,h.ap.same d c,m,by rw[c,f];exact h.oc,by rw[f];exact h.s0,by rw[d,c];exact h.hold,by rw[f];exact h.old,h.o4,(h.iA.grow λi b j=>by rw[c];exact j),(by rw[d,c];exact h.rn),by rw[l];exact h.cfg⟩
def Base.sync(h:Base Z G u t)(cl:eF)(B:cl.ig G)(f:aB.b1=G.b1)(g:aB.ro=G.ro)(w:aB.bP=G.bP)(o:ea Z aB aC)(q:g5 aB)(d:aC.heap.size=u.heap.size)(C:∀b,b≠Z.z.T->b≠Z.W->b≠Z.ch->aC.heap[b]?=u.heap[b]?){l:Tb TL}(cI:∀e∈l,iv Z u.heap.size e)(ee:eX Z aB=eX Z G)(M:∀a:eF,a.ig aB↔a.ig G)(y:cl.deaf aB=deafBehind (cl.deaf G) l.toArray)(z:∀a:eF,a≠cl->a.deaf aB=a.deaf G)(fn:Tw)(pos:T6)(F:∀k,(aB.s k).eC=true->(G.s k).eC=true\/iH (pl Z aB) (t++MemOp.ofEvents (cl.num Z) fn pos l.toArray) (Z.wk k))(I:∀k,(aB.s k).da=true->(G.s k).da=true/\(cl=.dN k->(n0 l=true/\(0<cl.deaf G\/∀e∈l,(MemAct.ofEvent e).touch?=none))/\∀e∈l,∀b,(MemAct.ofEvent e).touch?=some b->(∃bO,b.loc=.cell bO/\bO.block=Z.W)))(J:aB.k.shut=true->G.k.shut=true/\(cl=.eu->∀e∈l,(MemAct.ofEvent e).touch?=none))(H:aB.k.said=false->G.k.said=false):
 Base Z aB aC (t++MemOp.ofEvents (cl.num Z) fn pos l.toArray)/\∀i,e0 Z G aB i u aC:=by
 have m:=h.ap.same f g;have r:Grow G aB u.heap.size:=⟨λb _=>by rw[f],g⟩
 let⟨P,Q,R⟩:=h.fv;have E:=λe he=>(cI e he).zb (i:=cl.num Z) m P Q t
 have L:fp (pl Z aB) t (eX Z aB) u.heap.size:=by rw[ee];exact h.dy.dy.oa r
 refine⟨h.rest f g w d o q ?_,λi=>e0.same f g d C o⟩;rw[d];refine e5.app m h.dy r bg cl B L (λe he=>(E e he).1) M y z F (λe he b c K=>Td K ((E e he).2.1 b c)) (λk D=>?_) J (λe he b c d=>?_) H
 .let⟨p,j⟩:=I k D
  exact⟨p,λn=>⟨(j n).1,λe he b c=>⟨(j n).2 e he b c,(E e he).2.2 b c⟩⟩⟩
 .rw[(E e he).2.2 b c]at d;cases d
def QQ(z:eG)(mu ms:Int)(aY bc:Ta):(eN z mu ms aY bc)[4]?=some (.int .u32 (mj aY)):=by cases bc<;>simp[eN,kP,mj]
def QR(z:eG)(mu ms:Int)(aY bc:Ta):(eN z mu ms aY bc)[5]?=some (.int .i32 mu):=by cases bc<;>simp[eN,kP,mj]
def QS(z:eG)(mu ms:Int)(aY bc:Ta):(eN z mu ms aY bc)[6]?=some (.int .u32 ms):=by cases bc<;>simp[eN,kP,mj]
def xZ(z:eG)(mu ms:Int)(aY bc:Ta):(eN z mu ms aY bc).size=28:=by cases bc<;>simp[eN,kP,mj]
def QT(z:eG)(mu ms:Int)(aY bc:Ta):(eN z mu ms aY bc).setIfInBounds 4 (.int .u32 1)=eN z mu ms true bc:=by cases bc<;>simp[eN,kP,mj]
def x0(z:eG)(mu c ms:Int)(aY bc:Ta):(eN z mu ms aY bc).setIfInBounds 5 (.int .i32 c)=eN z c ms aY bc:=by cases bc<;>simp[eN,kP,mj]
def Gq(z:eG)(mu ms c:Int)(aY bc:Ta):(eN z mu ms aY bc).setIfInBounds 6 (.int .u32 c)=eN z mu c aY bc:=by cases bc<;>simp[eN,kP,mj]
def ea.r8(h:ea Z G u){o:Nat}{v:S9}(c:(eN Z.z G.mu G.ms G.aY G.bc)[o]?=some v):u.cell? (S8 Z.z.T o)=some v:=by rw[aU h.T];exact c
def ea.nV(h:ea Z G u)(o:Nat):u.frozen? (S8 Z.z.T o)=false:=b3 h.T
def ea.rr(h:ea Z G u):u.shape? Z.z.T=some (132,28):=by rw[AI h.T,xZ]
def ea.ml(h:ea Z G u){n:Int}(c:G.mu=n):u.cell? (S8 Z.z.T 5)=some (.int .i32 n):=by rw[h.r8 (QR ..),c]
def ea.tS(h:ea Z G u){n:Int}(c:G.ms=n):u.cell? (S8 Z.z.T 6)=some (.int .u32 n):=by rw[h.r8 (QS ..),c]
def ea.Cd(h:ea Z G u){n:Ta}(c:G.aY=n):u.cell? (S8 Z.z.T 4)=some (.int .u32 (mj n)):=by rw[h.r8 (QQ ..),c]
def ea.gH(h:ea Z G u){n:Int}(c:G.v=n):u.cell? (Ti Z.W)=some (.int .u64 n):=by rw[aU h.W,c];rfl
def ea.fK(h:ea Z G u){n:Int}(c:G.m=n):u.cell? (S8 Z.W 1)=some (.int .u32 n):=by rw[aU h.W,c];rfl
def ea.pS(h:ea Z G u)(o:Nat):u.frozen? (S8 Z.W o)=false:=b3 h.W
def ea.ny(h:ea Z G u):u.shape? Z.W=some (208,2):=by rw[AI h.W];rfl
structure Word(Z:Stat)(u aC:S7):Prop where
 size:aC.heap.size=u.heap.size
 keep:∀b,b≠Z.z.T->b≠Z.W->aC.heap[b]?=u.heap[b]?
 calm:Calm u aC
def Word.refl(Z:Stat)(u:S7):Word Z u u:=⟨S6,λ_ _ _=>S6,Calm.refl u⟩
def Word.set(o:Nat)(v:S9)(d:b=Z.z.T\/b=Z.W):Word Z u (u.setCell (S8 b o) v):=
 ⟨aF,λc f g=>e1 (a:=(S8 b o)) (by rcases d with rfl|rfl<;>assumption),AF _ _ _⟩
def Word.trans{f g:S7}(h:Word Z u f)(k:Word Z f g):Word Z u g:=⟨k.size.trans h.size,λb c d=>(k.keep b c d).trans (h.keep b c d),h.calm.trans k.calm⟩
def ea.of(h:Base Z G u t)(wd:Word Z u aC)(c:aC.heap[Z.z.T]?=some (.cells (eN Z.z aB.mu aB.ms aB.aY aB.bc) 132 (0,0)))(hW:aC.heap[Z.W]?=some (.cells #[.int .u64 aB.v,.int .u32 aB.m] 208 (0,0)))(f:aB.k.shut=G.k.shut)(g:dF aB.l=dF G.l):ea Z aB aC:=
 ⟨c,hW,by rw[f,g,wd.keep _ (TT h.ap.rC) (TT h.ap.wc)];exact h.ww.ch,λb d c=>by rw[wd.keep b c (by have:=h.o4.1;omega)];exact h.ww.old b d c,h.ww.calm.trans wd.calm⟩
def Word.T(h:Base Z G u t){o:Nat}{v:S9}(c:(eN Z.z G.mu G.ms G.aY G.bc).setIfInBounds o v=eN Z.z aB.mu aB.ms aB.aY aB.bc):(u.setCell (S8 Z.z.T o) v).heap[Z.z.T]?=some (.cells (eN Z.z aB.mu aB.ms aB.aY aB.bc) 132 (0,0)):=by rw[cU h.ww.T,c]
def Word.W(h:Base Z G u t)(o:Nat)(v:S9):(u.setCell (S8 Z.z.T o) v).heap[Z.W]?=some (.cells #[.int .u64 G.v,.int .u32 G.m] 208 (0,0)):=by rw[e1 (a:=(S8 Z.z.T o)) (TT h.ap.bM)];exact h.ww.W
def Word.fo(h:Base Z G u t)(o:Nat)(v:S9):(u.setCell (S8 Z.W o) v).heap[Z.z.T]?=some (.cells (eN Z.z G.mu G.ms G.aY G.bc) 132 (0,0)):=by rw[e1 (a:=(S8 Z.W o)) h.ap.bM];exact h.ww.T
def Word.d'(h:Base Z G u t){o:Nat}{v:S9}{c dd:Int}(d:(#[.int .u64 G.v,.int .u32 G.m]:Te).setIfInBounds o v=#[.int .u64 c,.int .u32 dd]):(u.setCell (S8 Z.W o) v).heap[Z.W]?=some (.cells #[.int .u64 c,.int .u32 dd] 208 (0,0)):=by rw[cU h.ww.W,d]
end
section
variable{X:et}{Z:Stat}{G aB:bX}{u aC w:S7}{t bh:Tt}{B gX:Nat}{k:Ta}{g g':TC}{s aX:ck}
def yI(Q:To)(a b:lP Q):Prop:=dZ Q a.1 b.1
def HL(Q:To):WellFounded (yI Q):=by
 refine⟨λ⟨V,c⟩=>?_⟩;have:∀V,Acc (dZ Q) V->∀d:Acc (dZ Q) V,Acc (yI Q) ⟨V,d⟩:=by
  intro V h;induction h with
  |intro V _ i=>exact λd=>Acc.intro _ λ⟨b4,f⟩ g=>i b4 g f
 exact this V c c
def eQ(Q:To):gQ Q->gQ Q->Prop:=Prod.Lex (· < ·) (Prod.Lex (yI Q) (· < ·))
def G9(Q:To):WellFounded (eQ Q):=(Prod.lex ⟨_,Nat.lt_wfRel.wf⟩ (Prod.lex ⟨_,HL Q⟩ ⟨_,Nat.lt_wfRel.wf⟩)).wf
def eQ.last{Q:To}{a:Nat}{v:lP Q}{m n:Nat}(h:m<n):eQ Q (a,v,m) (a,v,n):=.right _ (.right _ h)
def eQ.mid{Q:To}{a:Nat}{v c:lP Q}{m n:Nat}(h:dZ Q c.1 v.1):eQ Q (a,c,m) (a,v,n):=.right _ (.left _ _ h)
def eQ.head{Q:To}{a:Nat}{x y:lP Q×Nat}(h:a<b):eQ Q (a,x) (b,y):=.left _ _ h
def rG(f:Ta->ck)(k:Ta)(s:ck):Ta->ck:=λj=>if j=k then s else f j
def RP(f:Ta->ck)(k:Ta)(s:ck):rG f k s k=s:=Tq S6
def RO(f:Ta->ck){j k:Ta}(s:ck)(h:j≠k):rG f k s j=f j:=Tm h
def bX.grow(G:bX)(n i:Nat):bX:={G with b1:=λb=>if b<n then G.b1 b else i}
def bX.st(G:bX)(k:Ta)(s:ck):bX:={G with s:=rG G.s k s}
abbrev bX.gk(G:bX)(u:S7)(Z:Stat)(k:Ta)(s:ck):bX:=(G.grow u.heap.size (Z.wk k)).st k s
structure g7(s aX:ck):Prop where
 role:aX.role=s.role
 cR:aX.cR=s.cR
 da:aX.da=s.da
 deaf:aX.deaf=s.deaf
 eC:aX.eC=true->s.eC=true
 un:aX.c=.un↔s.c=.un
def g7.refl(s:ck):g7 s s:=⟨S6,S6,S6,S6,id,T4⟩
def g7.alike(h:g7 (G.s k) aX)(d:17<=G.l)(n i:Nat):Alike G ((G.grow n i).st k aX):=by
 have e:∀j,((G.grow n i).st k aX).s j=if j=k then aX else G.s j:=λ_=>S6
 refine⟨λj=>?_,λj=>?_,λj=>?_,λj=>?_,λj=>?_,λj=>?_,S6,S6,bg,S6,S6,T4,T4,T4,T4,d,S6,S6,S6,S6,S6,S6,S6,S6,S6,S6⟩;all_goals rw[e];split
 .rename_i c;subst c;exact h.role
 .rfl
 .rename_i c;subst c;exact h.cR
 .rfl
 .rename_i c;subst c;exact h.da
 .rfl
 .rename_i c;subst c;exact h.deaf
 .rfl
 .rename_i c;subst c;exact h.eC
 .exact id
 .rename_i c;subst c;exact h.un
 .exact T4
inductive cZ(X:et)(Z:Stat)(G:bX)(k:Ta)(g:TC)(u:S7)(t:Tt)(bt:gQ X.Q):Prop
 |go (aB:bX) (aX:ck) (aC:S7) (l:Tb TL) (g':TC) (ga:gQ X.Q) (aW:stepG aK false g u=.go g' aC l.toArray) (af:aB.s=rG G.s k aX) (aa:aB.k=G.k) (aj:aB.l=G.l) (iP:aB.bP=G.bP) (jM:aB.cy=G.cy)
  (hb:Base Z aB aC (t++MemOp.ofEvents (Z.wk k) g.frame.fn g.frame.place l.toArray)) (au:∀i,i≠Z.wk k->e0 Z G aB i u aC) (hw:fz X Z aB k g' aC aX ga) (aS:eQ X.Q ga bt) (cS:g'.status=.running)
  (fN:aB.ms=G.ms\/aB.ms=0\/mayWake aK g=true) (hm:aB.m=G.m\/aB.m=0\/mayWake aK g=true):cZ X Z G k g u t bt
 |wait (aW:stepG aK false g u=.go ⟨g.frame,g.callers,.blocked,none,none⟩ u) (ar:∃a,(G.s k).c=.lock (.qf a)) (fN:G.ms=0):cZ X Z G k g u t bt
 |fin (aW:stepG aK false g u=.go ⟨g.frame,g.callers,.finished,none,none⟩ u) (ar:(G.s k).c=.out .fin):cZ X Z G k g u t bt
 |comm (v:Nat×Nat) (x:bA) (n j m:Nat) (ar:g7 (G.s k) ⟨.out (.snd v),(G.s k).bb⟩) (aA:cB (fP (G.bP k)) Z G (Z.wk k) (.snd v) [] x g u n j) (ae:At (fP (G.bP k)) m (.snd v) x) (ak:n=m+1) (hO:(∀(n:Nat) own b o,(ib (G.bP k))[n]?=some (own,b,o)->G.b1 b≠Z.wk k)/\kA Z G (Z.wk k) u v):cZ X Z G k g u t bt
def qe(d:Base Z G u t)(calm:Calm u aC)(keep:∀b,b<u.heap.size->aC.heap[b]?≠u.heap[b]?->gY Z G i b/\bq<=b)(l:∀b,b<u.heap.size->aB.b1 b=G.b1 b)(g:aB.ro=G.ro):jV Z G aB i bq u aC:=by
 have f:∀b,b<u.heap.size->¬(gY Z G i b/\bq<=b)->aC.heap[b]?=u.heap[b]?:=λb c hm=>Uh λm=>hm (keep b c m)
 refine⟨calm.size,l,λh b c=>by rw[g];exact c,λh b _ c=>.inl (by rw[g]at c;exact c),λb c _ _ _ _ ar=>f b c λ⟨j,n⟩=>?_,⟨_,_,_,_,(f _ (bu d.ww.T) λh=>h.1.1.1 S6).trans d.ww.T⟩⟩;rcases ar with ar|ar
 .omega
 .exact ar j.2.1
def cZ.l3{bt ga:gQ X.Q}{l:Tb TL}(c:Base Z G u t)(r:G.s k=s)(h:s.c≠.un)(B:g7 s aX)(y:stepG aK false g u=.go g' aC l.toArray)(q:g'.status=.running)(calm:Calm u aC)(keep:∀b,b<u.heap.size->aC.heap[b]?≠u.heap[b]?->gY Z G (Z.wk k) b)(cI:∀e∈l,lx Z ((G.grow u.heap.size (Z.wk k)).st k aX) t (Z.wk k) aC.heap.size e)(p:s.da=true->∀e∈l,(MemAct.ofEvent e).touch?=none)(z:fz X Z ((G.grow u.heap.size (Z.wk k)).st k aX) k g' aC aX ga)(o:eQ X.Q ga bt):cZ X Z G k g u t bt:=by subst r;let⟨d,f⟩:=c.l3 (.dN k) h (B.alike c.b9.bY u.heap.size (Z.wk k)) (λb=>S6) calm keep cI (λj n w=>by cases n;exact p w) bR g.frame.fn g.frame.place;exact .go ((G.grow u.heap.size (Z.wk k)).st k aX) aX aC l g' ga y S6 S6 S6 S6 S6 d (λi m=>f i m) z o q (.inl S6) (.inl S6)
def cZ.still{bt ga:gQ X.Q}(c:Base Z G u t)(j:G.s k=s)(d:s.c≠.un)(p:g7 s aX){n:Nat}(m:stepG aK false g u=.go g' (u.at n))(i:g'.status=.running)(o:fz X Z ((G.grow u.heap.size (Z.wk k)).st k aX) k g' (u.at n) aX ga)(f:eQ X.Q ga bt):cZ X Z G k g u t bt:=
 cZ.l3 (l:=[]) c j d p m i (Calm.at u n) (λb _ h=>Td S6 h) (λe he=>(by cases he)) (λ_ e he=>(by cases he)) o f
def kN(c:Base Z G u t)(k:Ta)(aX:ck)(bq n:Nat):jV Z G ((G.grow u.heap.size (Z.wk k)).st k aX) (Z.wk k) bq u (u.at n):=
 qe c (Calm.at u n) (λb _ h=>Td S6 h) (λb d=>Tq d) S6
end
section
variable{X:et}{Z:Stat}{G aB:bX}{u aC w:S7}{t bh:Tt}{B gX:Nat}{k:Ta}{g g':TC}{s aX:ck}{mu ms v m:Int}{aY bc:Ta}
def bX.wk(G:bX)(k:Ta)(s:ck)(mu ms:Int)(aY bc:Ta)(v m:Int):bX:={G with s:=rG G.s k s,mu:=mu,ms:=ms,aY:=aY,bc:=bc,v:=v,m:=m}
def g5.side(a:g5 G)(k:Ta):cO (G.s k).role (G.s (!k)).role G.mu G.ms G.aY G.bc:=by
 cases k
 .exact a.once
 .exact a.once.symm
def g5.tn(a:g5 G)(k:Ta):ey (decide (24<=G.l)) (G.s k).cR (G.s (!k)).cR G.k.ph=some (G.v,G.m):=by
 cases k
 .exact a.wg
 .rw[G2];exact a.wg
def DI(a b:mX):S' a b=S' b a:=by unfold S';omega
def DH{a c b:mX}(h:a.dec=true->c.dec=true):S' c b<=S' a b:=by
 unfold S';rcases e:a.dec<;>rcases d:c.dec
 .simp
 .simp
 .rw[h e]at d;cases d
 .simp
def g5.wk(a:g5 G)(q:G.s k=s)(o:cO aX.role (G.s (!k)).role mu ms aY bc)(wg:ey (decide (24<=G.l)) aX.cR (G.s (!k)).cR G.k.ph=some (v,m))(i:s.cR.dec=true->aX.cR.dec=true)(l:aX.da=s.da)(n:aX.c=.un↔s.c=.un)(r:aX.eC=true->aY=true)(p:G.aY=true->aY=true):g5 (G.wk k aX mu ms aY bc v m):=by
 subst q;obtain⟨_,_,a3,a4,a5,d,f,g,a9⟩:=a;have e:∀j,(G.wk k aX mu ms aY bc v m).s j=if j=k then aX else G.s j:=λ_=>S6
 have h:∀j,((G.wk k aX mu ms aY bc v m).s j).eC=true->aY=true:=λj c=>by
  rw[e]at c;split at c
  .exact r c
  .exact p (a9 j c)
 clear e;cases k
 .refine⟨o,wg,cL (DH (b:=(G.s true).cR) i) a3,?_,a5,d,λe=>f (n.1 e),g,h⟩
  show dF G.l=(if aX.da then 1 else 0)+_;rw[l];exact a4
 .refine⟨o.symm,by rw[G2];exact wg,?_,?_,?_,d,f,g,h⟩
  .refine cL ?_ a3
   show S' (G.s false).cR aX.cR<=_;rw[DI,DI (G.s false).cR];exact DH i
  .show dF G.l=_+(if aX.da then 1 else 0)
   rw[l];exact a4
  .show G.l<26↔aX.c=.un
   rw[n];exact a5
def cZ.sync{bt ga:gQ X.Q}{l:Tb TL}(f:Base Z G u t)(o:G.s k=s)(I:s.c≠.un)(T:stepG aK false g u=.go g' aC l.toArray)(Q:g'.status=.running)(wd:Word Z u aC)(E:aC.heap[Z.z.T]?=some (.cells (eN Z.z mu ms aY bc) 132 (0,0)))(hW:aC.heap[Z.W]?=some (.cells #[.int .u64 v,.int .u32 m] 208 (0,0)))(W:cO aX.role (G.s (!k)).role mu ms aY bc)(wg:ey (decide (24<=G.l)) aX.cR (G.s (!k)).cR G.k.ph=some (v,m))(K:s.cR.dec=true->aX.cR.dec=true)(r:aX.da=s.da)(w:aX.c=.un↔s.c=.un)(L:aX.role.gC=s.role.gC)(n:aY=G.aY)(cI:∀e∈l,iv Z u.heap.size e)(J:aX.deaf=deafBehind s.deaf l.toArray)(U:aX.eC=true->s.eC=true\/G.aY=true)(R:aX.eC=true->s.eC=true\/iH (pl Z G) (t++MemOp.ofEvents (Z.wk k) g.frame.fn g.frame.place l.toArray) (Z.wk k))(S:aX.da=true->(n0 l=true/\(0<s.deaf\/∀e∈l,(MemAct.ofEvent e).touch?=none))/\∀e∈l,∀b,(MemAct.ofEvent e).touch?=some b->(∃bO,b.loc=.cell bO/\bO.block=Z.W))(V:fz X Z (G.wk k aX mu ms aY bc v m) k g' aC aX ga)(M:eQ X.Q ga bt)(P:ms=G.ms\/ms=0\/mayWake aK g=true)(hm:m=G.m\/m=0\/mayWake aK g=true):cZ X Z G k g u t bt:=by
 have y:=f.b9.wk o W wg K r w (λe=>by
  rw[n];rcases U e with e|e
  .exact f.b9.eC k (by rw[o];exact e)
  .exact e) (λe=>by rw[n];exact e)
 subst o;have e:∀j,(G.wk k aX mu ms aY bc v m).s j=if j=k then aX else G.s j:=λ_=>S6
 have Y:ea Z (G.wk k aX mu ms aY bc v m) aC:=ea.of f wd E hW S6 S6;have ee:eX Z (G.wk k aX mu ms aY bc v m)=eX Z G:=by
  have q:∀j,((G.wk k aX mu ms aY bc v m).s j).role.gC=(G.s j).role.gC:=λj=>by
   rw[e];split
   .rename_i c;subst c;exact L
   .rfl
  unfold eX;rw[q,q];show(if aY then _ else _)=_;rw[n]
 have H:∀a:eF,a.ig (G.wk k aX mu ms aY bc v m)↔a.ig G:=by
  intro a;cases a with
  |main=>exact T4
  |dN j=>
   show((G.wk k aX mu ms aY bc v m).s j).c≠.un↔(G.s j).c≠.un;rw[e];split
   .rename_i c;subst c;exact not_congr w
   .exact T4
  |eu=>exact T4
 obtain⟨z,B⟩:=f.sync (aB:=G.wk k aX mu ms aY bc v m) (.dN k) I S6 S6 S6 Y y wd.size (λb C D _=>wd.keep b C D) cI ee H (by
  show((G.wk k aX mu ms aY bc v m).s k).deaf=_;rw[e,Tq S6];exact J) (λa F=>by
  cases a with
  |main=>rfl
  |dN j=>
   show((G.wk k aX mu ms aY bc v m).s j).deaf=_;rw[e,Tm (λc=>F (by rw[c]))];rfl
  |eu=>rfl) g.frame.fn g.frame.place (λj c=>by
  rw[e]at c;split at c
  .rename_i d;subst d;exact R c
  .exact .inl c) (λj c=>by
  rw[e]at c;split at c
  .rename_i d;subst d
   exact⟨r ▸ c,λ_=>S c⟩
  .rename_i d
   exact⟨c,λp=>by cases p;exact Td S6 d⟩) (λh=>⟨h,λp=>by cases p⟩) id
 exact .go (G.wk k aX mu ms aY bc v m) aX aC l g' ga T S6 S6 S6 S6 S6 z (λi _=>B i) V M Q P hm
def pa(m:Base Z G u t)(wd:Word Z u aC)(j:aC.heap[Z.z.T]?=some (.cells (eN Z.z mu ms aY bc) 132 (0,0))){aB:bX}(l:aB.b1=G.b1)(d:aB.ro=G.ro)(i:Nat):e0 Z G aB i u aC:=
 ⟨Nat.le_of_eq wd.size.symm,λb _=>by rw[l],λh b c=>by rw[d];exact c,λh b _ c=>.inl (by rw[d]at c;exact c),λb _ f g _ _ _=>wd.keep b f g,⟨_,_,_,_,j⟩⟩
end
section
variable{X:et}{Z:Stat}{G aB:bX}{u aC w:S7}{t bh:Tt}{B gX:Nat}{k:Ta}{g g':TC}{s aX:ck}{mu ms v m:Int}{aY bc bb:Ta}{x:bA}{n j a:Nat}{p:h5}{gA:lP X.Q}
def wA(c:mi)(p:h5):(fP c).dh p<=400:=bg
def pr(c:mi):dn (fP c).P (fP c).ext:=by unfold fP;exact j8
def vb{p:h5}{bb:Ta}:(⟨.out p,bb⟩:ck).c≠.un:=by intro h;cases h
def AB{p:h5}{bb:Ta}(c:pk q=pk p)(d:nF q=nF p)(f:(⟨.out q,bb⟩:ck).deaf=(⟨.out p,bb⟩:ck).deaf):g7 ⟨.out p,bb⟩ ⟨.out q,bb⟩:=
 ⟨rfl,c,d,f,id,⟨bR,bR⟩⟩
structure nL(Z:Stat)(G:bX)(k:Ta)(u:S7)(p:h5):Prop where
 ok:tm p=true
 ak:∀(n:Nat) own b o,(ib (G.bP k))[n]?=some (own,b,o)->G.b1 b≠Z.wk k
 aJ:∀v,mU (G.cy k) p=some v->kA Z G (Z.wk k) u v
def nL.rely(h:nL Z G k u p)(hm:gN (ib (G.bP k)) u)(j:aB.bP k=G.bP k)(w:aB.cy k=G.cy k)(r:jV Z G aB (Z.wk k) bq u aC)(z:u.heap.size<=bq)(m:tm q=true)(y:∀v,mU (G.cy k) q=some v->mU (G.cy k) p=some v):nL Z aB k aC q:=by
 refine⟨m,λn own b o e=>?_,λv e=>?_⟩
 .rw[j]at e;rw[r.b1 b (gL hm e)];exact h.ak n own b o e
 .rw[w]at e
  let⟨⟨l,d,i⟩,c,f⟩:=h.aJ v (y v e);have g:=bu d;exact⟨⟨l,(r.keep _ g c.1 c.2.1 c.2.2 (.inl f) (.inl U)).trans d,i⟩,c,(r.b1 _ g).trans f⟩
def Av(c:Base Z G u t)(k:Ta)(aX:ck)(n:Nat):e0 Z G (G.gk u Z k aX) (Z.wk k) u (u.at n):=kN c k aX _ n
def sR(q:Base Z G u t)(I:G.s k=⟨.out p,bb⟩)(h:cB (fP (G.bP k)) Z G (Z.wk k) p [] x g u n j){m:Nat}(F:n=m+1)(C:At (fP (G.bP k)) m p x)(H:nL Z G k u p)(E:hQ p=true->bb=false){to:h5}(he:Edge.bL ops to∈(fP (G.bP k)).cz p)(L:tm to=true)(w:hQ to=hQ p)(hd:pk to=pk p)(z:nF p=false)(J:nF to=false)(D:(⟨.out to,bb⟩:ck).deaf=(⟨.out p,bb⟩:ck).deaf)(M:∀v,mU (G.cy k) to=some v->mU (G.cy k) p=some v):cZ X Z G k g u t (if hQ p then 3 else 1,gA,n*500+j):=by
 subst F;obtain⟨y,aC,l,bw,B,K,calm,keep,cI,Q⟩:=h.bL (aB:=G.gk u Z k ⟨.out to,bb⟩) (pr _) (wA _) C he (λb=>S6) S6;have P:∀b,b<u.heap.size->aC.heap[b]?≠u.heap[b]?->gY Z G (Z.wk k) b/\u.heap.size<=b:=λb c f=>by obtain⟨_,i,o,e⟩:=keep b c f;have e:(ib (G.bP k))[i]?=some (true,b,o):=e;exfalso;unfold ib at e;rcases i with _|_|_|_|i<;>simp at e
 have r:e0 Z G (G.gk u Z k ⟨.out to,bb⟩) (Z.wk k) u aC:=qe q calm P (λb c=>Tq c) S6;have d:nL Z (G.gk u Z k ⟨.out to,bb⟩) k aC to:=H.rely h.mem S6 S6 r bg L M;exact cZ.l3 (aX:=⟨.out to,bb⟩) q I vb (AB hd (J.trans z.symm) D) (K false) S6 calm (λb c f=>(keep b c f).1) cI (λe=>by rw[show(⟨.out p,bb⟩:ck).da=nF p from S6,z]at e;cases e)
  (.out gA d.ok B (by rw[w];exact E) d.ak d.aJ) (by rw[w];exact eQ.last (by have:=B.le;omega))
def qa(i:Base Z G u t)(w:G.s k=⟨.out p,bb⟩)(h:cB (fP (G.bP k)) Z G (Z.wk k) p [] x g u n j){a:Nat}(F:n=a+1)(B:At (fP (G.bP k)) a p x)(H:nL Z G k u p){wk:Ta}{c:Tb cD}{to:h5}(he:Edge.fix true wk an c to∈(fP (G.bP k)).cz p)(hd:Does u c aC es)(wd:Word Z u aC)(l:aC.heap[Z.z.T]?=some (.cells (eN Z.z G.mu G.ms G.aY G.bc) 132 (0,0)))(hW:aC.heap[Z.W]?=some (.cells #[.int .u64 v,.int .u32 m] 208 (0,0)))(hp:nF p=true)(d:nF to=true)(wg:ey (decide (24<=G.l)) (pk to) (G.s (!k)).cR G.k.ph=some (v,m))(D:(pk p).dec=true->(pk to).dec=true)(E:∀e∈hZ true (cI c),iv Z u.heap.size e)(C:(⟨.out to,bb⟩:ck).deaf=deafBehind (⟨.out p,bb⟩:ck).deaf (hZ true (cI c)).toArray)(K:(n0 (hZ true (cI c))=true/\(0<(⟨.out p,bb⟩:ck).deaf\/∀e∈hZ true (cI c),(MemAct.ofEvent e).touch?=none))/\∀e∈hZ true (cI c),∀b,(MemAct.ofEvent e).touch?=some b->(∃bO,b.loc=.cell bO/\bO.block=Z.W))(hm:m=G.m\/m=0\/wk=true):cZ X Z G k g u t (if hQ p then 3 else 1,gA,n*500+j):=by
 subst F;have r:=pa i wd l (aB:=G.wk k ⟨.out to,bb⟩ G.mu G.ms G.aY G.bc v m) S6 S6 (Z.wk k);let⟨y,bw,z,P,L⟩:=h.mr (aB:=G.wk k ⟨.out to,bb⟩ G.mu G.ms G.aY G.bc v m) (pr _) (wA _) B he hd ⟨h.mem.rely h.own r h.mem.floor,h.own.rely h.mem r⟩;have J:hQ p=false:=by cases p<;>first|rfl|cases hp
 have q:hQ to=false:=by cases to<;>first|rfl|cases d
 have I:tm to=true:=by cases to<;>first|rfl|cases d
 have M:∀v,mU (G.cy k) to=some v->mU (G.cy k) p=some v:=λv e=>by cases to<;>first|(cases d;done)|(cases p<;>first|(cases hp;done)|exact e)
 have f:nL Z (G.wk k ⟨.out to,bb⟩ G.mu G.ms G.aY G.bc v m) k aC to:=H.rely h.mem S6 S6 r bg I M;have o:=i.b9.side k;rw[w]at o;exact cZ.sync (aX:=⟨.out to,bb⟩) i w vb (L false) S6 wd l hW o wg D (d.trans hp.symm) ⟨bR,bR⟩ S6 S6 E C bR bR (λ_=>K)
  (.out gA f.ok z (λe=>by rw[q]at e;cases e) f.ak f.aJ) (by rw[J,q];exact eQ.last (by have:=z.le;omega)) (.inl S6) (hm.imp id λx=>x.imp id P)
def g5.km(a:g5 G)(h:(G.s k).da=true):decide (24<=G.l)=true:=by
 have:=a.cnt;have c:1<=dF G.l:=by cases k<;>rw[h]at this<;>simp at this<;>omega
 unfold dF at c;split at c
 .omega
 .exact Uc U
end
section
variable{X:et}{Z:Stat}[hi X Z]{G aB:bX}{u aC w:S7}{t bh:Tt}{B gX:Nat}{k:Ta}{g g':TC}{s aX:ck}{mu ms v m:Int}{aY bc bb:Ta}{x:bA}{n j a:Nat}{p:h5}{gA:lP X.Q}
def Sg(X:et)(Z:Stat)(h:Z.z.F≠Z.z.T)(g:X.Q.globals.size<=Z.z.T/\X.Q.globals.size<=Z.z.F):Ren where
 r a b:=(a=X.ht/\b=Z.z.T)\/(a=X.fI/\b=Z.z.F)
 fwd:=by
  rintro a b c (⟨rfl,rfl⟩|⟨rfl,rfl⟩) (⟨d,rfl⟩|⟨d,rfl⟩)
  .rfl
  .exact Td d X.tj.2.2
  .exact Td d.symm X.tj.2.2
  .rfl
 bwd:=by
  rintro a b c (⟨rfl,rfl⟩|⟨rfl,rfl⟩) (⟨rfl,d⟩|⟨rfl,d⟩)
  .rfl
  .exact Td d.symm h
  .exact Td d h
  .rfl
 lim:=X.Q.globals.size
 low:=by have d:=X.tj.1;have f:=X.tj.2.1;rintro a b (⟨rfl,rfl⟩|⟨rfl,rfl⟩)<;>omega
 exact:=false
 cells:=X.Q.cellsOf
 cW:=λc=>codeOk X.Q true c=true
 room:=true
 eb:=eK X.Q
 fu:=ni X.Q
def R0{a b:Te}(c:a.size=b.size)(d:∀(i:Nat) x y,a[i]?=some x->b[i]?=some y->aQ ρ x y):bQ ρ a b:=⟨c,d⟩
def Gc(ρ:Ren):aQ ρ (.agg dC) (.agg dC):=by
 refine .agg S6 λi x y c d=>?_
 rw[c]at d;cases d;unfold dC at c;rcases i with _|_|_|_|_|i<;>simp at c<;>subst c<;>exact .int _ _
def Of(d:Base Z G u t)(k:Ta)(o:m1)(H:o.Ok Z G k u):∃c:LCtx,c.V=⟨Frame.enter X.Q 38 #[pt X.ht,.agg dC] .normal,[],X.v0⟩/\c.cs = []/\c.o=o/\c.rX X Z G k (Frame.enter aK 38 #[pt Z.z.T,.agg dC] .normal) u:=by
 have hF:=d.iA.gB _ (.inl S6);have r:X.Q.globals.size<=Z.z.T/\X.Q.globals.size<=Z.z.F:=by rw[X.S.globals];exact d.iA.wD
 let ρ:=Sg X Z hF.1.1 r;have fit:Fit X.Q ρ:=⟨⟨S6,λ_=>bg,S6,S6⟩,S6,λb e=>.inl (hi.je b e)⟩
 have z:ρ.r X.ht Z.z.T:=.inl ⟨S6,S6⟩;have w:ρ.r X.fI Z.z.F:=.inr ⟨S6,S6⟩;have C:u.heap[Z.z.F]?=some (.cells #[ah 2,ah 1] 3 (0,0)):=(d.ww.old _ hF.2 hF.1.1).trans d.iA.hF;have ht:=bu X.ui;have F:gm ρ X.v0 u:=by
  refine⟨?_,?_,?_⟩
  .rintro b m (⟨rfl,rfl⟩|⟨rfl,rfl⟩)
   .exact⟨_,_,X.ui,d.ww.T,Gp (X:=X) fit.fits S6 w _ _ _ _⟩
   .refine⟨_,_,X.zw,C,.cells (.inl S6) (λi x y g j=>?_) (.inr ⟨S6,S6,bg,T' _⟩)⟩
    rw[g]at j;cases j;rcases i with _|_|i<;>simp at g<;>subst g<;>exact .int _ _
  .have:=X.tj.1;show X.Q.globals.size<=_;omega
  .have:=r.1;have:=d.fv.1;show X.Q.globals.size<=_;omega
 have D:bQ ρ #[pt X.ht,.agg dC] #[pt Z.z.T,.agg dC]:=R0 S6 λi x y g j=>by
  rcases i with _|_|i<;>simp at g j
  .subst g;subst j;exact .ptr ⟨z,S6,S6⟩
  .subst g;subst j;exact Gc ρ
 have l:=pP (K:=X.K) X.H 38 D (λn e=>by have e:eK X.Q 38=some n:=e;rw[X.eb.2]at e;cases e) .normal (.inl S6);have E:cN X.K ρ (Frame.enter X.Q 38 #[pt X.ht,.agg dC] .normal) (Frame.enter aK 38 #[pt Z.z.T,.agg dC] .normal):=by
  generalize p:Frame.enter X.Q 38 #[pt X.ht,.agg dC] .normal=f1 at l;generalize I:Frame.enter aK 38 #[pt Z.z.T,.agg dC] .normal=f2 at l;cases l with
  |plain h=>exact h
  |refused R h hm=>
   exfalso;let⟨o,w2,J,B⟩:=rm (Q:=X.Q) (V:=⟨f1,[],X.v0⟩) h hm X.v0;have q:=X.going;rw[p]at q;exact q.live (aR:=X.v0.tape) (λ_ _=>S6) (p8 hm) B
  |@sh f a b Tl h P L M=>
   exfalso;have e:38=f:=congrArg Frame.fn p;rw[X.fn f h]at e;exact Td e a6
 refine⟨⟨⟨Frame.enter X.Q 38 #[pt X.ht,.agg dC] .normal,[],X.v0⟩,ρ,[],o⟩,S6,S6,S6,⟨X.going,X.self,⟨fit,S6,E,.nil,F⟩,⟨?_,?_,X.ui,z,w,S6,fit.fits⟩,H⟩⟩
 .rintro b m (⟨rfl,rfl⟩|⟨rfl,rfl⟩)
  .exact⟨d.ap.bM,d.ap.rC,λ_=>S6⟩
  .exact⟨hF.1.2.1,hF.1.2.2,λe=>Td e hF.1.1⟩
 .rintro b m (⟨rfl,rfl⟩|⟨rfl,rfl⟩)
  .exact .inr ⟨d.iA.ro k _ (.inl S6),_,_,_,X.ui,bg⟩
  .exact .inr ⟨d.iA.ro k _ (.inr (.inl S6)),_,_,_,X.zw,bg⟩
end
section
variable{X:et}{Z:Stat}[hi X Z]{G aB:bX}{u aC w:S7}{t bh:Tt}{B gX:Nat}{k:Ta}{g g':TC}{s aX:ck}{mu ms v m:Int}{aY bc bb:Ta}{x:bA}{N n j a:Nat}{p:h5}{gA:lP X.Q}
def KX{l:TA}(h:nY l=true):(∃r,l=0::r/\nY r=true)\/(∃r,l=1::r/\nY r=true)\/(∃r,l=2::r/\nY r=true)\/(∃r,l=3::r/\nY r=true)\/∃r,l=4::r/\oQ (r.filter (λn=>!(n == 5)))=true:=by
 unfold nY at h;split at h
 .exact .inl ⟨_,S6,h⟩
 .exact .inr (.inl ⟨_,S6,h⟩)
 .exact .inr (.inr (.inl ⟨_,S6,h⟩))
 .exact .inr (.inr (.inr (.inl ⟨_,S6,h⟩)))
 .exact .inr (.inr (.inr (.inr ⟨_,S6,h⟩)))
 .cases h
def K1{l:TA}(h:oQ l=true):(∃r,l=0::r/\oQ r=true)\/(∃r,l=1::r/\oQ r=true)\/∃r,l=6::r:=by
 unfold oQ at h;split at h
 .exact .inr (.inr ⟨_,S6⟩)
 .exact .inl ⟨_,S6,h⟩
 .exact .inr (.inl ⟨_,S6,h⟩)
 .cases h
def Ey(f:Base Z G u t)(m:G.s k=⟨.out p,bb⟩)(z:g7 ⟨.out p,bb⟩ ⟨.out q,bb⟩)(h:cB (fP (G.bP k)) Z G (Z.wk k) q [] y (bW y []) u c9 bw)(H:nL Z G k u p)(l:tm q=true)(w:∀v,mU (G.cy k) q=some v->mU (G.cy k) p=some v)(j:hQ q=true->bb=false)(o:∀main (u:S7),stepG (fP (G.bP k)).P main g u=.go (bW y []) u){a:Nat}(c:(a<b)\/(a=b/\c9*500+bw<n))(i:a=if hQ q then 3 else 1):cZ X Z G k g u t (b,gA,n):=by
 have r:=Av f k ⟨.out q,bb⟩ u.drawn;have d:=H.rely (q:=q) (aB:=G.gk u Z k ⟨.out q,bb⟩) h.mem S6 S6 r bg l w;refine cZ.still (aX:=⟨.out q,bb⟩) (n:=u.drawn) f m vb z (o false u) S6 (.out gA d.ok (h.rely r S6 S6 S6) j d.ak d.aJ) ?_;rw[<-i];rcases c with c|⟨rfl,c⟩
 .exact eQ.head c
 .exact eQ.last c
def Ez(j:Base Z G u t){N:Nat}{c:Nat×Nat}(d:G.s k=⟨.out q,bb⟩)(i:g7 ⟨.out q,bb⟩ ⟨.out (.snd c),bb⟩)(f:cB (fP (G.bP k)) Z G (Z.wk k) (.snd c) [] x g u c9 bw)(H:nL Z G k u q)(h:∀v,mU (G.cy k) (.snd c)=some v->mU (G.cy k) q=some v)(hm:(1<b)\/(1=b/\c9*500+bw<=N)):cZ X Z G k g u t (b,gA,N):=by
 rcases f.quiet (pr _)with⟨a,m,l⟩|⟨y,w,r,o,n⟩
 .exact .comm c x c9 bw a (by rw[d];exact i) f l m ⟨H.ak,H.aJ c (h c S6)⟩
 .exact Ey j d i o H S6 h bR n (hm.imp id λ⟨e,p⟩=>⟨e,U⟩) S6
def M4(d:Base Z G u t)(i:G.s k=⟨.out p,bb⟩)(h:cB (fP (G.bP k)) Z G (Z.wk k) p [] x g u N j)(H:nL Z G k u p)(F:hQ p=true->bb=false):cZ X Z G k g u t (if hQ p then 3 else 1,gA,N*500+j):=by
 rcases h.quiet (pr _)with⟨a,B,o⟩|⟨y,bw,ak,E,I⟩
 case inr=>exact Ey d i (g7.refl _) E H H.ok (λ_ e=>e) F I (.inr ⟨S6,U⟩) S6
 have fv:=d.fv;let⟨m,R,c3,ah,ai⟩:=d.cfg k;have Q:u.shape? (G.bP k).W=some oo:=by rw[m];exact d.ww.ny
 have z:=d.b9.tn k;have J:∀{q:h5},G.s k=⟨.out q,bb⟩->nF q=true->decide (24<=G.l)=true:=λe h=>d.b9.km (k:=k) (by rw[e];exact h)
 cases p with
 |b6=>
  let⟨l,y,bw,W,E,I⟩:=h.xi (pr _) (wA _) o bI;have r:=Av d k ⟨.out (.g l),bb⟩ (u.drawn+1);have ad:nY l=true:=(List.all_eq_true.1 (by decide:Ex.all nY=true)) l W;have L:=H.rely (q:=.g l) (aB:=G.gk u Z k ⟨.out (.g l),bb⟩) h.mem S6 S6 r bg ad (λ_ e=>by cases e);exact cZ.still (aX:=⟨.out (.g l),bb⟩) (n:=u.drawn+1) d i vb (AB S6 S6 S6) (I false) S6 (.out gA L.ok
   (show cB (fP (G.bP k)) Z _ (Z.wk k) (.g l) [] y (bW y []) _ _ _ from⟨E.on,E.le,S6,S6,S6,E.mem,(h.own.rely h.mem r)⟩) (λ_=>F S6) L.ak L.aJ) (eQ.last (by have:=E.le;omega))
 |g rem=>
  rcases KX H.ok with⟨r,rfl,D⟩|⟨r,rfl,D⟩|⟨r,rfl,D⟩|⟨r,rfl,D⟩|⟨r,rfl,D⟩
  .exact sR d i h B o H F (to:=.g r) bI D S6 S6 S6 S6 S6 λ_ e=>e
  .exact sR d i h B o H F (to:=.g r) bI D S6 S6 S6 S6 S6 λ_ e=>e
  .exact sR d i h B o H F (to:=.g r) bI D S6 S6 S6 S6 S6 λ_ e=>e
  .exact sR d i h B o H F (to:=.g r) bI D S6 S6 S6 S6 S6 λ_ e=>e
  .let⟨V,M⟩:=o.lift (pr _) (f:=38) (args:=#[pt (G.bP k).T,.agg dC]) (cy:=four) (to:=.h (r.filter (λn=>!(n == 5)))) bI
   let⟨c,aj,S,T,P⟩:=Of (X:=X) d k ⟨x,r.filter (λn=>!(n == 5)),a⟩ ⟨λv=>(V v).1,h.mem,h.own,H.ak,D⟩;have ag:=Av d k ⟨.lift,bb⟩ u.drawn;have I:stepG aK false g u=.go (Tk (Frame.enter aK 38 #[pt Z.z.T,.agg dC] .normal) c.base) u:=by obtain⟨st,off,rfl⟩:=h.shape;have:=M false [] st off u;rw[R]at this;rw[show c.base=x.1::x.2++[] by unfold LCtx.base;rw[S,T];simp[m1.base]];exact this
   exact cZ.still (aX:=⟨.lift,bb⟩) (n:=u.drawn) d i vb ⟨S6,S6,S6,S6,id,⟨bR,bR⟩⟩ I S6 (.lift c S6 S6 S6 (P.rely (dP:=G.gk u Z k ⟨.lift,bb⟩) S6 ag) (dZ.acc P.going.acc)) (eQ.head (Nat.lt_succ_self 2))
 |h rem v=>
  rcases K1 H.ok with⟨r,rfl,D⟩|⟨r,rfl,D⟩|⟨r,rfl⟩
  .exact sR d i h B o H F (to:=.h r v) bI D S6 S6 S6 S6 S6 λ_ e=>e
  .exact sR d i h B o H F (to:=.h r v) bI D S6 S6 S6 S6 S6 λ_ e=>e
  .let⟨bw,E⟩:=h.Lb (wA _) o (to:=.snd v) (Y:=Bx (G.bP k) v) bI
   exact Ez d i (AB S6 S6 S6) E H (λ_ e=>e) (.inr ⟨S6,by have:=E.le;omega⟩)
 |snd v=>exact Ez d i (g7.refl _) h H (λ_ e=>e) (.inr ⟨S6,bg⟩)
 |d0=>
  have wd:=Word.refl Z u;rw[i]at z;exact qa d i h B o H (to:=.d1) bI (.shape Q (.shape Q (.nil _))) wd d.ww.T d.ww.W S6 S6 z id (λe he=>(by cases he)) S6 ⟨⟨S6,.inr λe he=>(by cases he)⟩,λe he=>(by cases he)⟩ (.inl S6)
 |d1=>
  rw[i]at z;refine qa d i h B o H (to:=.d2) bI (.mark (.mark (.nil _))) (Word.refl Z u) d.ww.T d.ww.W S6 S6 z id (λe he=>?_) S6 ⟨⟨S6,.inr λe he=>?_⟩,λe he b w=>?_⟩ (.inl S6)
  .rw[ev he];exact .mark S6 (by rw[m];exact fv.2.1)
  .rw[ev he];rfl
  .rw[ev he]at w;cases w
 |d2=>
  rw[i]at z;refine qa d i h B o H (to:=.d3) bI (.mark (.mark (.nil _))) (Word.refl Z u) d.ww.T d.ww.W S6 S6 z id (λe he=>?_) S6 ⟨⟨S6,.inr λe he=>?_⟩,λe he b w=>?_⟩ (.inl S6)
  .rw[ev he];exact .mark S6 Tf
  .rw[ev he];rfl
  .rw[ev he]at w;cases w
 |d3=>
  have km:=J i S6;rw[i,km]at z;have add:∀{K n:Int} {to:h5},G.v=K->Edge.fix true false [.val (.int .u64 K)] (q2 (G.bP k).W K n) to∈(fP (G.bP k)).cz .d3->nF to=true->(⟨.out to,bb⟩:ck).deaf=1->ey true (pk to) (G.s (!k)).cR G.k.ph=some (n,G.m)->cZ X Z G k g u t (if hQ .d3 then 3 else 1,gA,N*500+j):=by
   intro K n to C he ae aa wg;refine qa d i h B o H he (.mark (.load (by rw[m];exact d.ww.gH C) (.store (by rw[m];exact d.ww.gH C) (by rw[m];exact d.ww.pS 0) (.nil _)))) (Word.set 0 _ (.inr m)) (by rw[m];exact Word.fo d 0 _) (by rw[m];exact Word.d' d S6) S6 ae (by rw[km];exact wg) bR (λe he=>?_) aa.symm.symm ⟨⟨S6,.inl Nat.one_pos⟩,λe he b w=>?_⟩ (.inl S6)
   .have he:e∈[(⟨.cell (gr (G.bP k).W),false,true⟩:TL),⟨.cell (gr (G.bP k).W),true,true⟩]:=he
    rw[m]at he;simp only[T7,iN,or_false]at he;rcases he with rfl|rfl<;>exact .wg
   .have he:e∈[(⟨.cell (gr (G.bP k).W),false,true⟩:TL),⟨.cell (gr (G.bP k).W),true,true⟩]:=he
    rw[m]at he;simp only[T7,iN,or_false]at he;rcases he with rfl|rfl<;>(cases w;exact⟨_,S6,S6⟩)
  rcases R' z with⟨C,wg⟩|⟨C,wg⟩|⟨C,wg⟩|⟨C,wg⟩
  .exact add C (.head _) S6 S6 wg
  .exact add C (.tail _ (.head _)) S6 S6 wg
  .exact add C (.tail _ (.tail _ (.head _))) S6 S6 wg
  .exact add C (.tail _ (.tail _ (.tail _ (.head _)))) S6 S6 wg
 |d4=>
  have km:=J i S6;rw[i,km]at z;let⟨C,wg⟩:=Sa z;refine qa d i h B o H (to:=.d5) bI (.mark (.load (by rw[m];exact d.ww.gH C) (.nil _))) (Word.refl Z u) d.ww.T (by rw[<-C]at wg;exact d.ww.W) S6 S6 (by rw[km,C];exact wg) id (λe he=>?_) S6 ⟨⟨S6,.inl Nat.one_pos⟩,λe he b w=>?_⟩ (.inl S6)
  .rw[ev he,m];exact .wg
  .rw[ev he,m]at w;cases w;exact⟨_,S6,S6⟩
 |d5=>
  have km:=J i S6;rw[i,km]at z;have wg:=Sb z;refine qa d i h B o H (to:=.d7) bI (.mark (.store (by rw[m];exact d.ww.gH S6) (by rw[m];exact d.ww.pS 0) (.nil _))) (Word.set 0 _ (.inr m)) (by rw[m];exact Word.fo d 0 _) (by rw[m];exact Word.d' d S6) S6 S6 (by rw[km];exact wg) id (λe he=>?_) S6 ⟨⟨S6,.inl Nat.one_pos⟩,λe he b w=>?_⟩ (.inl S6)
  .rw[ev he,m];exact .wg
  .rw[ev he,m]at w;cases w;exact⟨_,S6,S6⟩
 |d7=>
  have km:=J i S6;rw[i,km]at z;let⟨hm,wg⟩:=Sc z;refine qa d i h B o H (to:=.d6) bI (.mark (.mark (.load (by rw[m];exact d.ww.fK hm) (.store (by rw[m];exact d.ww.fK hm) (by rw[m];exact d.ww.pS 1) (.mark (.nil _)))))) (Word.set 1 _ (.inr m)) (by rw[m];exact Word.fo d 1 _) (by rw[m];exact Word.d' d S6) S6 S6 (by rw[km];exact wg) id (λe he=>?_) S6 ⟨⟨S6,.inl Nat.one_pos⟩,λe he b w=>?_⟩ (.inr (.inr S6))
  .have he:e∈[(⟨.mark .disable,false,true⟩:TL),⟨.cell (hn (G.bP k).W),false,true⟩,⟨.cell (hn (G.bP k).W),true,true⟩,⟨.mark .enable,false,true⟩]:=he
   rw[m]at he;simp only[T7,iN,or_false]at he;rcases he with rfl|rfl|rfl|rfl
   .exact .mark S6 Tf
   .exact .wg
   .exact .wg
   .exact .mark S6 Tf
  .have he:e∈[(⟨.mark .disable,false,true⟩:TL),⟨.cell (hn (G.bP k).W),false,true⟩,⟨.cell (hn (G.bP k).W),true,true⟩,⟨.mark .enable,false,true⟩]:=he
   rw[m]at he;simp only[T7,iN,or_false]at he;rcases he with rfl|rfl|rfl|rfl<;>(cases w;try exact⟨_,S6,S6⟩)
 |d6=>
  rw[i]at z;refine qa d i h B o H (to:=.fin) bI (.mark (.mark (.nil _))) (Word.refl Z u) d.ww.T d.ww.W S6 S6 z id (λe he=>?_) S6 ⟨⟨S6,.inr λe he=>?_⟩,λe he b w=>?_⟩ (.inl S6)
  .rw[ev he];exact .mark S6 Tf
  .rw[ev he];rfl
  .rw[ev he]at w;cases w
 |fin=>
  let⟨_,M⟩:=o.done bI;obtain⟨st,off,rfl⟩:=h.shape;have af:x.2 = []:=(o.done bI).1;exact .fin (by rw[af];exact M false st off u) (by rw[i])
end
section
variable{X:et}{Z:Stat}[hi X Z]{G aB:bX}{u aC w:S7}{t bh:Tt}{k:Ta}{g g':TC}{s aX:ck}{bb:Ta}{ρ ai:Ren}{V b4:dt}{aG dI:S7}{aR:Tape}
def Ff(h:m5 X Z G i ρ V){c:Nat}(f:ρ.r b c)(l:¬jk V.w b):gY Z G i c:=by
 rcases h.own b c f with⟨g,d,j⟩|⟨_,d⟩
 .exact⟨⟨g,(h.gB b c f).1,(h.gB b c f).2.1⟩,d,j⟩
 .exact Td d l
def CP(w:Base Z G u t)(h:m5 X Z G (Z.wk k) ρ V)(F:gm ρ V.w u)(E:Eff ρ ai (dM V.w aR) dI u aG)(L:gm ai dI aG)(z:b4.w=dI)(aX:ck):
 Calm u aG/\(∀b,b<u.heap.size->aG.heap[b]?≠u.heap[b]?->gY Z G (Z.wk k) b)/\(∀e,fc ai V.w e->lx Z (G.gk u Z k aX) t (Z.wk k) aG.heap.size e)/\m5 X Z (G.gk u Z k aX) (Z.wk k) ai b4:=by
 have fv:=w.fv;have o:∀b aE,ai.r b aE->ρ.r b aE\/(V.w.heap.size<=b/\u.heap.size<=aE):=λb aE x=>E.new b aE x
 have B:∀b,b<u.heap.size->(G.gk u Z k aX).b1 b=G.b1 b:=λb d=>Tq d
 have own:∀b,¬b<u.heap.size->(G.gk u Z k aX).b1 b=Z.wk k:=λb d=>Tm d
 have old:∀{b aE},ρ.r b aE->aE<u.heap.size:=λx=>F.floor _ _ x
 have m:∀aE,u.heap.size<=aE->gY Z (G.gk u Z k aX) (Z.wk k) aE:=λaE d=>⟨⟨U,U,U⟩,own aE U,λi _ K=>Td (w.oc i aE K) U⟩
 have M:∀{aE},aE<u.heap.size->gY Z G (Z.wk k) aE->gY Z (G.gk u Z k aX) (Z.wk k) aE:=λd h=>⟨h.1,(B _ d).trans h.2.1,h.2.2⟩
 refine⟨⟨E.size,E.tape,E.output,by rw[E.os];exact Go.ConcM.OsLater.refl _⟩,λaE d I=>?_,λe he=>?_,⟨λb aE x=>?_,λb aE x=>?_,?_,E.le.sub _ _ h.uI,E.le.sub _ _ h.xo,E.le.exact.trans h.inexact,h.fits.mono E.le⟩⟩
 .refine Uh λhm=>I (Uh λp=>?_)
  by_cases hp:∃b,ρ.r b aE
  .obtain⟨b,hp⟩:=hp
   by_cases l:jk V.w b
   .exact p (E.guard b aE hp l).2
   .exact hm (Ff h hp l)
  .exact p (E.out aE d λb J=>hp ⟨b,J⟩)
 .have lt:∀{b aE},ai.r b aE->aE<aG.heap.size:=λx=>L.floor _ _ x
  have C:∀{b aE:Nat},ai.r b aE->(blk (.obj aE)≠Z.W/\aE≠Z.ch)/\(gY Z (G.gk u Z k aX) (Z.wk k) aE\/(G.ro (Z.wk k) aE/\jk V.w b/\ρ.r b aE)):=λ{b aE} x=>by
   rcases o b aE x with y|⟨_,y⟩
   .refine⟨⟨(h.gB b aE y).1,(h.gB b aE y).2.1⟩,?_⟩
    rcases h.own b aE y with⟨f,c,q⟩|⟨f,c⟩
    .exact .inl (M (old y) ⟨⟨f,(h.gB b aE y).1,(h.gB b aE y).2.1⟩,c,q⟩)
    .exact .inr ⟨f,c,y⟩
   .exact⟨(m aE y).1.2,.inl (m aE y)⟩
  cases he with
  |@cell b n d wr Q l H=>
   let⟨gB,j⟩:=C d;refine .mem S6 (lt d) (λ_=>⟨n,S6⟩) gB (λg=>?_) ?_
   .have g:n.block=Z.z.T:=g
    rcases o b n.block d with y|⟨_,y⟩
    .rw[g]at y
     have D:=(h.gB _ _ y).2.2 S6;subst D;let⟨f,c⟩:=H _ _ _ h.T bg;obtain⟨ab,r,P⟩:=n;dsimp only at g f c;subst g;subst c;exact .inr ⟨r,S6,by have:r<2:=f;omega⟩
    .omega
   .rcases j with j|⟨f,c,_⟩
    .exact .inl j
    .refine .inr ⟨.inl f,?_⟩
     cases wr with
     |true=>exact Td c (l S6)
     |false=>rfl
  |@obj b aE d wr l=>
   let⟨gB,j⟩:=C d;refine .mem S6 (lt d) (λp=>by cases p) gB (λg=>?_) ?_
   .have g:aE=Z.z.T:=g
    exact .inl (by rw[g])
   .rcases j with j|⟨f,c,_⟩
    .exact .inl j
    .refine .inr ⟨.inl f,?_⟩
     cases wr with
     |true=>exact Td c (l S6)
     |false=>rfl
  |mark hm=>exact .mark hm
 .rcases o b aE x with y|⟨_,y⟩
  .exact h.gB b aE y
  .exact⟨U,U,λe=>U⟩
 .rcases o b aE x with y|⟨_,y⟩
  .rcases h.own b aE y with⟨f,c,q⟩|⟨f,c⟩
   .exact .inl ⟨f,(B aE (old y)).trans c,q⟩
   .refine .inr ⟨f,?_⟩
    rw[z];exact c.of_eq (E.guard b aE y c).1
  .exact .inl ⟨(m aE y).1.1,(m aE y).2.1,(m aE y).2.2⟩
 .rw[z]
  exact(E.guard _ _ h.uI ⟨_,_,_,h.T,bg⟩).1.trans h.T
def pD{a b c d:S9}(l:Te)(h:i<4):(#[a,b,c,d]++l)[i]?=#[a,b,c,d][i]?:=Us (by simpa using h)
def E9{v C:S9}(hF:Fits X.Q ai)(S:m5 X Z G i ai V)(R:gm ai V.w w)(L:X.R v V.w)(B:aQ ai v C):∃r,C=four r/\kA Z G i w r:=by
 obtain⟨b,c,l,rfl,p,M⟩:=X.res v V.w L;unfold four at B;cases B with
 |@slice a D h _ _=>
  let⟨o,af,q1,Y,aa⟩:=R.obj _ _ h.block;rw[p]at q1;cases q1;obtain⟨ab,E,F⟩:=D;have I:(0:Nat)=E:=h.off;have J:(none:TN)=F:=h.spot;subst I;subst J;cases aa with
  |@cells _ d _ _ f m H P=>
   have j:(#[ah 2,ah 3,ah 5,ah 6]++l).size<=d.size:=by rcases m with m|⟨m,_⟩<;>omega
   have Q:f=(0,0):=w5 P cH;subst Q;have g:∀(i:Nat) (n:Int),(#[ah 2,ah 3,ah 5,ah 6]++l)[i]?=Tn n->d[i]?=Tn n:=λi n u=>by have z:i<d.size:=gu (bu u) j;have:=H i _ _ u (fb z);rw[fb z];generalize d[i]=y at this;cases this;rfl
   have d0:=g 0 2 (by rw[pD l U];rfl);have d1:=g 1 3 (by rw[pD l U];rfl);have d2:=g 2 5 (by rw[pD l U];rfl);have d3:=g 3 6 (by rw[pD l U];rfl);have hd:d=#[ah 2,ah 3,ah 5,ah 6]++d.extract 4 d.size:=by
    apply Array.ext_getElem?;intro i;have ae:4<=d.size:=by have:=j;simp at this;omega
    rcases i with _|_|_|_|i
    .rw[d0,pD _ U];rfl
    .rw[d1,pD _ U];rfl
    .rw[d2,pD _ U];rfl
    .rw[d3,pD _ U];rfl
    .rw[Uo aF]
     rw[Array.getElem?_extract];simp only[Nat.min_self];have e:i+1+1+1+1-(#[ah 2,ah 3,ah 5,ah 6]:Te).size=i:=aF;rw[e];split
     .rw[Nat.add_comm 4 i]
     .rw[Um U]
   have W:¬jk V.w b:=by rintro⟨bp,ad,N,q,K⟩;rw[p]at q;cases q;simp at K
   have hm:=Ff S h.block W;refine⟨(ab,c),S6,⟨d.extract 4 d.size,by rw[Y];exact congrArg some (by rw[<-hd]),?_⟩,hm.1,hm.2.1⟩;rw[M,Array.size_extract];have T:=j;simp at T;simp at j;omega
def DQ(es:TE):es.toList.toArray=es:=aF
def OH{l:Nat}(h:l<14):g7 ⟨.lift,bb⟩ ⟨.fx l,bb⟩:=⟨S6,S6,S6,S6,λe=>(by have e:decide (14<=l)=true:=e;have:=Uu e;omega),⟨bR,bR⟩⟩
def LA(z:Base Z G u t)(ae:G.s k=⟨.lift,bb⟩)(c:LCtx)(H:g.callers=c.base)(ap:g.dying=none)(h:c.rX X Z G k g.frame u)(L:Acc (dZ X.Q) c.V):cZ X Z G k g u t (2,⟨c.V,L⟩,0):=by
 obtain⟨fr,aZ,st,a0,off⟩:=g;dsimp only at H ap h;subst H;subst ap;have ag:(⟨.lift,bb⟩:ck).c≠.un:=by intro e;cases e
 have ad:=h.o;by_cases av:c.V.stop
 .let⟨v,a7,ai,aG,es,am,B,a1,aM,a2,af,E,aQ,M⟩:=Aj (Tc:=c.o.base) X.S h.going h.self h.pair av false st off
  have C:=aQ.hrel;have w:=CP z h.ll h.pair.heap E C (b4:=c.V.iF (hU c.V.w u)) S6;have ak:Fits X.Q ai:=h.pair.fit.fits.mono E.le;obtain⟨r,rfl,_⟩:=E9 (G:=G.gk u Z k ⟨.lift,bb⟩) (i:=Z.wk k) (V:=c.V.iF (hU c.V.w u)) ak ((w ⟨.lift,bb⟩).2.2.2) C am B;let⟨calm,keep,cI,J⟩:=w ⟨.out (.h c.o.rem r),bb⟩;let⟨F,aO,aP⟩:=E9 (V:=c.V.iF (hU c.V.w u)) ak J C am B;have:F=r:=by
   have e:=aO;unfold four at e;injection e with q aj aA
   injection q with q
   injection q with q
   exact(Prod.ext q aA).symm
  subst this;have Q:jV Z G (G.gk u Z k ⟨.out (.h c.o.rem F),bb⟩) (Z.wk k) 0 u aG:=qe z calm (λb p D=>⟨keep b p D,T' _⟩) (λb p=>Tq p) S6;let⟨aS,aT,aU,aV,aW⟩:=ad.rely (dP:=G.gk u Z k ⟨.out (.h c.o.rem F),bb⟩) S6 Q;have Y:c.base=c.cs++c.o.base:=S6;have P:stepG aK false ⟨fr,c.base,st,none,off⟩ u=.go (Tk (c.o.x.1.finish (four F)) c.o.x.2) aG es.toList.toArray:=by rw[Y,af,DQ];simp[m1.base,doReturn,aM,GStep.after]
  exact cZ.l3 (aX:=⟨.out (.h c.o.rem F),bb⟩) (l:=es.toList) z ae ag ⟨S6,S6,S6,S6,(bR),⟨bR,bR⟩⟩ P S6 calm keep (λe he=>cI e (M e (by simpa using he))) (bR)
   (.out ⟨c.V,L⟩ aW ⟨aS F,bg,rfl,aF,rfl,aT,aU⟩ bR aV (λv e=>by cases e;exact aP)) (eQ.head (Nat.lt_succ_self 1))
 .let⟨b4,ai,T,R,aG,es,af,B,W,ao,E,M,au⟩:=EE (Tc:=c.o.base) X.S X.ek X.H h.going h.self h.pair av (λ_ id ops a5 d k a3 _ _ h=>Td h (X.db _ _ _)) false st off
  have C:gm ai b4.w aG:=by
   rcases au with h|h
   .exact h.heap
   .exact h.heap
  have w:=CP z h.ll h.pair.heap E C S6;have Y:c.base=c.cs++c.o.base:=S6;have Q:∀aX,jV Z G (G.gk u Z k aX) (Z.wk k) 0 u aG:=λaX=>qe z (w aX).1 (λb p D=>⟨(w aX).2.1 b p D,T' _⟩) (λb p=>Tq p) S6
  have P:stepG aK false ⟨fr,c.base,st,none,off⟩ u=.go (Tk T (R++c.o.base)) aG es.toList.toArray:=by rw[Y,af,DQ]
  rcases au with hp|he
  .have aX:ck:=⟨.lift,bb⟩
   let⟨calm,keep,cI,J⟩:=w ⟨.lift,bb⟩;exact cZ.l3 (aX:=⟨.lift,bb⟩) (l:=es.toList) z ae ag (g7.refl _) P S6 calm keep (λe he=>cI e (M e (by simpa using he))) (bR)
    (.lift (bb:=bb) (fr:=T) ⟨b4,ai,R,c.o⟩ S6 S6 S6 ⟨W,ao,hp,J,ad.rely (dP:=G.gk u Z k ⟨.lift,bb⟩) S6 (Q _)⟩ (L.inv (.one B))) (eQ.mid (.one B))
  .let⟨f,a,b,Tl,aL,aa,aI,q,aj,aJ⟩:=he.fr
   obtain rfl:=X.fn f aL;obtain⟨aB,S,aH,aE⟩:∃c3 S,b4.cs=c3::S/\Kept c3:=by
    have D:=he.some;have H:=he.cs;generalize b4.cs=l at D H;cases H with
    |nil=>exact Td S6 D
    |@cons x y l m aR ar=>
     refine⟨x,l,S6,λe a4 hm=>?_⟩;have:=aR.mode;rw[hm]at this;generalize y.mode=a8 at this;cases this with
     |panicking ar=>
      cases ar with
      |cons I _=>exact I.recovered.1
   obtain⟨rfl,_⟩:=X.stub b4 W a Tl aB S aa (aJ 2 X.eb.1) q aH aE;let⟨calm,keep,cI,J⟩:=w ⟨.fx 0,bb⟩;have p:b=#[pt Z.z.T,ah 0]:=by
    obtain⟨aw,aq⟩:=aI;have aw:b.size=2:=aw.symm;have al:=aq 0 _ _ S6 (fb (by omega:0<b.size));have K:=aq 1 _ _ S6 (fb (by omega:1<b.size));have aY:b[0]=pt Z.z.T:=by
     generalize b[0]=y at al;cases al with
     |@ptr _ ax I=>
      obtain⟨ab,ay,az⟩:=ax;have K:(0:Nat)=ay:=I.off;have aC:(none:TN)=az:=I.spot;have aD:ai.r X.ht ab:=I.block;subst K;subst aC;have:=ai.fwd aD (E.le.sub _ _ h.ll.uI);subst this;rfl
    have q1:b[1]=ah 0:=by generalize b[1]=y at K;cases K;rfl
    apply Array.ext_getElem?;intro i;rcases i with _|_|i
    .rw[fb (by omega:0<b.size),aY];rfl
    .rw[fb (by omega:0+1<b.size)]
     show some b[1]=_;rw[q1];rfl
    .rw[Um U,Um aF]
   subst p;have aN:=NP Z.z.T Tl aa;refine cZ.l3 (aX:=⟨.fx 0,bb⟩) (l:=es.toList) z ae ag (OH a6) P S6 calm keep (λe he=>cI e (M e (by simpa using he))) (bR)
    (.fx (n:=40) (j:=400) (x:=(T,[])) ⟨b4,ai,R,c.o⟩ Tl 0 0 0 [] [] aG.heap.size S6 (λi b o e=>by simp at e) C.floor bg (λ_=>S6)
     ⟨W,ao,aa,q,he.some,he.cs,he.fit,he.room,C,J,ad.rely (dP:=G.gk u Z k ⟨.fx 0,bb⟩) S6 (Q _)⟩ (L.inv (.one B)) ⟨⟨_,aN,by rw[aj];rfl⟩,bg,S6,S6,S6,⟨λi _ _ _ e=>?_,λi _ _ _ _ _ _ _ e=>?_⟩,λi _ _ _ e=>?_⟩) (eQ.mid (.one B))
   .have e:([]:Mem)[i]?=_:=e
    simp at e
   .have e:([]:Mem)[i]?=_:=e
    simp at e
   .have e:([]:Mem)[i]?=_:=e
    simp at e
end
section
variable{X:et}{Z:Stat}[hi X Z]{G aB:bX}{u aC w:S7}{t bh:Tt}{k:Ta}{g g':TC}{s aX:ck}{bb:Ta}{ρ ai:Ren}{V b4:dt}{aG dI:S7}{aR:Tape}{kd:Tx}{x y:bA}{n j c9 bw l aN:Nat}{rem lk:TA}{bG bH df pH pE pF bq:Nat}{M b7:Mem}
def B7{P:To}{ext:Ext}{x:bA}{y:Tw×Te}(h:r9 P ext x=some y):x.1.mode=.run:=by
 unfold r9 at h;split at h
 .assumption
 .assumption
 .cases h
def At.DL{Pos:Type}{A:de Pos}{n:Nat}{p:Pos}{x:bA}(h:At A n p x){α:Type}{cy:α->S9}{to:α->Pos}(he:Edge.lift f args cy to∈A.cz p):x.1.mode=.run:=by obtain⟨z,d,rfl⟩:=h;let⟨c,_⟩:=hK.mem d _ he;exact B7 c
def uu{c:TB}(h:c.mode=.run):Kept c:=λe d hm=>by rw[h]at hm;cases hm
def tr(T:Nat)(kd:Tx):dn (iD T kd).P (iD T kd).ext:=by unfold iD;exact j8
def wz(T:Nat)(kd:Tx)(p:tE):(iD T kd).dh p<=400:=bg
def OG(h:14<=aN->14<=l):g7 ⟨.fx l,bb⟩ ⟨.fx aN,bb⟩:=⟨S6,S6,S6,S6,λe=>Uc (h (Uu e)),⟨bR,bR⟩⟩
def Bs:(⟨.fx l,bb⟩:ck).c≠.un:=by intro h;cases h
structure pz(X:et)(Z:Stat)(G:bX)(k:Ta)(u:S7)(c:LCtx)(kd:Tx)(bq:Nat):Prop where
 wait:c.rZ X Z G k kd u
 bY:∀b aE,c.ρ.r b aE->aE<bq
 dh:bq<=u.heap.size
def uL{bz:Tb TL}(f:Base Z G u t)(w:G.s k=⟨.fx l,bb⟩)(c:LCtx)(H:pz X Z G k u c kd bq)(h:Acc (dZ X.Q) c.V)(p:14<=aN->14<=l)(z:stepG aK false g u=.go (bW y c.base) aC bz.toArray)(calm:Calm u aC)(keep:∀b,b<u.heap.size->aC.heap[b]?≠u.heap[b]?->gY Z G (Z.wk k) b/\bq<=b)(cI:∀e∈bz,lx Z (G.gk u Z k ⟨.fx aN,bb⟩) t (Z.wk k) aC.heap.size e)(ok:mK aN lk=true)(m:∀(i:Nat) b o,b7[i]?=some (true,b,o)->bq<=b)(j:aN<=16->b7=o9 Z.z.T pH pE pF aN)(B:cB (iD Z.z.T kd) Z (G.gk u Z k ⟨.fx aN,bb⟩) (Z.wk k) ⟨aN,lk,pH,pE,pF,b7⟩ c.base y (bW y c.base) aC c9 bw)(q:c9*500+bw<n):
 cZ X Z G k g u t (2,⟨c.V,h⟩,n*10000000000):=by
 have C:jV Z G (G.gk u Z k ⟨.fx aN,bb⟩) (Z.wk k) bq u aC:=qe f calm keep (λb d=>Tq d) S6;exact cZ.l3 (aX:=⟨.fx aN,bb⟩) f w Bs (OG p) z S6 calm (λb d r=>(keep b d r).1) cI (bR)
  (.fx c kd pH pE pF b7 lk bq ok m H.bY (cL H.dh calm.size) j (H.wait.rely (dP:=G.gk u Z k ⟨.fx aN,bb⟩) S6 C H.bY) h B) (eQ.last (Nat.mul_lt_mul_of_pos_right q (Nat.zero_lt_succ _)))
def NK(h:mK l rem=true):l=0\/l=1\/l=2\/l=3\/(l=4/\(rem = []\/(∃r,rem=0::r/\mK 4 r=true)\/∃r,rem=1::r/\mK 4 r=true))\/l=14\/(l=15/\(rem = []\/(∃r,rem=0::r/\mK 15 r=true)\/∃r,rem=1::r/\mK 15 r=true))\/l=16\/l=17:=by
 have two:∀rem:TA,rem.all (· < 2)=true->(rem = []\/(∃r,rem=0::r/\r.all (· < 2)=true)\/∃r,rem=1::r/\r.all (· < 2)=true):=by
  intro rem h;rcases rem with _|⟨a,r⟩
  .exact .inl S6
  .simp only[List.all_cons,TS,decide_eq_true_eq]at h
   obtain⟨d,c⟩:=h;rcases a with _|_|a
   .exact .inr (.inl ⟨r,S6,c⟩)
   .exact .inr (.inr ⟨r,S6,c⟩)
   .omega
 unfold mK at h;split at h
 .exact .inl S6
 .exact .inr (.inl S6)
 .exact .inr (.inr (.inl S6))
 .exact .inr (.inr (.inr (.inl S6)))
 .exact .inr (.inr (.inr (.inr (.inr (.inl S6)))))
 .exact .inr (.inr (.inr (.inr (.inr (.inr (.inr (.inl S6)))))))
 .exact .inr (.inr (.inr (.inr (.inr (.inr (.inr (.inr S6)))))))
 .exact .inr (.inr (.inr (.inr (.inl ⟨S6,two rem h⟩))))
 .exact .inr (.inr (.inr (.inr (.inr (.inr (.inl ⟨S6,two rem h⟩))))))
 .cases h
def Q0(ρ:Ren):aQ ρ iT iT:=by
 unfold iT;refine .agg S6 λi x y c d=>?_
 rw[c]at d;cases d;rcases i with _|_|_|_|_|i<;>simp at c<;>subst c<;>exact .int _ _
def Base.bc(c:Base Z G u t)(h:G.aY=true):G.bc=true:=by have:=c.b9.once;rw[this.bc];unfold u2;rw[<-this.aY,h];rfl
def Base.done(h:G.aY=true):eX Z G=.done:=by unfold eX;rw[h];rfl
def Base.cells(d:Base Z G u t)(h:G.aY=true)(o:Nat)(v:S9)(c:(kP true)[o]?=some v):u.cell? (S8 Z.z.T (13+o))=some v:=by
 refine d.ww.r8 ?_;rw[d.bc h];unfold kP at c;rcases o with _|_|_|_|_|o
 all_goals simp at c
 all_goals (subst c;simp[eN,kP])
def uM(q:Base Z G u t)(F:G.s k=⟨.fx l,bb⟩)(c:LCtx)(H:pz X Z G k u c kd bq)(d:Acc (dZ X.Q) c.V)(f:∀(i:Nat) b o,M[i]?=some (true,b,o)->bq<=b)(J:cB (iD Z.z.T kd) Z G (Z.wk k) ⟨l,rem,bG,bH,df,M⟩ c.base x g u n j){a:Nat}(D:n=a+1)(w:At (iD Z.z.T kd) a ⟨l,rem,bG,bH,df,M⟩ x)(he:Edge.bL ops ⟨aN,lk,bG,bH,df,b7⟩∈(iD Z.z.T kd).cz ⟨l,rem,bG,bH,df,M⟩)(C:14<=aN->14<=l)(ok:mK aN lk=true)(r:aN<=16->b7=o9 Z.z.T bG bH df aN):
 cZ X Z G k g u t (2,⟨c.V,d⟩,(n*500+j)*10000000000):=by
 subst D;let⟨y,aC,bz,bw,h,I,calm,keep,cI,B⟩:=J.bL (aB:=G.gk u Z k ⟨.fx aN,bb⟩) (t:=t) (tr _ _) (wz _ _) w he (λb=>S6) S6;refine uL q F c H d C (I false) calm (λb z E=>?_) cI ok (λi b o e=>?_) r h (by have:=h.le;omega)
 .let⟨p,i,o,e⟩:=keep b z E
  exact⟨p,f i b o e⟩
 .let⟨K,m⟩:=B i true b o e
  exact f i b K m
def Au(d:Base Z G u t)(E:G.s k=⟨.fx l,bb⟩)(c:LCtx)(H:pz X Z G k u c kd bq)(h:Acc (dZ X.Q) c.V)(z:∀(i:Nat) b o,M[i]?=some (true,b,o)->bq<=b)(I:cB (iD Z.z.T kd) Z G (Z.wk k) ⟨l,rem,bG,bH,df,M⟩ c.base x g u n j){a:Nat}(C:n=a+1)(r:At (iD Z.z.T kd) a ⟨l,rem,bG,bH,df,M⟩ x){to:Nat->tE}(he:Edge.new true o to∈(iD Z.z.T kd).cz ⟨l,rem,bG,bH,df,M⟩){pH pE pF:Nat}(J:to u.heap.size=⟨aN,[],pH,pE,pF,M++[(true,u.heap.size,o)]⟩)(B:14<=aN->14<=l)(ok:mK aN []=true)(p:M++[(true,u.heap.size,o)]=o9 Z.z.T pH pE pF aN):
 cZ X Z G k g u t (2,⟨c.V,h⟩,(n*500+j)*10000000000):=by
 subst C;let⟨y,aC,bw,f,F,calm,keep,L⟩:=I.z2 (aB:=G.gk u Z k ⟨.fx aN,bb⟩) (tr _ _) (wz _ _) r he (λb=>S6) S6 d.oc d.fv;rw[J]at f;refine uL (bz:=[]) d E c H h B (F false) calm (λb w D=>Td (keep b w) D) (λe he=>(by cases he)) ok (λi b K e=>?_) (λ_=>p) f (by have:=f.le;omega);rcases Ub i M.length with ad|ad
 .rw[jz ad]at e
  exact z i b K e
 .rw[jb ad]at e
  rcases m:i-M.length with _|q
  .rw[m]at e
   simp at e;rw[<-e.1];exact H.dh
  .rw[m]at e;simp at e
def E6(m:Base Z G u t)(F:G.s k=⟨.fx l,bb⟩)(c:LCtx)(H:pz X Z G k u c kd bq)(p:Acc (dZ X.Q) c.V)(B:∀(i:Nat) b o,M[i]?=some (true,b,o)->bq<=b)(h:cB (iD Z.z.T kd) Z G (Z.wk k) ⟨l,rem,bG,bH,df,M⟩ c.base x g u n j){a:Nat}(D:n=a+1)(z:At (iD Z.z.T kd) a ⟨l,rem,bG,bH,df,M⟩ x){id:Nat}{ops:Tv Oper}(he:Edge.ord f id ops L (λr=>⟨aN,r.filter (· < 2),bG,bH,df,M⟩)∈(iD Z.z.T kd).cz ⟨l,rem,bG,bH,df,M⟩)(C:14<=aN->14<=l)(ok:∀r:TA,mK aN (r.filter (· < 2))=true)(w:M=o9 Z.z.T bG bH df aN):
 cZ X Z G k g u t (2,⟨c.V,p⟩,(n*500+j)*10000000000):=by
 subst D;let⟨q,y,bw,J,d,I⟩:=h.xi (tr _ _) (wz _ _) z he;have r:=kN m k ⟨.fx aN,bb⟩ u.heap.size (u.drawn+1);exact uL (bz:=[]) m F c H p C (I false) (Calm.at u _) (λb K E=>Td S6 E) (λe he=>(by cases he)) (ok q) B (λ_=>w) ⟨d.on,d.le,S6,S6,S6,d.mem,h.own.rely h.mem r⟩ (by have:=d.le;omega)
def C5(r:TA):(r.filter (· < 2)).all (· < 2)=true:=by rw[Un];intro a c;exact(List.mem_filter.1 c).2
def Kn(T:Nat):hZ false (cI (ua false T)) = [⟨.cell (S8 T 13),false,false⟩,⟨.cell (S8 T 14),false,false⟩,⟨.cell (S8 T 15),false,false⟩,⟨.cell (S8 T 16),false,false⟩,⟨.cell (S8 T 17),false,false⟩]:=S6
def H0(a j m:Nat)(h:m<100000):(a*500+450)*10000000000+m*100000<((a+1)*500+j)*10000000000:=U
def lY(u:S7):gN [] u:=⟨λi _ _ _ e=>by simp at e,λi _ _ _ _ _ _ _ e=>by simp at e⟩
def l6(Z:Stat)(G:bX)(i:Nat):Own Z G i []:=λi _ _ _ e=>by simp at e
def NN(l:Base Z G u t)(D:G.s k=⟨.fx 4,bb⟩)(c:LCtx)(H:pz X Z G k u c kd bq)(m:Acc (dZ X.Q) c.V)(B:∀(i:Nat) b o,M[i]?=some (true,b,o)->bq<=b)(y:M=o9 Z.z.T bG bH df 3)(d:cB (iD Z.z.T kd) Z G (Z.wk k) ⟨4,[],bG,bH,df,M⟩ c.base x g u n j){a:Nat}(C:n=a+1)(p:At (iD Z.z.T kd) a ⟨4,[],bG,bH,df,M⟩ x):
 cZ X Z G k g u t (2,⟨c.V,m⟩,(n*500+j)*10000000000):=by
 subst C;let⟨q,w⟩:=p.lift (tr _ _) (f:=69) (args:=sM Z.z.T bG bH) (cy:=λ_:Unit=>unit) (to:=λ_=>⟨14,[],bG,bH,df,M⟩) bI;have r:=kN l k ⟨.dG 0,bb⟩ u.heap.size u.drawn;let bp:RCtx:={toLCtx:=c,kd:=kd,bG:=bG,bH:=bH,df:=df,M:=M,oq:=x,nr:=a,bq:=bq}
 have z:bp.Ok X Z (G.gk u Z k ⟨.dG 0,bb⟩) k (u.at u.drawn):=
  ⟨H.wait.rely (dP:=G.gk u Z k ⟨.dG 0,bb⟩) S6 r H.wait.heap.floor,(q ()).1,d.mem,d.own.rely d.mem r,y,p.DL (f:=69) (args:=sM Z.z.T bG bH) (cy:=λ_:Unit=>unit) (to:=λ_=>⟨14,[],bG,bH,df,M⟩) bI,H.bY,B,H.dh⟩
 have E:stepG aK false g u=.go (Tk (Frame.enter aK 69 (sM Z.z.T bG bH) .normal) bp.lj) u:=by obtain⟨st,off,rfl⟩:=d.shape;exact w false c.base st off u
 have hd:=Ja Z.z.T bG bH;exact cZ.still (aX:=⟨.dG 0,bb⟩) (n:=u.drawn) l D Bs ⟨S6,S6,S6,S6,(bR),⟨bR,bR⟩⟩ E S6
  (.dG (n:=20) (j:=400) (x:=(Frame.enter aK 69 (sM Z.z.T bG bH) .normal,[])) bp S6 (λh=>Td h a6) z m ⟨⟨_,hd,S6⟩,bg,S6,S6,S6,lY _,l6 _ _ _⟩) (eQ.last (H0 a j _ a6))
def NR(d:Base Z G u t)(m:G.s k=⟨.fx 15,bb⟩)(c:LCtx)(H:pz X Z G k u c kd bq)(p:Acc (dZ X.Q) c.V)(B:∀(i:Nat) b o,M[i]?=some (true,b,o)->bq<=b)(w:M=o9 Z.z.T bG bH df 3)(l:cB (iD Z.z.T kd) Z G (Z.wk k) ⟨15,[],bG,bH,df,M⟩ c.base x g u n j){a:Nat}(C:n=a+1)(z:At (iD Z.z.T kd) a ⟨15,[],bG,bH,df,M⟩ x):
 cZ X Z G k g u t (2,⟨c.V,p⟩,(n*500+j)*10000000000):=by
 subst C;have f:G.aY=true:=d.b9.eC k (by rw[m];rfl);have E:=d.dy.uQ k (by rw[m];rfl);have r:=kN d k ⟨.fx 16,bb⟩ u.heap.size u.drawn;have hd:Does u (ua false Z.z.T) u (#[⟨.cell (S8 Z.z.T 13),false,false⟩]++(#[⟨.cell (S8 Z.z.T 14),false,false⟩]++(#[⟨.cell (S8 Z.z.T 15),false,false⟩]++(#[⟨.cell (S8 Z.z.T 16),false,false⟩]++(#[⟨.cell (S8 Z.z.T 17),false,false⟩]++#[]))))):=
  .load (d.cells f 0 _ rfl) (.load (d.cells f 1 _ rfl) (.load (d.cells f 2 _ rfl) (.load (d.cells f 3 _ rfl) (.load (d.cells f 4 _ rfl) (.nil _)))))
 let⟨y,bw,q,_,F⟩:=l.mr (aB:=G.gk u Z k ⟨.fx 16,bb⟩) (to:=⟨16,[],bG,bH,df,M⟩) (tr _ _) (wz _ _) z bI hd ⟨l.mem,l.own.rely l.mem r⟩;refine uL (aN:=16) d m c H p (λ_=>a6) (F false) (Calm.refl u) (λb J D=>Td S6 D) (λe he=>?_) S6 B (λ_=>w) q (by have:=q.le;omega);rw[Kn]at he;have I:eX Z (G.gk u Z k ⟨.fx 16,bb⟩)=.done:=Base.done f;have T:=λo h=>@lx.cz Z (G.gk u Z k ⟨.fx 16,bb⟩) t (Z.wk k) u.heap.size o h d.fv.1 I E
 simp only[T7,iN,or_false]at he;rcases he with rfl|rfl|rfl|rfl|rfl<;>exact T _ a6
def NM(P:Base Z G u t)(ao:G.s k=⟨.fx 17,bb⟩)(c:LCtx)(H:pz X Z G k u c kd bq)(E:Acc (dZ X.Q) c.V)(ah:∀(i:Nat) b o,M[i]?=some (true,b,o)->bq<=b)(w:cB (iD Z.z.T kd) Z G (Z.wk k) ⟨17,rem,bG,bH,df,M⟩ c.base x g u n j){a:Nat}(ak:n=a+1)(ad:At (iD Z.z.T kd) a ⟨17,rem,bG,bH,df,M⟩ x):
 cZ X Z G k g u t (2,⟨c.V,E⟩,(n*500+j)*10000000000):=by
 subst ak;let⟨b7,al,z,ap⟩:=ad.k' (ops:=sA 2 0) (v:=iT) bI;let⟨aC,hd,hm,Q,k5,ar,ai,ag,aG,_⟩:=uJ al w.mem;have au:=z ⟨_,_,_,hd⟩;obtain⟨V,ρ,cs,o⟩:=c;have W:=H.wait;obtain⟨L,aE⟩:∃L,L=V:=⟨_,S6⟩
 have F:=W.cs;have q:=W.some;dsimp only at F q;obtain⟨f,h,d,g3,S,T,C,af⟩:∃f h d g3,V.cs=f::h/\cs=d::g3/\cN X.K ρ f d/\cK (cN X.K ρ) h g3:=by
  generalize V.cs=l at F q;cases F with
  |nil=>exact Td S6 q
  |@cons x y l m z r=>exact⟨_,_,_,_,S6,S6,z,r⟩
 subst T;have cF:Kept f:=λe ax J=>by
  have:=C.mode;rw[J]at this;generalize d.mode=aB at this;cases this with
  |panicking r=>
   cases r with
   |cons I _=>exact I.recovered.1
 have aw:Kept d:=λe ax J=>by
  have:=C.mode;rw[J]at this;generalize f.mode=aB at this;cases this with
  |panicking r=>
   cases r with
   |cons I _=>exact I.recovered.2
 let⟨_,N,aa⟩:=X.stub V W.going _ kd f h W.zB S6 W.fr S cF;let⟨B,Y,aD,g4⟩:=Fx X.ek N W.going W.self S6 aa;have ae:cN X.K ρ (eU kd f iT) (eU kd d iT):=by
  unfold eU;rcases W.zB with rfl|rfl
  .exact qX C (Q0 ρ)
  .exact C
 have keep:∀b,b<u.heap.size->aC.heap[b]?≠u.heap[b]?->gY Z G (Z.wk k) b/\bq<=b:=λb p q=>Uh λz=>q (ai b λi o e=>by have e:M[i]?=some (true,b,o):=e;let⟨q1,_,K⟩:=w.own i true b o e;exact z ⟨⟨q1,K S6⟩,ah i b o e⟩)
 have aA:jV Z G (G.gk u Z k ⟨.lift,bb⟩) (Z.wk k) bq u aC:=qe P Q keep (λb p=>Tq p) S6;have d':=W.rely (dP:=G.gk u Z k ⟨.lift,bb⟩) S6 aA H.bY;have aq:stepG aK false g u=.go (Tk (eU kd d iT) (g3++o.base)) aC (cI (eh M (sA 2 0))).toArray:=by obtain⟨st,off,rfl⟩:=w.shape;have:=ap false st off d (g3++o.base) u aC _ aw hd;rw[show x.2++(LCtx.base ⟨V,ρ,d::g3,o⟩)=d::(g3++o.base) by rw[au];rfl];exact this
 have am:m5 X Z (G.gk u Z k ⟨.lift,bb⟩) (Z.wk k) ρ ⟨eU kd f iT,h,V.w⟩:=⟨d'.ll.gB,d'.ll.own,d'.ll.T,d'.ll.uI,d'.ll.xo,d'.ll.inexact,d'.ll.fits⟩
 have aj:eQ X.Q (2,(⟨⟨eU kd f iT,h,V.w⟩,dZ.acc B.acc⟩:lP X.Q),0) (2,⟨V,E⟩,((a+1)*500+j)*10000000000):=by
  rcases g4 with g4|g4
  .refine .right _ ?_
   have e:(⟨⟨eU kd f iT,h,V.w⟩,dZ.acc B.acc⟩:lP X.Q)=⟨V,E⟩:=Subtype.ext g4.symm;rw[e];exact .right _ U
  .exact eQ.mid g4
 refine cZ.l3 (aX:=⟨.lift,bb⟩) P ao Bs ⟨S6,S6,S6,S6,(bR),⟨bR,bR⟩⟩ aq S6 Q (λb p q=>(keep b p q).1) (λe he=>?_) (bR)
  (.lift (bb:=bb) (fr:=eU kd d iT) ⟨⟨eU kd f iT,h,V.w⟩,ρ,g3,o⟩ S6 S6 S6 ⟨B,Y,⟨d'.fit,d'.room,ae,af,d'.heap⟩,am,d'.o⟩ (dZ.acc B.acc)) aj
 obtain⟨i,own,b,R,aH,wr,D,rfl,av⟩:=ag e he;have D:M[i]?=some (own,b,R):=D;let⟨q1,az,K⟩:=w.own i own b R D;have p:=gL w.mem D;have ay:(G.gk u Z k ⟨.lift,bb⟩).b1 b=G.b1 b:=Tq p;refine .mem S6 (by rw[ar];exact p) aF ⟨q1.2.1,q1.2.2⟩ (λe=>Td e q1.1) ?_;show gY Z (G.gk u Z k ⟨.lift,bb⟩) (Z.wk k) b\/((G.ro (Z.wk k) b\/((G.gk u Z k ⟨.lift,bb⟩).b1 b=Z.wk k/\b≠Z.z.T))/\wr=false)
 unfold gY;rw[ay];cases wr with
 |true=>exact .inl ⟨q1,K (av S6)⟩
 |false=>exact .inr ⟨az.symm.imp id λx=>⟨x,q1.1⟩,S6⟩
def NQ(f:Base Z G u t)(q:G.s k=⟨.fx l,bb⟩)(c:LCtx)(H:pz X Z G k u c kd bq)(m:Acc (dZ X.Q) c.V)(ok:mK l rem=true)(p:∀(i:Nat) b o,M[i]?=some (true,b,o)->bq<=b)(B:l<=16->M=o9 Z.z.T bG bH df l)(d:cB (iD Z.z.T kd) Z G (Z.wk k) ⟨l,rem,bG,bH,df,M⟩ c.base x g u n j):
 cZ X Z G k g u t (2,⟨c.V,m⟩,(n*500+j)*10000000000):=by
 rcases d.quiet (tr _ _)with⟨a,z,w⟩|⟨y,bw,J,D,F⟩
 case inr=>
  have r:=kN f k ⟨.fx l,bb⟩ u.heap.size u.drawn;exact uL (bz:=[]) f q c H m id (F false u) (Calm.refl u) (λb I E=>Td S6 E) (λe he=>(by cases he)) ok p B ⟨D.on,D.le,S6,S6,S6,D.mem,d.own.rely d.mem r⟩ U
 rcases NK ok with rfl|rfl|rfl|rfl|⟨rfl,rfl|⟨r,rfl,C⟩|⟨r,rfl,C⟩⟩|rfl|⟨rfl,rfl|⟨r,rfl,C⟩|⟨r,rfl,C⟩⟩|rfl|rfl
 .obtain rfl:=B a6
  exact Au f q c H m p d z w (aN:=1) bI S6 (λh=>Td h a6) S6 S6
 .obtain rfl:=B a6
  exact Au f q c H m p d z w (aN:=2) bI S6 (λh=>Td h a6) S6 S6
 .obtain rfl:=B a6
  exact Au f q c H m p d z w (aN:=3) bI S6 (λh=>Td h a6) S6 S6
 .exact E6 f q c H m p d z w (aN:=4) bI (λh=>Td h a6) (λr=>C5 r) (B a6)
 .exact NN f q c H m p (B a6) d z w
 .exact uM f q c H m p d z w (aN:=4) bI id C B
 .exact uM f q c H m p d z w (aN:=4) bI id C B
 .exact E6 f q c H m p d z w (aN:=15) bI (λ_=>a6) (λr=>C5 r) (B a6)
 .exact NR f q c H m p (B a6) d z w
 .exact uM f q c H m p d z w (aN:=15) bI id C B
 .exact uM f q c H m p d z w (aN:=15) bI id C B
 .exact uM f q c H m p d z w (aN:=17) (b7:=c0 M Aq) bI (λ_=>a6) S6 (λh=>Td h a6)
 .exact NM f q c H m p d z w
def tN(q dd m:Nat)(h:dd<m):q+dd*100000<q+m*100000:=U
def vi(T:Nat):dn (ki T).P (ki T).ext:=by unfold ki;exact j8
def zr(T:Nat)(p:DP):(ki T).dh p<=400:=bg
def qq:(⟨.dG l,bb⟩:ck).c≠.un:=by intro h;cases h
def RCtx.Ok.k2{c:RCtx}(h:c.Ok X Z G k u):∀(i:Nat) own b o,c.M[i]?=some (own,b,o)->b<u.heap.size:=λ_ _ _ _ e=>gL h.mem e
def CH(d:Base Z G u t)(q:G.s k=⟨.dG l,bb⟩)(c:RCtx)(h:c.Ok X Z G k u)(f:Acc (dZ X.Q) c.V){cT:Nat}(z:g7 ⟨.dG l,bb⟩ ⟨.dG aN,bb⟩)(w:stepG aK false g u=.go (bW y c.lj) (u.at cT))(ok:sb aN=true)(j:1<=aN->aN<=7->bb=false)(p:eJ (ki Z.z.T) c9 ⟨aN,c.bG,c.bH⟩ bw y)(i:bw<=400){m:Nat}(o:c9*500+bw<m):cZ X Z G k g u t (2,⟨c.V,f⟩,(c.nr*500+450)*10000000000+m*100000):=by
 have r:=kN d k ⟨.dG aN,bb⟩ u.heap.size cT;exact cZ.still (aX:=⟨.dG aN,bb⟩) (n:=cT) d q qq z w S6
  (.dG c ok j (h.rely (dP:=G.gk u Z k ⟨.dG aN,bb⟩) S6 r h.l.heap.floor h.k2) f ⟨p,i,S6,S6,S6,lY _,l6 _ _ _⟩) (eQ.last (tN _ _ _ o))
def RQ(T:Nat)(v:Int):hZ true (cI (sn T v)) = [⟨.cell (S8 T 4),false,true⟩]:=S6
def Base.AD(c:Base Z G u t)(f:(G.s k).c≠.un)(hd:(G.s k).deaf=0)(h:G.aY=true)(fn:Tw)(pos:T6):iH (pl Z G) (t++MemOp.ofEvents (Z.wk k) fn pos #[⟨.cell (S8 Z.z.T 4),false,true⟩]) (Z.wk k):=by
 have d:=c.dy.dy;rw[Base.done h]at d;have e:MemOp.ofEvents (Z.wk k) fn pos #[⟨.cell (S8 Z.z.T 4),false,true⟩]=#[{g:=Z.wk k,fn,pos,act:=.access ⟨.cell (S8 Z.z.T 4),false,true⟩}]:=by rw[ofEvents_eq];simp[MemAct.ofEvent]
 rw[e];exact d.AD c.ap.lU (c.dy.st _ (.inr (.inl ⟨k,S6,f⟩))) ⟨S6,S6⟩ ((c.dy.qU k).trans hd) (.inl ⟨4,S6,U,U⟩)
def vW(d:Base Z G u t)(f:G.s k=⟨.dG l,bb⟩)(c:RCtx)(h:c.Ok X Z G k u)(i:Acc (dZ X.Q) c.V)(F:cB (ki Z.z.T) Z G (Z.wk k) ⟨l,c.bG,c.bH⟩ c.lj x g u n j){a:Nat}(E:n=a+1)(C:At (ki Z.z.T) a ⟨l,c.bG,c.bH⟩ x)(b:Ta)(m:G.aY=b)(he:Edge.fix true false [.val (.int .u32 (mj b))] (sn Z.z.T (mj b)) ⟨aN,c.bG,c.bH⟩∈(ki Z.z.T).cz ⟨l,c.bG,c.bH⟩)(ok:sb aN=true)(D:1<=aN->aN<=7->bb=false)(H:cO (vV bb aN) (G.s (!k)).role G.mu G.ms G.aY G.bc)(B:(vV bb aN).gC=(vV bb l).gC)(z:7<=aN->b=true):
 cZ X Z G k g u t (2,⟨c.V,i⟩,(c.nr*500+450)*10000000000+(n*500+j)*100000):=by
 subst E;have wd:=Word.refl Z u;have r:=pa d wd d.ww.T (aB:=G.wk k ⟨.dG aN,bb⟩ G.mu G.ms G.aY G.bc G.v G.m) S6 S6 (Z.wk k);let⟨y,bw,p,_,o⟩:=F.mr (aB:=G.wk k ⟨.dG aN,bb⟩ G.mu G.ms G.aY G.bc G.v G.m) (vi _) (zr _) C he (.mark (.load (d.ww.Cd m) (.nil _))) ⟨lY _,l6 _ _ _⟩;have w:=d.b9.tn k;rw[f]at w;rw[RQ]at o;have q:(⟨.dG aN,bb⟩:ck).eC=true->G.aY=true:=λe=>by rw[m];exact z (Uu e)
 refine cZ.sync (aX:=⟨.dG aN,bb⟩) (l:=[⟨.cell (S8 Z.z.T 4),false,true⟩]) d f qq (o false) S6 wd d.ww.T d.ww.W H w bR S6 ⟨bR,bR⟩ B S6 (λe he=>?_) S6 (λe=>.inr (q e)) (λe=>.inr ?_) (bR)
  (.dG c ok D (h.rely (dP:=G.wk k ⟨.dG aN,bb⟩ G.mu G.ms G.aY G.bc G.v G.m) S6 r h.l.heap.floor h.k2) i p) (eQ.last (by have:=p.le;omega)) (.inl S6) (.inl S6)
 .rw[ev he];exact .bM a6 a6 (λ_=>S6)
 .exact d.AD (by rw[f];exact qq) (by rw[f];rfl) (q e) _ _
def IK(J:Base Z G u t)(c:RCtx)(h:c.Ok X Z G k u):gN (qQ Z.z c.bG c.bH) u/\Own Z G (Z.wk k) (qQ Z.z c.bG c.bH):=by
 have L:=J.iA;have cur:∀b o,(b=Z.z.R\/b=Z.z.gx\/b=Z.z.gy\/b=Z.z.Fr)->Z.aL.heap[b]?=some o->u.heap[b]?=some o:=λb o d e=>(J.ww.old b (L.gB b (.inr d)).2 (L.gB b (.inr d)).1.1).trans e
 have n:=cur _ _ (.inl S6) L.c5;have l:=cur _ _ (.inr (.inl S6)) L.kI;have m:=cur _ _ (.inr (.inr (.inl S6))) L.kk;have g:=cur _ _ (.inr (.inr (.inr S6))) L.lX;have dx:c.M[0]?=some (true,c.bG,.cells #[pt Z.z.T] 71 (0,0)):=by rw[h.vH];rfl
 have D:c.M[1]?=some (true,c.bH,.cells #[i0] 3 (0,0)):=by rw[h.vH];rfl
 have Q:=h.mem.has 0 _ _ _ dx;have P:=h.mem.has 1 _ _ _ D;have H:=h.own 0 _ _ _ dx;have F:=h.own 1 _ _ _ D;have U:=h.mem.fL 0 1 _ _ _ _ _ _ dx D a6;have ro:∀b,(b=Z.z.R\/b=Z.z.gx\/b=Z.z.gy\/b=Z.z.Fr)->G.ro (Z.wk (!k)) b/\G.ro (Z.wk k) b:=λb d=>⟨L.ro _ b (.inr (.inr d)),L.ro _ b (.inr (.inr d))⟩
 have K:Z.wk (!k)≠Z.wk k:=by cases k<;>simp[Stat.wk]
 have p:∀b,(b=Z.z.R\/b=Z.z.gx\/b=Z.z.gy\/b=Z.z.Fr)->c.bG≠b/\c.bH≠b:=λb d=>⟨λe=>(H.2.2 S6).2 _ K (e ▸ (ro b d).1),λe=>(F.2.2 S6).2 _ K (e ▸ (ro b d).1)⟩
 have y:=p _ (.inl S6);have r:=p _ (.inr (.inl S6));have w:=p _ (.inr (.inr (.inl S6)));have q:=p _ (.inr (.inr (.inr S6)));have bZ:∀{b z:Nat} {o E:Obj},u.heap[b]?=some o->u.heap[z]?=some E->o≠E->b≠z:=λM I C e=>by subst e;rw[M]at I;exact C (bD I)
 have R:Z.z.R≠Z.z.gx:=bZ n l aF;have S:Z.z.R≠Z.z.gy:=bZ n m aF;have a3:Z.z.R≠Z.z.Fr:=bZ n g aF;have a4:Z.z.gx≠Z.z.gy:=bZ l m aF;have a5:Z.z.gx≠Z.z.Fr:=bZ l g aF;have T:Z.z.gy≠Z.z.Fr:=bZ m g aF;refine⟨⟨λi own b o e=>?_,λi j own b o V z E e B C=>?_⟩,λi own b o e=>?_⟩
 .unfold qQ at e
  rcases i with _|_|_|_|_|_|i<;>simp at e<;>obtain⟨_,rfl,rfl⟩:=e
  .exact Q
  .exact P
  .exact n
  .exact l
  .exact m
  .exact g
 .unfold qQ at e B
  rcases i with _|_|_|_|_|_|i<;>simp at e<;>obtain⟨_,rfl,_⟩:=e<;>rcases j with _|_|_|_|_|_|j<;>simp at B<;>obtain⟨_,rfl,_⟩:=B<;>first|(exact Td S6 C)|assumption|exact TT (by assumption)|exact y.1|exact y.2|exact r.1|exact r.2|exact w.1|exact w.2|exact q.1|exact q.2|exact y.1.symm|exact y.2.symm|exact r.1.symm|exact r.2.symm|exact w.1.symm|exact w.2.symm|exact q.1.symm|exact q.2.symm
 .have f:∀b,(b=Z.z.R\/b=Z.z.gx\/b=Z.z.gy\/b=Z.z.Fr)->(b≠Z.z.T/\b≠Z.W/\b≠Z.ch)/\(G.b1 b=Z.wk k\/G.ro (Z.wk k) b):=λb d=>⟨(L.gB b (.inr d)).1,.inr (ro b d).2⟩
  unfold qQ at e;rcases i with _|_|_|_|_|_|i<;>simp at e<;>obtain⟨rfl,rfl,_⟩:=e
  .exact⟨H.1,H.2.1,bR⟩
  .exact⟨F.1,F.2.1,bR⟩
  .exact⟨(f _ (.inl S6)).1,(f _ (.inl S6)).2,bR⟩
  .exact⟨(f _ (.inr (.inl S6))).1,(f _ (.inr (.inl S6))).2,bR⟩
  .exact⟨(f _ (.inr (.inr (.inl S6)))).1,(f _ (.inr (.inr (.inl S6)))).2,bR⟩
  .exact⟨(f _ (.inr (.inr (.inr S6)))).1,(f _ (.inr (.inr (.inr S6)))).2,bR⟩
def y4(o:Base Z G u t)(q:G.s k=⟨.dG l,bb⟩)(c:RCtx)(h:c.Ok X Z G k u)(p:cB (ki Z.z.T) Z G (Z.wk k) ⟨l,c.bG,c.bH⟩ c.lj x g u n j){a:Nat}(d:At (ki Z.z.T) a ⟨l,c.bG,c.bH⟩ x)(he:Edge.lift f args (λ_:Unit=>unit) (λ_=>⟨to,c.bG,c.bH⟩)∈(ki Z.z.T).cz ⟨l,c.bG,c.bH⟩)(aX:ck):
 ∃bp:h0,bp.toRCtx=c/\bp.bZ=a/\bp.Ok X Z (G.gk u Z k aX) k to (u.at u.drawn)/\stepG aK false g u=.go (Tk (Frame.enter aK f args .normal) bp.ja) u:=by
 let⟨i,m⟩:=d.lift (vi _) he;have r:=kN o k aX u.heap.size u.drawn;refine⟨{toRCtx:=c,j7:=x,bZ:=a},S6,S6,⟨h.rely (dP:=G.gk u Z k aX) S6 r h.l.heap.floor h.k2,(i ()).1,d.DL he⟩,?_⟩;obtain⟨st,off,rfl⟩:=p.shape;exact m false c.lj st off u
def yK(q a j m:Nat)(h:m<5000000):q+(a*500+450)*100000+m<q+((a+1)*500+j)*100000:=U
def H2(q m:Nat):(q*500+400)*10000000000<(q*500+450)*10000000000+m:=U
def Jb(f:Base Z G u t)(l:G.s k=⟨.dG 5,false⟩)(c:RCtx)(h:c.Ok X Z G k u)(B:Acc (dZ X.Q) c.V)(R:cB (ki Z.z.T) Z G (Z.wk k) ⟨5,c.bG,c.bH⟩ c.lj x g u n j){a:Nat}(L:n=a+1)(J:At (ki Z.z.T) a ⟨5,c.bG,c.bH⟩ x):
 cZ X Z G k g u t (2,⟨c.V,B⟩,(c.nr*500+450)*10000000000+(n*500+j)*100000):=by
 subst L;have m:=f.b9.side k;rw[l]at m;have m:cO .J (G.s (!k)).role G.mu G.ms G.aY G.bc:=m;let⟨p,V,P⟩:=cO.raise m;have w:(G.s (!k)).role.gC=false:=by have o:=m.mu;generalize (G.s (!k)).role=b at o;cases b<;>first|rfl|(simp[jO,j2]at o)
 have M:∀j,(G.s j).eC=false:=λj=>by
  rcases d:(G.s j).eC with _|_
  .rfl
  .rw[f.b9.eC j d]at p;cases p
 have e:∀j,(G.wk k ⟨.dG 7,false⟩ G.mu G.ms true G.bc G.v G.m).s j=if j=k then⟨.dG 7,false⟩else G.s j:=λ_=>S6
 have wd:Word Z u (u.setCell (S8 Z.z.T 4) (.int .u32 1)):=Word.set 4 _ (.inl S6);have z:(u.setCell (S8 Z.z.T 4) (.int .u32 1)).heap[Z.z.T]?=some (.cells (eN Z.z G.mu G.ms true G.bc) 132 (0,0)):=Word.T (aB:={G with aY:=true}) f (QT ..);have hW:=Word.W f 4 (.int .u32 1);have r:=pa f wd z (aB:=G.wk k ⟨.dG 7,false⟩ G.mu G.ms true G.bc G.v G.m) S6 S6 (Z.wk k);let⟨y,bw,C,_,Q⟩:=R.mr (aB:=G.wk k ⟨.dG 7,false⟩ G.mu G.ms true G.bc G.v G.m) (to:=⟨7,c.bG,c.bH⟩) (vi _) (zr _) J bI (.mark (.store (f.ww.Cd S6) (f.ww.nV 4) (.nil _))) ⟨lY _,l6 _ _ _⟩;have D:=f.b9.tn k;rw[l]at D;have un:(⟨.dG 7,false⟩:ck).c=.un↔(⟨.dG 5,false⟩:ck).c=.un:=⟨bR,bR⟩
 have F:=f.b9.wk l (aX:=⟨.dG 7,false⟩) P D bR S6 un (λ_=>S6) (λ_=>S6);have E:ea Z (G.wk k ⟨.dG 7,false⟩ G.mu G.ms true G.bc G.v G.m) _:=ea.of f wd z hW S6 S6;have K:∀a:eF,a.ig (G.wk k ⟨.dG 7,false⟩ G.mu G.ms true G.bc G.v G.m)↔a.ig G:=by
  intro a;cases a with
  |main=>exact T4
  |dN j=>
   show((G.wk k ⟨.dG 7,false⟩ G.mu G.ms true G.bc G.v G.m).s j).c≠.un↔(G.s j).c≠.un;rw[e];split
   .rename_i d;subst d;rw[l];exact not_congr un
   .exact T4
  |eu=>exact T4
 have U:eX Z G=.written (Z.wk k):=by
  unfold eX;rw[p];cases k with
  |false=>rw[l];rfl
  |true=>
   have w:(G.s false).role.gC=false:=w;rw[w,l];rfl
 have T:e5 Z (G.wk k ⟨.dG 7,false⟩ G.mu G.ms true G.bc G.v G.m) (t++MemOp.ofEvents (Z.wk k) g.frame.fn g.frame.place #[⟨.cell (S8 Z.z.T 4),true,true⟩]) u.heap.size:=by
  refine e5.raise (aB:=G.wk k ⟨.dG 7,false⟩ G.mu G.ms true G.bc G.v G.m) (f.ap.same S6 S6) f.dy ⟨λb _=>S6,S6⟩ (.dN k) (by show(G.s k).c≠.un;rw[l];exact qq) U S6 f.fv.1 K (by show(G.s k).deaf=0;rw[l];rfl) (λa=>?_) (λj d=>?_) (λj d=>?_) (λd=>⟨d,aF⟩) id
  .cases a with
   |main=>rfl
   |dN j=>
    show((G.wk k ⟨.dG 7,false⟩ G.mu G.ms true G.bc G.v G.m).s j).deaf=(G.s j).deaf;rw[e];split
    .rename_i d;subst d;rw[l];rfl
    .rfl
   |eu=>rfl
  .rw[e]at d
   split at d
   .rename_i q;rw[q]
   .rw[M j]at d;cases d
  .rw[e]at d
   split at d
   .cases d
   .rename_i q
    exact⟨d,λS=>by cases S;exact q S6⟩
 have H:Base Z (G.wk k ⟨.dG 7,false⟩ G.mu G.ms true G.bc G.v G.m) _ _:=f.rest S6 S6 S6 wd.size E F (by rw[wd.size];exact T);exact .go (G.wk k ⟨.dG 7,false⟩ G.mu G.ms true G.bc G.v G.m) ⟨.dG 7,false⟩ _ [⟨.cell (S8 Z.z.T 4),true,true⟩] _ _ (Q false) S6 S6 S6 S6 S6 H (λi _=>e0.same (aB:=G.wk k ⟨.dG 7,false⟩ G.mu G.ms true G.bc G.v G.m) S6 S6 wd.size (λb o I _=>wd.keep b o I) E)
  (.dG c rfl (λ_ _=>S6) (h.rely (dP:=G.wk k ⟨.dG 7,false⟩ G.mu G.ms true G.bc G.v G.m) S6 r h.l.heap.floor h.k2) B C) (eQ.last (tN _ _ ((a+1)*500+j) (by have:=C.le;omega))) S6 (.inl S6) (.inl S6)
def I7(h:sb l=true):l=0\/l=1\/l=2\/l=3\/l=4\/l=5\/l=7\/l=8:=by unfold sb at h;split at h<;>first|(cases h;done)|simp
def Jc(d:Base Z G u t)(f:G.s k=⟨.dG l,bb⟩)(c:RCtx)(h:c.Ok X Z G k u)(m:Acc (dZ X.Q) c.V)(ok:sb l=true)(D:1<=l->l<=7->bb=false)(q:cB (ki Z.z.T) Z G (Z.wk k) ⟨l,c.bG,c.bH⟩ c.lj x g u n j):
 cZ X Z G k g u t (2,⟨c.V,m⟩,(c.nr*500+450)*10000000000+(n*500+j)*100000):=by
 rcases q.quiet (vi _)with⟨a,z,w⟩|⟨y,bw,R,E,p⟩
 case inr=>exact CH (cT:=u.drawn) d f c h m (g7.refl _) (p false u) ok D E.on E.le U
 have F:=d.b9.side k;rw[f]at F;rcases I7 ok with rfl|rfl|rfl|rfl|rfl|rfl|rfl|rfl
 .rcases B:G.aY with _|_
  .have C:bb=false:=by
    cases bb with
    |false=>rfl
    |true=>have:=cO.KN F;rw[B]at this;cases this
   subst C;exact vW d f c h m q z w (aN:=1) false B (.head _) S6 (λ_ _=>S6) F S6 (λh=>Td h a6)
  .exact vW d f c h m q z w (aN:=8) true B (.tail _ (.head _)) S6 (λ_ h=>Td h a6) F S6 (λ_=>S6)
 .obtain rfl:=D a6 a6
  obtain⟨bp,rfl,rfl,H,p⟩:=y4 d f c h q w (to:=2) bI ⟨.lock .jr,false⟩;have C:=LP Z.z.T .normal (.inl S6);subst z;exact cZ.still (aX:=⟨.lock .jr,false⟩) (n:=u.drawn) d f qq ⟨S6,S6,S6,S6,(bR),⟨bR,bR⟩⟩ p S6
   (.lock (n:=40) (j:=400) (x:=(Frame.enter aK 134 (w8 Z.z.T) .normal,[])) bp H m ⟨⟨_,C,S6⟩,bg,S6,S6,S6,lY _,l6 _ _ _⟩) (eQ.last (yK _ _ _ _ a6))
 .obtain rfl:=D a6 a6
  rcases cO.KM F with⟨B,I⟩|⟨B,I⟩
  .exact vW d f c h m q z w (aN:=3) false B (.head _) S6 (λ_ _=>S6) I S6 (λh=>Td h a6)
  .exact vW d f c h m q z w (aN:=7) true B (.tail _ (.head _)) S6 (λ_ _=>S6) I S6 (λ_=>S6)
 .obtain rfl:=D a6 a6
  obtain⟨bp,rfl,rfl,H,p⟩:=y4 d f c h q w (to:=4) bI ⟨.dB 0,false⟩;let⟨J,M⟩:=IK d bp.toRCtx h;have C:=IT Z.z.T Z.z.F Z.z.R Z.z.gx Z.z.gy Z.z.Fr bp.bG bp.bH;have r:=kN d k ⟨.dB 0,false⟩ u.heap.size u.drawn;subst z;refine cZ.still (aX:=⟨.dB 0,false⟩) (n:=u.drawn) d f qq ⟨S6,S6,S6,S6,(bR),⟨bR,bR⟩⟩ p S6
   (.dB (n:=60) (j:=400) (x:=(Frame.enter aK 70 #[pt bp.bG,pt bp.bH] .normal,[])) bp u.heap.size S6 (λi b o e=>?_) h.l.heap.floor h.k2 bg H m ⟨⟨_,C,S6⟩,bg,S6,S6,S6,J,M.rely J r⟩) (eQ.last (yK _ _ _ _ a6))
  unfold qQ at e;rcases i with _|_|_|_|_|_|i<;>simp at e
 .let⟨P,y,bw,Q,E,p⟩:=q.xi (vi _) (zr _) w (to:=λ_=>⟨5,c.bG,c.bH⟩) bI
  exact CH (aN:=5) (cT:=u.drawn+1) d f c h m ⟨S6,S6,S6,S6,(bR),⟨bR,bR⟩⟩ (p false) S6 (λ_ _=>D a6 a6) E.on E.le (by have:=E.le;omega)
 .obtain rfl:=D a6 a6
  exact Jb d f c h m q z w
 .obtain rfl:=D a6 a6
  obtain⟨bp,rfl,rfl,H,p⟩:=y4 d f c h q w (to:=8) bI ⟨.iu .ld,false⟩;have C:=RG Z.z.T .normal (.inl S6);subst z;exact cZ.still (aX:=⟨.iu .ld,false⟩) (n:=u.drawn) d f qq ⟨S6,S6,S6,S6,(λe=>S6),⟨bR,bR⟩⟩ p S6
   (.iu (n:=20) (j:=400) (x:=(Frame.enter aK 135 (w8 Z.z.T) .normal,[])) bp H m ⟨⟨_,C,S6⟩,bg,S6,S6,S6,lY _,l6 _ _ _⟩) (eQ.last (yK _ _ _ _ a6))
 .let⟨L,p⟩:=w.leave bI
  have r:=kN d k ⟨.fx 14,bb⟩ u.heap.size u.drawn;have K:stepG aK false g u=.go (Tk (c.oq.1.finish unit) (c.oq.2++c.base)) u:=by obtain⟨st,off,rfl⟩:=q.shape;have:=p false st off c.oq.1 (c.oq.2++c.base) u (uu h.run);rw[L];exact this
  exact cZ.still (aX:=⟨.fx 14,bb⟩) (n:=u.drawn) d f qq ⟨S6,S6,S6,S6,(λe=>S6),⟨bR,bR⟩⟩ K S6
   (.fx (l:=14) c.toLCtx c.kd c.bG c.bH c.df c.M [] c.bq S6 h.ad h.bY h.dh (λ_=>h.vH) (h.l.rely (dP:=G.gk u Z k ⟨.fx 14,bb⟩) S6 r h.l.heap.floor) m ⟨h.on,bg,S6,S6,S6,h.mem,h.own.rely h.mem r⟩) (eQ.last (H2 _ _))
end
section
variable{X:et}{Z:Stat}[hi X Z]{G aB:bX}{u aC w:S7}{t bh:Tt}{k:Ta}{g g':TC}{s aX:ck}{bb:Ta}{x y:bA}{n j c9 bw l aN:Nat}{mu ms:Int}
noncomputable abbrev mA(T:Nat):de kg:=wY T 4 (132,28) .normal
def vj(T:Nat):dn (mA T).P (mA T).ext:=by unfold mA wY;exact j8
def KV(T:Nat)(p:kg):(mA T).dh p<=400:=by cases p<;>first|exact bg|(show(2:Nat)<=400;omega)
def Br{p:kg}:(⟨.lock p,bb⟩:ck).c≠.un:=by intro h;cases h
def DR(p:kg):(pY p).gC=false:=by cases p<;>rfl
def Fu{p q:kg}(c:pY q=pY p)(d:(⟨.lock q,false⟩:ck).deaf=(⟨.lock p,false⟩:ck).deaf):g7 ⟨.lock p,false⟩ ⟨.lock q,false⟩:=
 ⟨c,rfl,rfl,d,id,⟨bR,bR⟩⟩
def qM(q dd m:Nat)(h:dd<m):q+dd<q+m:=U
def h0.Ok.k2{c:h0}(h:c.Ok X Z G k to u):∀(i:Nat) own b o,c.M[i]?=some (own,b,o)->b<u.heap.size:=λ_ _ _ _ e=>gL h.r.mem e
def zN{p q:kg}(i:Base Z G u t)(B:G.s k=⟨.lock p,false⟩)(c:h0)(h:c.Ok X Z G k 2 u)(j:Acc (dZ X.Q) c.V)(D:g7 ⟨.lock p,false⟩ ⟨.lock q,false⟩)(C:stepG aK false g u=.go (bW y c.ja) aC)(calm:Calm u aC)(n:aC.heap=u.heap)(z:eJ (mA Z.z.T) c9 q bw y)(o:bw<=400){m:Nat}(w:c9*500+bw<m):cZ X Z G k g u t (2,⟨c.V,j⟩,(c.nr*500+450)*10000000000+(c.bZ*500+450)*100000+m):=by
 have keep:∀b,b<u.heap.size->aC.heap[b]?≠u.heap[b]?->gY Z G (Z.wk k) b/\u.heap.size<=b:=λb _ f=>Td (by rw[n]) f
 have r:jV Z G (G.gk u Z k ⟨.lock q,false⟩) (Z.wk k) u.heap.size u aC:=qe i calm keep (λb d=>Tq d) S6;exact cZ.l3 (aX:=⟨.lock q,false⟩) (l:=[]) i B Br D C S6 calm (λb d f=>(keep b d f).1) (λe he=>(by cases he)) (λ_ e he=>(by cases he))
  (.lock c (h.rely (dP:=G.gk u Z k ⟨.lock q,false⟩) S6 r h.r.l.heap.floor h.k2) j ⟨z,o,S6,S6,S6,lY _,l6 _ _ _⟩) (eQ.last (qM _ _ _ w))
def mC{p to:kg}(f:Base Z G u t)(m:G.s k=⟨.lock p,false⟩)(c:h0)(h:c.Ok X Z G k 2 u)(l:Acc (dZ X.Q) c.V)(F:cB (mA Z.z.T) Z G (Z.wk k) p c.ja x g u n j){a:Nat}(D:n=a+1)(w:At (mA Z.z.T) a p x)(he:Edge.fix true false an d to∈(mA Z.z.T).cz p)(hd:Does u d aC es)(wd:Word Z u aC)(i:aC.heap[Z.z.T]?=some (.cells (eN Z.z mu ms G.aY G.bc) 132 (0,0)))(hW:aC.heap[Z.W]?=some (.cells #[.int .u64 G.v,.int .u32 G.m] 208 (0,0)))(H:cO (pY to) (G.s (!k)).role mu ms G.aY G.bc)(B:∀e∈hZ true (cI d),iv Z u.heap.size e)(z:(⟨.lock to,false⟩:ck).deaf=deafBehind (⟨.lock p,false⟩:ck).deaf (hZ true (cI d)).toArray)(C:ms=G.ms\/ms=0):
 cZ X Z G k g u t (2,⟨c.V,l⟩,(c.nr*500+450)*10000000000+(c.bZ*500+450)*100000+(n*500+j)):=by
 subst D;have r:=pa f wd i (aB:=G.wk k ⟨.lock to,false⟩ mu ms G.aY G.bc G.v G.m) S6 S6 (Z.wk k);let⟨y,bw,o,_,E⟩:=F.mr (aB:=G.wk k ⟨.lock to,false⟩ mu ms G.aY G.bc G.v G.m) (vj _) (KV _) w he hd ⟨lY _,l6 _ _ _⟩;have q:=f.b9.tn k;rw[m]at q;exact cZ.sync (aX:=⟨.lock to,false⟩) f m Br (E false) S6 wd i hW H q bR S6 ⟨bR,bR⟩ ((DR to).trans (DR p).symm) S6 B z bR bR (bR)
  (.lock c (h.rely (dP:=G.wk k ⟨.lock to,false⟩ mu ms G.aY G.bc G.v G.m) S6 r h.r.l.heap.floor h.k2) l o) (eQ.last (qM _ _ _ (by have:=o.le;omega))) (C.imp id .inl) (.inl S6)
def nB:∀e∈([]:Tb TL),iv Z B e:=λe he=>(by cases he)
def iS{e:TL}(h:iv Z B e):∀c∈[e],iv Z B c:=λc he=>by rw[ev he];exact h
def lo{e:TL}{l:Tb TL}(h:iv Z B e)(k:∀c∈l,iv Z B c):∀c∈e::l,iv Z B c:=λc he=>by
 rcases List.mem_cons.1 he with rfl|he
 .exact h
 .exact k _ he
def pj:iv Z B ⟨.cell (S8 Z.z.T 5),wr,true⟩:=.bM a6 a6 (bR)
def x5:iv Z B ⟨.cell (S8 Z.z.T 6),wr,true⟩:=.bM a6 a6 (bR)
def qT:iv Z B ⟨.mark .disable,false,true⟩:=.mark S6 Tf
def qV:iv Z B ⟨.mark .enable,false,true⟩:=.mark S6 Tf
def Ct(u:S7):Calm u (u.sys (.clock 1)).2:=by rw[sys_clock1];exact⟨bg,S6,S6,_,S6⟩
def Cu(u:S7):(u.sys (.clock 1)).2.heap=u.heap:=by rw[sys_clock1];rfl
def LR{p:kg}(f:Base Z G u t)(B:G.s k=⟨.lock p,false⟩)(c:h0)(h:c.Ok X Z G k 2 u)(z:Acc (dZ X.Q) c.V)(C:cB (mA Z.z.T) Z G (Z.wk k) p c.ja x g u n j):
 cZ X Z G k g u t (2,⟨c.V,z⟩,(c.nr*500+450)*10000000000+(c.bZ*500+450)*100000+(n*500+j)):=by
 rcases C.quiet (vj _)with⟨a,E,D⟩|⟨y,bw,Y,S,I⟩
 case inr=>exact zN f B c h z (g7.refl _) (I false u) (Calm.refl u) S6 S.on S.le U
 have o:=f.b9.side k;rw[B]at o;have J:=Word.refl Z u;have F:=f.ww.T;have H:=f.ww.W;have fv:=f.fv;have L:∀{v M:Int} {to:kg},G.mu=v->Edge.fix true false (pC (132,28) v) (sm Z.z.T 4 (132,28) 149 v M) to∈(mA Z.z.T).cz p->cO (pY to) (G.s (!k)).role M G.ms G.aY G.bc->(⟨.lock to,false⟩:ck).deaf=(⟨.lock p,false⟩:ck).deaf->cZ X Z G k g u t (2,⟨c.V,z⟩,(c.nr*500+450)*10000000000+(c.bZ*500+450)*100000+(n*500+j)):=by intro v M to i he w K;exact mC f B c h z C E D he (.mark (.shape f.ww.rr (.frozen (f.ww.nV 5) (.load (f.ww.ml i) (.store (f.ww.ml i) (f.ww.nV 5) (.nil _)))))) (Word.set 5 _ (.inl S6)) (Word.T (aB:={G with mu:=M}) f (x0 ..)) (Word.W f 5 _) w (lo pj (iS pj)) K (.inl S6)
 have Q:∀{v:Int} {an:Tb dO} {to:kg},G.mu=v->Edge.fix true false an (zu Z.z.T 4 (132,28) 149 v) to∈(mA Z.z.T).cz p->cO (pY to) (G.s (!k)).role G.mu G.ms G.aY G.bc->(⟨.lock to,false⟩:ck).deaf=(⟨.lock p,false⟩:ck).deaf->cZ X Z G k g u t (2,⟨c.V,z⟩,(c.nr*500+450)*10000000000+(c.bZ*500+450)*100000+(n*500+j)):=by intro v an to i he w K;exact mC f B c h z C E D he (.mark (.shape f.ww.rr (.frozen (f.ww.nV 5) (.load (f.ww.ml i) (.nil _))))) J F H w (iS pj) K (.inl S6)
 have ld:∀{v:Int} {an:Tb dO} {to:kg},G.mu=v->Edge.fix true false an [.load .plain (jE Z.z.T 4) (.int .i32 v)] to∈(mA Z.z.T).cz p->cO (pY to) (G.s (!k)).role G.mu G.ms G.aY G.bc->(⟨.lock to,false⟩:ck).deaf=(⟨.lock p,false⟩:ck).deaf->cZ X Z G k g u t (2,⟨c.V,z⟩,(c.nr*500+450)*10000000000+(c.bZ*500+450)*100000+(n*500+j)):=by intro v an to i he w K;exact mC f B c h z C E D he (.load (f.ww.ml i) (.nil _)) J F H w nB K (.inl S6)
 cases p with
 |jr=>exact mC f B c h z C E D (to:=.jX) bI (.mark (.mark (.nil _))) J F H o (iS qT) S6 (.inl S6)
 |jX=>
  rcases cO.jX o with⟨i,w⟩|⟨i,w⟩
  .exact L i (.head _) w S6
  .exact Q i (.tail _ (.head _)) (by rw[i];exact w) S6
 |h6=>exact mC f B c h z C E D (to:=.gH) bI (.mark (.mark (.nil _))) J F H o (iS qV) S6 (.inl S6)
 |gH=>exact mC f B c h z C E D (to:=.aq) bI (.shape f.ww.rr (.shape f.ww.rr (.nil _))) J F H o nB S6 (.inl S6)
 |aq=>exact mC f B c h z C E D (to:=.fin) bI (.mark (.mark (.nil _))) J F H o (iS (.mark S6 fv.1)) S6 (.inl S6)
 |fin=>
  let⟨W,I⟩:=D.leave bI;have r:=kN f k ⟨.dG 2,false⟩ u.heap.size u.drawn;have V:stepG aK false g u=.go (Tk (c.j7.1.finish unit) (c.j7.2++c.lj)) u:=by obtain⟨st,off,rfl⟩:=C.shape;have:=I false st off c.j7.1 (c.j7.2++c.lj) u (uu h.run);rw[W];exact this
  exact cZ.still (aX:=⟨.dG 2,false⟩) (n:=u.drawn) f B Br ⟨S6,S6,S6,S6,(bR),⟨bR,bR⟩⟩ V S6
   (.dG (l:=2) c.toRCtx S6 (λ_ _=>S6) (h.r.rely (dP:=G.gk u Z k ⟨.dG 2,false⟩) S6 r h.r.l.heap.floor h.k2) z ⟨h.on,bg,S6,S6,S6,lY _,l6 _ _ _⟩) (eQ.last (by have:=tN ((c.nr*500+450)*10000000000) (c.bZ*500+400) (c.bZ*500+450) U;exact gu this (Nat.le_add_right _ _)))
 |ld=>
  rcases cO.look o with i|⟨i,w⟩
  .exact ld i (.head _) o S6
  .exact ld i (.tail _ (.head _)) (by rw[i];exact w) S6
 |sp it=>
  have T:(Question.extern "runtime_canSpin" 2).cut (u.tape u.drawn (.extern "runtime_canSpin" 2))<2:=by simp only[Question.cut];rw[Tm a6];exact Nat.mod_lt _ a6
  have wd:Word Z u (u.at (u.drawn+1)):=⟨S6,λ_ _ _=>S6,Calm.at u _⟩
  rcases i:(Question.extern "runtime_canSpin" 2).cut (u.tape u.drawn (.extern "runtime_canSpin" 2))with _|_|m
  .exact mC f B c h z C E D (aC:=u.at (u.drawn+1)) (to:=.rj) (.head _) (.mark (.choose i (.nil _))) wd F H o nB S6 (.inl S6)
  .exact mC f B c h z C E D (aC:=u.at (u.drawn+1)) (to:=.rs it) (.tail _ (.head _)) (.mark (.choose i (.nil _))) wd F H o nB S6 (.inl S6)
  .rw[i]at T;omega
 |rs it=>
  rcases cO.look o with i|⟨i,w⟩
  .by_cases R:it<3
   .exact ld (to:=.sp (it+1)) i (by show _∈[_,_];rw[Tq R];exact .head _) o S6
   .exact ld (to:=.rj) i (by show _∈[_,_];rw[Tm R];exact .head _) o S6
  .exact ld i (.tail _ (.head _)) (by rw[i];exact w) S6
 |rj=>
  rcases cO.queue o with⟨i,w⟩|⟨i,w⟩
  .exact L i (.head _) w S6
  .exact Q i (.tail _ (.head _)) (by rw[i];exact w) S6
 |ln=>
  have:=(cO.b6 o).1;exact ld this (.head _) o S6
 |bx=>
  let⟨i,w⟩:=cO.b6 o;exact L i (.head _) w S6
 |t1=>
  let⟨y,P,_,I⟩:=D.clock (vj _) bI ((u.os.mono+u.tick:Nat):Int);obtain⟨st,off,rfl⟩:=C.shape;exact zN (q:=.qf _) (c9:=a) (bw:=400) f B c h z (Fu S6 S6) (I false c.ja st off u S6) (Ct u) (Cu u) P bg U
 |qf b=>
  rcases cO.sema o with⟨hm,_⟩|⟨hm,w⟩
  .have I:=D.wait (vj _) (.head _)
   obtain⟨st,off,rfl⟩:=C.shape;exact .wait (I false _ st off u _ (.mark (.mark (.load (f.ww.tS hm) (.nil _))))) ⟨b,by rw[B]⟩ hm
  .exact mC f B c h z C E D (to:=.t2 b) (.tail _ (.head _)) (.mark (.mark (.load (f.ww.tS hm) (.store (f.ww.tS hm) (f.ww.nV 6) (.mark (.nil _)))))) (Word.set 6 _ (.inl S6)) (Word.T (aB:={G with ms:=0}) f (Gq ..)) (Word.W f 6 _) w (lo qT (lo x5 (lo x5 (iS qV)))) S6 (.inr S6)
 |t2 b=>
  let⟨y,P,_,I⟩:=D.clock (vj _) bI ((u.os.mono+u.tick:Nat):Int);obtain⟨st,off,rfl⟩:=C.shape;exact zN (q:=.oH b _) (c9:=a) (bw:=2) f B c h z (Fu S6 S6) (I false c.ja st off u S6) (Ct u) (Cu u) P a6 U
 |oH b d=>
  rcases i:decide (1000000<IntKind.i64.wrap (d-b))with _|_
  .exact mC f B c h z C E D (to:=.rw) (.tail _ (.head _)) (.pN i (.nil _)) J F H o nB S6 (.inl S6)
  .exact mC f B c h z C E D (to:=.rw) (.head _) (.pN i (.nil _)) J F H o nB S6 (.inl S6)
 |rw=>
  have:=(cO.w2 o).1;exact ld this (.head _) o S6
 |c2=>
  let⟨i,w⟩:=cO.w2 o;exact L i (.head _) w S6
noncomputable abbrev qn(T:Nat):de m7:=x8 T 4 (132,28) .normal
def He(T:Nat):dn (qn T).P (qn T).ext:=by unfold qn x8;exact j8
def KW(T:Nat)(p:m7):(qn T).dh p<=400:=bg
def Bt{p:m7}:(⟨.iu p,bb⟩:ck).c≠.un:=by intro h;cases h
def GM(p:m7):(Be p).gC=false:=by cases p<;>rfl
def oj{p to:m7}(f:Base Z G u t)(m:G.s k=⟨.iu p,bb⟩)(c:h0)(h:c.Ok X Z G k 8 u)(l:Acc (dZ X.Q) c.V)(F:cB (qn Z.z.T) Z G (Z.wk k) p c.ja x g u n j){a:Nat}(D:n=a+1)(w:At (qn Z.z.T) a p x){wk:Ta}(he:Edge.fix true wk an d to∈(qn Z.z.T).cz p)(hd:Does u d aC es)(wd:Word Z u aC)(i:aC.heap[Z.z.T]?=some (.cells (eN Z.z mu ms G.aY G.bc) 132 (0,0)))(hW:aC.heap[Z.W]?=some (.cells #[.int .u64 G.v,.int .u32 G.m] 208 (0,0)))(I:cO (Be to) (G.s (!k)).role mu ms G.aY G.bc)(B:∀e∈hZ true (cI d),iv Z u.heap.size e)(z:(⟨.iu to,bb⟩:ck).deaf=deafBehind (⟨.iu p,bb⟩:ck).deaf (hZ true (cI d)).toArray)(C:ms=G.ms\/wk=true):
 cZ X Z G k g u t (2,⟨c.V,l⟩,(c.nr*500+450)*10000000000+(c.bZ*500+450)*100000+(n*500+j)):=by
 subst D;have r:=pa f wd i (aB:=G.wk k ⟨.iu to,bb⟩ mu ms G.aY G.bc G.v G.m) S6 S6 (Z.wk k);let⟨y,bw,o,H,E⟩:=F.mr (aB:=G.wk k ⟨.iu to,bb⟩ mu ms G.aY G.bc G.v G.m) (He _) (KW _) w he hd ⟨lY _,l6 _ _ _⟩;have q:=f.b9.tn k;rw[m]at q;exact cZ.sync (aX:=⟨.iu to,bb⟩) f m Bt (E false) S6 wd i hW I q bR S6 ⟨bR,bR⟩ ((GM to).trans (GM p).symm) S6 B z (λe=>.inl S6) (λe=>.inl S6) (bR)
  (.iu c (h.rely (dP:=G.wk k ⟨.iu to,bb⟩ mu ms G.aY G.bc G.v G.m) S6 r h.r.l.heap.floor h.k2) l o) (eQ.last (qM _ _ _ (by have:=o.le;omega))) (C.imp id λe=>.inr (H e)) (.inl S6)
def Rx{p:m7}(d:Base Z G u t)(i:G.s k=⟨.iu p,bb⟩)(c:h0)(h:c.Ok X Z G k 8 u)(f:Acc (dZ X.Q) c.V)(m:cB (qn Z.z.T) Z G (Z.wk k) p c.ja x g u n j):
 cZ X Z G k g u t (2,⟨c.V,f⟩,(c.nr*500+450)*10000000000+(c.bZ*500+450)*100000+(n*500+j)):=by
 rcases m.quiet (He _)with⟨a,w,q⟩|⟨y,bw,J,F,E⟩
 case inr=>
  have r:=kN d k ⟨.iu p,bb⟩ u.heap.size u.drawn;exact cZ.still (aX:=⟨.iu p,bb⟩) (n:=u.drawn) d i Bt (g7.refl _) (E false u) S6
   (.iu c (h.rely (dP:=G.gk u Z k ⟨.iu p,bb⟩) S6 r h.r.l.heap.floor h.k2) f ⟨F.on,F.le,S6,S6,S6,lY _,l6 _ _ _⟩) (eQ.last (qM _ _ _ U))
 have o:=d.b9.side k;rw[i]at o;have D:=Word.refl Z u;have B:=d.ww.T;have C:=d.ww.W;have fv:=d.fv;cases p with
 |ld=>
  rcases cO.held o with aJ|aJ
  .exact oj d i c h f m w q (to:=.gH) (.head _) (.load (d.ww.ml aJ) (.nil _)) D B C o nB S6 (.inl S6)
  .exact oj d i c h f m w q (to:=.gH) (.tail _ (.head _)) (.load (d.ww.ml aJ) (.nil _)) D B C o nB S6 (.inl S6)
 |gH=>exact oj d i c h f m w q (to:=.cx) bI (.shape d.ww.rr (.shape d.ww.rr (.nil _))) D B C o nB S6 (.inl S6)
 |cx=>exact oj d i c h f m w q (to:=.jr) bI (.mark (.mark (.nil _))) D B C o (iS (.mark S6 fv.1)) S6 (.inl S6)
 |jr=>exact oj d i c h f m w q (to:=.add) bI (.mark (.mark (.nil _))) D B C o (iS qT) S6 (.inl S6)
 |add=>
  rcases cO.add o with⟨aJ,z⟩|⟨aJ,z⟩
  .exact oj d i c h f m w q (to:=.h6) (.head _) (.mark (.load (d.ww.ml aJ) (.store (d.ww.ml aJ) (d.ww.nV 5) (.nil _)))) (Word.set 5 _ (.inl S6)) (Word.T (aB:={G with mu:=0}) d (x0 ..)) (Word.W d 5 _) z (lo pj (iS pj)) S6 (.inl S6)
  .exact oj d i c h f m w q (to:=.jX) (.tail _ (.head _)) (.mark (.load (d.ww.ml aJ) (.store (d.ww.ml aJ) (d.ww.nV 5) (.nil _)))) (Word.set 5 _ (.inl S6)) (Word.T (aB:={G with mu:=8}) d (x0 ..)) (Word.W d 5 _) z (lo pj (iS pj)) S6 (.inl S6)
 |jX=>
  let⟨aJ,z⟩:=cO.Im o;exact oj d i c h f m w q (to:=.db) bI (.mark (.shape d.ww.rr (.frozen (d.ww.nV 5) (.load (d.ww.ml aJ) (.store (d.ww.ml aJ) (d.ww.nV 5) (.nil _)))))) (Word.set 5 _ (.inl S6)) (Word.T (aB:={G with mu:=2}) d (x0 ..)) (Word.W d 5 _) z (lo pj (iS pj)) S6 (.inl S6)
 |db=>
  let⟨hm,z⟩:=cO.post o;exact oj d i c h f m w q (to:=.h6) bI (.mark (.mark (.load (d.ww.tS hm) (.store (d.ww.tS hm) (d.ww.nV 6) (.mark (.nil _)))))) (Word.set 6 _ (.inl S6)) (Word.T (aB:={G with ms:=1}) d (Gq ..)) (Word.W d 6 _) z (lo qT (lo x5 (lo x5 (iS qV)))) S6 (.inr S6)
 |h6=>exact oj d i c h f m w q (to:=.fin) bI (.mark (.mark (.nil _))) D B C o (iS qV) S6 (.inl S6)
 |fin=>
  let⟨I,E⟩:=q.leave bI;have r:=kN d k ⟨.dG 8,true⟩ u.heap.size u.drawn;have H:stepG aK false g u=.go (Tk (c.j7.1.finish unit) (c.j7.2++c.lj)) u:=by obtain⟨st,off,rfl⟩:=m.shape;have:=E false st off c.j7.1 (c.j7.2++c.lj) u (uu h.run);rw[I];exact this
  exact cZ.still (aX:=⟨.dG 8,true⟩) (n:=u.drawn) d i Bt ⟨S6,S6,S6,S6,(λe=>S6),⟨bR,bR⟩⟩ H S6
   (.dG (l:=8) c.toRCtx S6 (λ_ h=>Td h a6) (h.r.rely (dP:=G.gk u Z k ⟨.dG 8,true⟩) S6 r h.r.l.heap.floor h.k2) f ⟨h.on,bg,S6,S6,S6,lY _,l6 _ _ _⟩) (eQ.last (by have:=tN ((c.nr*500+450)*10000000000) (c.bZ*500+400) (c.bZ*500+450) U;exact gu this (Nat.le_add_right _ _)))
end
end Go.aO
