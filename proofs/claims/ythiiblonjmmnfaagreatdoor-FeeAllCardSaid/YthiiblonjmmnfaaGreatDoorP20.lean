/- Part 21 of a law on fees: no conditions. -/
import Derived.Test.YthiiblonjmmnfaaGreatDoorP19
import Derived.BigRegion
import Derived.Defers
import Derived.Laws.LoneSync
import Derived.RegionTactic
import Derived.RegionCalls
import Derived.Deep.RegionWith
set_option maxHeartbeats 8000000
set_option maxRecDepth 100000
set_option linter.all false
namespace Go.aN
attribute [-simp] Go.Sem.runT_eq
open Go.Proofs
def BC(fn:Func):Func:={hQ fn with endLine:=1000000008}
def Cc{Spec:FuncId->Func->Func->Prop}{P:Program}{f:FuncId}{fn:Func}(c:fn.body=none):jg Spec P f (BC fn):=sH c rfl rfl
def sz:Array Oper:=#[⟨some 0,.assign (.const (.bool true)),4,"",#[],none⟩]
def vl:Code:=.seq (.region 0 sz false) .ret
noncomputable def u3:Func:={Tryz.f14 with body:=some vl,nfree:=0,endLine:=1000000007}
noncomputable def yn:List (Nat×Func):=(1,BC Tryz.f1)::(14,u3)::vc
def Cr:List Nat:=65::ye
noncomputable def bS.list:List Func:=mix yn Cr 0 aF.funcs.toList
noncomputable def bS:Program:=⟨Tryz.progTables,(bS.list).toArray⟩
def bS.K:fV bS aF:=⟨λ_ _ _=>False,λf=>f=54\/f=121\/f=122\/f=14⟩
def bS.H:ey (eE bS.K) bS aF:=
 xC (sp:=yn) (rs:=Cr) rfl (by kernel_rfl) ⟨⟨rfl,Cc rfl⟩,⟨rfl,ou (.inr (.inr (.inr rfl))) Tryz.func14 rfl rfl rfl rfl⟩,⟨rfl,ou (.inl rfl) Tryz.func54 rfl rfl rfl rfl⟩,⟨rfl,uW Tryz.func88⟩,⟨rfl,ou (.inr (.inl rfl)) Tryz.func121 rfl rfl rfl rfl⟩,⟨rfl,ou (.inr (.inr (.inl rfl))) Tryz.func122 rfl rfl rfl rfl⟩,⟨rfl,uX Tryz.func123⟩,trivial⟩ (by kernel_rfl)
def bS.eo:ey (eE (h5 bS)) bS bS:=
 yh (sp:=yn) ⟨⟨rfl,Cc rfl⟩,⟨rfl,my (by kernel_rfl) (by kernel_rfl)⟩,⟨rfl,my (by kernel_rfl) (by kernel_rfl)⟩,⟨rfl,uW (by kernel_rfl)⟩,⟨rfl,my (by kernel_rfl) (by kernel_rfl)⟩,⟨rfl,my (by kernel_rfl) (by kernel_rfl)⟩,⟨rfl,uX (by kernel_rfl)⟩,trivial⟩ ⟨by kernel_rfl,by kernel_rfl,by kernel_rfl,by kernel_rfl,by kernel_rfl,by kernel_rfl,by kernel_rfl,trivial⟩ (by kernel_rfl)
def bS.S:bK bS aF:=⟨rfl⟩
def bS.nj:hR bS=none:=by kernel_rfl
def bS.dy:dX bS 54=some 2/\dX bS 121=some 1/\dX bS 122=some 1/\dX bS 14=some 0:=⟨by kernel_rfl,by kernel_rfl,by kernel_rfl,by kernel_rfl⟩
instance bS.Dd:Std bS.list.toArray:=xD (by kernel_rfl)
instance bS.Pd:gQ bS.list.toArray:=⟨by kernel_rfl,by kernel_rfl,by kernel_rfl⟩
end Go.aN
namespace Go.aN
open Go.Proofs Go.RowKit
section
variable{A:Array Func}
class gg(A:Array Func):Prop where
 f51:A[37]?=some Tryz.f37
 f75:A[54]?=some q0
 f116:A[88]?=some Tryz.f88
 f143:A[123]?=some Tryz.f123
 f141:A[121]?=some pG
 f142:A[122]?=some pH
def tz[S:Std A](b o n c:Nat)(E:n<=8)(w:World)(num most bh:Nat->Int)(h:∀i,i<n->w.cell? ⟨b,o+i*3,none⟩=some (.int .i64 (num i)))(j:∀i,i<n->w.cell? ⟨b,o+i*3+1,none⟩=some (.int .i64 (most i)))(l:∀i,i<n->w.cell? ⟨b,o+i*3+2,none⟩=some (.int .i64 (bh i)))(z:∀i,i<n->0<=num i/\num i<=most i):
 Calls (ag A) 35 #[.slice (some ⟨b,o,none⟩) n c] w λe w'=>e=.returned .nilIface/\w.grownBy w' none:=by
 have eo:=Pj h;have q:=Pj j;have r:=Pj l;clear h j l;go_enter (S.f Tryz.func35),Tryz.ntmps35;go_wp2;go_loopw [7] (λi wr=>∃k:Nat,k<=n/\i=.int .i64 k/\w.grownBy wr none) (λi _=>n-(intOf i).toNat)
 case atStart=>exact⟨0,by omega,by go_num,Pw _ _⟩
 case round=>
  obtain⟨k,D,rfl,d⟩:=hrel;by_cases f:k<n
  .have bu:=d.cell (eo.out k f) (by simp)
   have B:=d.cell (q.out k f) (by simp);have C:=d.cell (r.out k f) (by simp);have p:=z k f;have u:decide (0<=num k/\num k<=most k)=true:=by simp[p.1,p.2]
   have g:=Pj d;clear d;go_wp2_with (go_at_call 53;refine(mH _ _ _ _).mono ?_;rintro e w' ⟨rfl,rfl⟩;rw[u])
   go_roundw
   case rel=>exact⟨k+1,by omega,by go_num,g.out.trans Pn⟩
   case measure=>simp[intOf];omega
  .have g:=Pj d
   clear d;go_wp2;go_ret;exact⟨rfl,g.out⟩
def Eu[P:gg A](x:Value)(w:World):Calls (ag A) 54 #[.nilIface,x] w λe w'=>e=.returned (.bool false)/\w=w':=by
 go_enter (show(ag A).funcs[54]?=some q0 from P.f75),(show q0.ntmps=42 from rfl)
 unfold vk kA py qQ;go_wp2;go_ret;exact⟨rfl,rfl⟩
def tV[S:Std A][P:gg A](w:World):Calls (ag A) 36 #[.nilIface] w λe w'=>e=.returned (.int .i64 0)/\w.grownBy w' none:=by
 go_enter (S.f Tryz.func36),Tryz.ntmps36;go_wp2_with (go_at_call 54;refine(Eu _ _).mono ?_;rintro e w' ⟨rfl,rfl⟩)
 go_ret;exact⟨rfl,Pn⟩
end
section
variable{A:Array Func}
def lp(d:cR)(k:Nat):Nat->Nat->Int
 | 0,_=>0
 |i+1,day=>if d.dz i<=day then d.fD i k else lp d k i day
def rf(d:cR)(k:Nat):Nat->Nat->Int
 | 0,day=>lp d k d.eY day
 |j+1,day=>if d.free j=day then 0 else rf d k j day
def cC(d:cR)(k:Nat)(day:Nat):Int:=rf d k d.fC day
def hT(f:Nat->Int):Array Value:=#[.int .i64 (f 0),.int .i64 (f 1),.int .i64 (f 2),.int .i64 (f 3),.int .i64 (f 4)]
def Cp{w:World}{B:Nat}{f g:Nat->Int}{j:Nat}{v:Int}(h:w.heap[B]?=some (.cells (hT f) 102))(l:j<5)(d:g j=v)(c:∀i,i<5->i≠j->g i=f i):(w.setCell ⟨B,j,none⟩ (.int .i64 v)).heap[B]?=some (.cells (hT g) 102):=by
 rw[cQ h];congr 2;rcases j with _|_|_|_|_|j
 .simp[hT,d,c]
 .simp[hT,d,c]
 .simp[hT,d,c]
 .simp[hT,d,c]
 .simp[hT,d,c]
 .omega
def ll{w:World}{B:Nat}{f:Nat->Int}{j:Nat}(h:w.heap[B]?=some (.cells (hT f) 102))(c:j<5):w.cell? ⟨B,j,none⟩=some (.int .i64 (f j)):=by
 rw[aT h];rcases j with _|_|_|_|_|j
 .rfl
 .rfl
 .rfl
 .rfl
 .rfl
 .omega
def pq(d:cR)(k i cur:Nat)(day:Nat):Int:=if d.dz i<=day/\day<cur then d.fD i k else lp d k i day
def I5{d:cR}{k i:Nat}(day:Nat)(h:day<5):pq d k i 5 day=lp d k (i+1) day:=by
 unfold pq;rw[lp];by_cases c:d.dz i<=day
 .rw[if_pos ⟨c,h⟩,if_pos c]
 .rw[if_neg (λx=>c x.1),if_neg c]
def yc{f g:Nat->Int}(h:∀i,i<5->f i=g i):hT f=hT g:=by simp[hT,h]
def mc{w:World}{b:Nat}{c:Array Value}{e:TypeId}{f:Nat×Nat}(h:w.heap[b]?=some (.cells c e f)){o:Nat}(d:o<c.size):∃v,w.cell? ⟨b,o,none⟩=some v:=⟨c[o],by rw[aT h];exact Pu d⟩
def kC{w wr:World}{row:Option Nat}{a:Addr}{v:Value}(h:w.grownBy wr row)(f:w.heap.size<=a.block):w.grownBy (wr.setCell a v) row where
 os:=h.os
 tape:=h.tape
 output:=h.output
 size:=Po h.size (Nat.le_of_eq (by simp))
 block k c d:=(ft (by omega)).trans (h.block k c d)
def lO{w wr:World}(row:Option Nat)(h:w.grownBy wr none):w.grownBy wr row:=⟨h.os,h.tape,h.output,h.size,λk c _=>h.block k c (by simp)⟩
def et{w wr:World}{T o:Nat}{v:Value}(h:w.grownBy wr (some T)):w.grownBy (wr.setCell ⟨T,o,none⟩ v) (some T) where
 os:=h.os
 tape:=h.tape
 output:=h.output
 size:=Po h.size (Nat.le_of_eq (by simp))
 block k d c:=(ft (by intro e;exact c (by rw[e]))).trans (h.block k d c)
def size_set(w:World)(a:Addr)(v:Value):(w.setCell a v).heap.size=w.heap.size:=by simp
def m3(X:World):X.drew.heap=X.heap:=rfl
def fQ{a b:World}{row:Option Nat}(h:a.grownBy b row):a.grownBy b.drew row:=⟨h.os,h.tape,h.output,h.size,h.block⟩
def B2{w wr:World}{T k:Nat}{c:Array Value}(t:Nat->Int)(h:wr.heap[T]?=some (.cells c 105))(g:w.grownBy wr none):
 (((((wr.setCell ⟨T,13+k*5,none⟩ (.int .i64 (t 0))).setCell ⟨T,13+k*5+1,none⟩ (.int .i64 (t 1))).setCell ⟨T,13+k*5+2,none⟩ (.int .i64 (t 2))).setCell ⟨T,13+k*5+3,none⟩ (.int .i64 (t 3))).setCell ⟨T,13+k*5+4,none⟩ (.int .i64 (t 4))).drew.heap[T]?=some (.cells (((((c.setIfInBounds (13+k*5) (.int .i64 (t 0))).setIfInBounds (13+k*5+1) (.int .i64 (t 1))).setIfInBounds (13+k*5+2) (.int .i64 (t 2))).setIfInBounds (13+k*5+3) (.int .i64 (t 3))).setIfInBounds (13+k*5+4) (.int .i64 (t 4))) 105)/\
 w.grownBy (((((wr.setCell ⟨T,13+k*5,none⟩ (.int .i64 (t 0))).setCell ⟨T,13+k*5+1,none⟩ (.int .i64 (t 1))).setCell ⟨T,13+k*5+2,none⟩ (.int .i64 (t 2))).setCell ⟨T,13+k*5+3,none⟩ (.int .i64 (t 3))).setCell ⟨T,13+k*5+4,none⟩ (.int .i64 (t 4))).drew (some T):=by
 have d:=cQ (o:=13+k*5) (v:=.int .i64 (t 0)) h;have kQ:=cQ (o:=13+k*5+1) (v:=.int .i64 (t 1)) d;have f:=cQ (o:=13+k*5+2) (v:=.int .i64 (t 2)) kQ;have i:=cQ (o:=13+k*5+3) (v:=.int .i64 (t 3)) f;have j:=cQ (o:=13+k*5+4) (v:=.int .i64 (t 4)) i;have F:=et (T:=T) (o:=13+k*5+4) (v:=.int .i64 (t 4)) (et (T:=T) (o:=13+k*5+3) (v:=.int .i64 (t 3)) (et (T:=T) (o:=13+k*5+2) (v:=.int .i64 (t 2)) (et (T:=T) (o:=13+k*5+1) (v:=.int .i64 (t 1)) (et (T:=T) (o:=13+k*5) (v:=.int .i64 (t 0)) (lO (some T) g)))));exact⟨by rw[m3];exact j,fQ F⟩
def Fw[S:Std A](d:cR)(ok:d.ok)(p:dU)(k:Nat)(aB:k<d.kinds)(T bz bA:Nat)(w:World)(h:fy w d p)(f:w.cell? ⟨bz,0,none⟩=some (.pointer (some ⟨T,0,none⟩)))(ay:w.cell? ⟨bA,0,none⟩=some (.int .i64 k))(aQ:bz<w.heap.size)(aP:bA<w.heap.size)(c:Array Value)(aj:c.size=28)(F:w.heap[T]?=some (.cells c 105))(J:c[2]?=some (.slice (some ⟨p.j9,p.lg,none⟩) d.eY p.h8))(ah:c[3]?=some (.slice p.hE d.fC p.h9)):
 Calls (ag A) 57 #[.pointer (some ⟨bz,0,none⟩),.pointer (some ⟨bA,0,none⟩)] w λe w'=>e=.returned (.tuple #[])/\w'.heap[T]?=some (.cells (((((c.setIfInBounds (13+k*5) (.int .i64 (cC d k 0))).setIfInBounds (13+k*5+1) (.int .i64 (cC d k 1))).setIfInBounds (13+k*5+2) (.int .i64 (cC d k 2))).setIfInBounds (13+k*5+3) (.int .i64 (cC d k 3))).setIfInBounds (13+k*5+4) (.int .i64 (cC d k 4))) 105)/\w.grownBy w' (some T):=by
 have aR:=ok.kinds;have aS:=ok.eY;have aU:=ok.fC;have ad:=Pj ok;clear ok;have ai:=bp F;have af:=Pv w (.cells #[.int .i64 0,.int .i64 0,.int .i64 0,.int .i64 0,.int .i64 0] 102) none;have ae:=gA w (.cells #[.int .i64 0,.int .i64 0,.int .i64 0,.int .i64 0,.int .i64 0] 102);have t2:w.cell? ⟨T,2,none⟩=some (.slice (some ⟨p.j9,p.lg,none⟩) d.eY p.h8):=by rw[aT F];exact J
 have t3:w.cell? ⟨T,3,none⟩=some (.slice p.hE d.fC p.h9):=by rw[aT F];exact ah
 have H:=Pj h;have aa:=Pj F;have Z:=Pj aj;have ao:=Pj ae;have aq:=Pj af;have ar:=Pj t3;have R:=Pj ay;have M:=Pj f;clear h F aj J ah ae af;go_enter (S.f Tryz.func57),Tryz.ntmps57;go_wp2;go_loopw [14] (λi wr=>∃j:Nat,j<=d.eY/\i=.int .i64 j/\w.grownBy wr none/\w.heap.size<wr.heap.size/\wr.heap[w.heap.size]?=some (.cells (hT (lp d k j)) 102)) (λi _=>d.eY-(intOf i).toNat)
 case atStart=>exact⟨0,by omega,by go_num,aq.out,by rw[Pp];omega,ao.out⟩
 case round=>
  obtain⟨j,aA,rfl,q,B,g⟩:=hrel;by_cases z:j<d.eY
  .have r1:=(H.out.keep q).dz j z
   have aY:=(H.out.keep q).rows j z;have X:=ad.out.dz j z;obtain⟨a,u⟩:∃a:Nat,d.dz j=a:=⟨(d.dz j).toNat,by omega⟩
   have V:a<5:=by omega
   rw[u]at r1;have l:=Pj q;have r:=Pj g;have E:=Pj u;clear q g u X;go_wp2;go_loopw [5] (λv w2=>∃x:Nat,a<=x/\x<=5/\v=.int .i64 x/\w.grownBy w2 none/\wr.heap.size<w2.heap.size/\w2.heap[w.heap.size]?=some (.cells (hT (pq d k j x)) 102)/\w2.cell? ⟨wr.heap.size,1,none⟩=some (.slice (some ⟨p.im j,p.sy j,none⟩) d.kinds (p.j' j))) (λv _=>5-(intOf v).toNat)
   case atStart=>
    refine⟨a,Pk,by omega,rfl,l.out.trans Pn,by rw[Pp];omega,?_,Pr rfl⟩;have e:hT (pq d k j a)=hT (lp d k j):=yc λi _=>by unfold pq;rw[if_neg];rw[E.out];omega
    rw[e];exact((Pv wr _ none).block _ B (by simp)).trans r.out
   case round=>
    obtain⟨x,aO,aV,rfl,D,aC,C,az⟩:=hrel;by_cases al:x<5
    .have aX:=(H.out.keep D).fD j z k aB
     have ax:=b1 (o:=x) C;have aF:=ll C al;have cb:=D.cell R.out (by simp);have P:=Pj D;have L:=Pj C;clear D C;go_wp2;go_roundw
     case rel=>
      refine⟨x+1,by omega,by omega,by go_num,kC P.out Pk,by rw[size_set];exact aC,Cp L.out al ?_ λi W aE=>?_,?_⟩
      .unfold pq
       rw[if_pos];rw[E.out];omega
      .unfold pq
       by_cases I:d.dz j<=i/\i<x
       .rw[if_pos I,if_pos ⟨I.1,by omega⟩]
       .rw[if_neg I,if_neg λJ=>I ⟨J.1,by omega⟩]
      .rw[World.cell?_setCell_other _ _ _ _ (by intro e;have:=congrArg Addr.block e;simp at this;omega)]
       exact az
     case measure=>simp[intOf];omega
    .obtain rfl:x=5:=by omega
     have P:=Pj D;have L:=Pj C;clear D C;go_wp2;go_roundw
     case rel=>
      refine⟨j+1,by omega,by go_num,P.out,by omega,?_⟩;rw[<-yc λi W=>I5 (d:=d) (k:=k) (i:=j) i W];exact L.out
     case measure=>simp[intOf];omega
  .obtain rfl:j=d.eY:=by omega
   have am:=q.cell ar.out (by simp);have dL:=q.cell M.out (by simp);have fr:=(H.out.keep q).free;have l:=Pj q;have r:=Pj g;clear q g;by_cases K:d.fC=0
   .rw[K]at am
    have kZ:hT (cC d k)=hT (lp d k d.eY):=yc λi _=>by unfold cC;rw[K];rfl
    go_wp2;go_loopw [38] (λi w2=>i=.int .i64 0/\w.grownBy w2 none/\w.heap.size<w2.heap.size/\w2.heap[w.heap.size]?=some (.cells (hT (cC d k)) 102)) (λ_ _=>0)
    case atStart=>exact⟨rfl,l.out,B,by rw[kZ];exact r.out⟩
    case round=>
     clear l r;obtain⟨rfl,q,B,g⟩:=hrel;have l:=Pj q;have dL:=l.out.cell M.out (by simp);have cb:=l.out.cell R.out (by simp);have f0:=ll g (j:=0) (by omega);have f1:=ll g (j:=1) (by omega);have f2:=ll g (j:=2) (by omega);have f3:=ll g (j:=3) (by omega);have f4:=ll g (j:=4) (by omega);have f:=(l.out.block T ai (by simp)).trans aa.out;have Q:=Pj f;have Y:=Z.out;obtain⟨v0,aG⟩:=mc (o:=13+k*5) f (by omega);obtain⟨v1,aH⟩:=mc (o:=13+k*5+1) f (by omega);obtain⟨v2,aI⟩:=mc (o:=13+k*5+2) f (by omega);obtain⟨v3,aJ⟩:=mc (o:=13+k*5+3) f (by omega);obtain⟨v4,aK⟩:=mc (o:=13+k*5+4) f (by omega);have z0:=b1 (o:=13+k*5) f;have aL:=b1 (o:=13+k*5+1) f;have aM:=b1 (o:=13+k*5+2) f;have z3:=b1 (o:=13+k*5+3) f;have z4:=b1 (o:=13+k*5+4) f;clear q g f Y;go_wp2;go_region
     go_end0;exact⟨rfl,B2 (cC d k) Q.out l.out⟩
   .obtain⟨b,o,e,aD⟩:=fr K
    rw[e]at am;obtain⟨aN,aW,G,ak⟩:=H.out.free K;rw[e]at G;injection G with G
    injection G with au av aw
    subst au;subst av;have ap:=Pj ak;clear aD ak fr e aw;go_wp2;go_loopw [38] (λi w2=>∃j:Nat,j<=d.fC/\i=.int .i64 j/\w.grownBy w2 none/\w.heap.size<w2.heap.size/\w2.heap[w.heap.size]?=some (.cells (hT (rf d k j)) 102)) (λi _=>d.fC-(intOf i).toNat)
    case atStart=>exact⟨0,by omega,by go_num,l.out,B,r.out⟩
    case round=>
     clear l r B;obtain⟨j,aA,rfl,q,B,g⟩:=hrel;by_cases z:j<d.fC
     .have X:=ad.out.free j z
      obtain⟨a,u⟩:∃a:Nat,d.free j=a:=⟨(d.free j).toNat,by omega⟩
      have V:a<5:=by omega
      have U:=ap.out j z;have U:=q.cell U (by simp);rw[u]at U;have ax:=b1 (o:=a) g;have aF:=ll g V;have l:=Pj q;have r:=Pj g;have E:=Pj u;clear q g u X;go_wp2;go_roundw
      case rel=>
       refine⟨j+1,by omega,by go_num,kC l.out Pk,by rw[size_set];exact B,Cp r.out V ?_ λi W aE=>?_⟩
       .rw[rf,if_pos E.out]
       .rw[rf,if_neg]
        rw[E.out];omega
      case measure=>simp[intOf];omega
     .obtain rfl:j=d.fC:=by omega
      replace g:wr.heap[w.heap.size]?=some (.cells (hT (cC d k)) 102):=g;have l:=Pj q;have dL:=l.out.cell M.out (by simp);have cb:=l.out.cell R.out (by simp);have f0:=ll g (j:=0) (by omega);have f1:=ll g (j:=1) (by omega);have f2:=ll g (j:=2) (by omega);have f3:=ll g (j:=3) (by omega);have f4:=ll g (j:=4) (by omega);have f:=(l.out.block T ai (by simp)).trans aa.out;have Q:=Pj f;have Y:=Z.out;obtain⟨v0,aG⟩:=mc (o:=13+k*5) f (by omega);obtain⟨v1,aH⟩:=mc (o:=13+k*5+1) f (by omega);obtain⟨v2,aI⟩:=mc (o:=13+k*5+2) f (by omega);obtain⟨v3,aJ⟩:=mc (o:=13+k*5+3) f (by omega);obtain⟨v4,aK⟩:=mc (o:=13+k*5+4) f (by omega);have z0:=b1 (o:=13+k*5) f;have aL:=b1 (o:=13+k*5+1) f;have aM:=b1 (o:=13+k*5+2) f;have z3:=b1 (o:=13+k*5+3) f;have z4:=b1 (o:=13+k*5+4) f;clear q g f Y;go_wp2;go_region
      go_end0;exact⟨rfl,B2 (cC d k) Q.out l.out⟩
end
section
variable{A:Array Func}
def ID[P:gg A](a:Addr)(w:World)(c:w.cell? a=some (.int .i32 0))(d:w.frozen? a=false):Calls (ag A) 121 #[.pointer (some a)] w λe w'=>e=.returned (.tuple #[])/\w'=w.setCell a (.int .i32 1):=by
 go_enter (show(ag A).funcs[121]?=some pG from P.f141),(show pG.ntmps=13 from rfl)
 unfold oB jF lh kn g8;go_wp2;refine bodyPost_ret (results_none rfl _ _ _) rfl ?_;exact⟨rfl,rfl⟩
def Od[P:gg A](a:Addr)(w:World)(c:w.cell? a=some (.int .i32 1))(d:w.frozen? a=false):Calls (ag A) 122 #[.pointer (some a)] w λe w'=>e=.returned (.tuple #[])/\w'=w.setCell a (.int .i32 0):=by
 go_enter (show(ag A).funcs[122]?=some pH from P.f142),(show pH.ntmps=21 from rfl)
 unfold oB jF lh kn g8;go_wp2;refine bodyPost_ret (results_none rfl _ _ _) rfl ?_;exact⟨rfl,rfl⟩
def Iy[S:Std A][P:gg A](a:Addr)(w:World)(c:w.cell? a=some (.int .i32 0))(d:w.frozen? a=false):Calls (ag A) 89 #[.pointer (some a)] w λe w'=>e=.returned (.tuple #[])/\w'=w.setCell a (.int .i32 1):=by
 go_enter (S.f Tryz.func89),Tryz.ntmps89;go_wp2_with (go_at_call 121;refine(ID a _ c d).mono ?_;rintro e w' ⟨rfl,rfl⟩)
 go_end0;exact⟨rfl,rfl⟩
def Oc[S:Std A][P:gg A](a:Addr)(u:FrameMode)(w:World)(c:w.cell? a=some (.int .i32 1))(d:w.frozen? a=false):
 CallsD (ag A) 90 #[.pointer (some a)] u w λe ay w'=>ay=u/\(e=.returned (.tuple #[])/\w'=w.setCell a (.int .i32 0)):=by
 go_enter_d (S.f Tryz.func90),Tryz.ntmps90
 go_wp2_with (go_at_call 122;refine(Od a _ c d).mono ?_;rintro e w' ⟨rfl,rfl⟩)
 go_end0;exact⟨rfl,rfl⟩
def ED[S:Std A](w:World):Calls (ag A) 124 #[.bool true] w λe w'=>e=.returned (.int .u32 1)/\w=w':=by go_enter (S.f Tryz.func124),Tryz.ntmps124;go_wp2;go_ret;exact⟨rfl,rfl⟩
def Nc[S:Std A][P:gg A](a:Addr)(x:Value)(u:FrameMode)(w:World)(f:w.cell? a=some x)(h:w.frozen? a=false):
 CallsD (ag A) 91 #[.pointer (some a),.bool true] u w λe ay w'=>ay=u/\(e=.returned (.tuple #[])/\w'=w.drew.setCell a (.int .u32 1)):=by
 have c:w.drew.cell? a=some x:=by go_simp
 have d:w.drew.frozen? a=false:=by go_simp
 have g:=run_call_store (P:=ag A) P.f143 (by kernel_rfl) (by kernel_rfl) (by kernel_rfl) (by kernel_rfl) (k:=.u32) (y:=1) c d;go_enter_d (S.f Tryz.func91),Tryz.ntmps91
 go_wp2;go_region_with (go_at_call 124;refine(ED _).mono ?_;rintro e w' ⟨rfl,rfl⟩)
 all_goals (go_end0;exact⟨rfl,rfl⟩)
def xw[S:Std A][P:gg A](a:Addr)(b:Bool)(w:World)(c:w.cell? a=some (.int .u32 (if b then 1 else 0))):Calls (ag A) 74 #[.pointer (some a)] w λe w'=>e=.returned (.bool b)/\w=w':=by
 cases b
 .have d:=run_call_load (P:=ag A) P.f116 (by kernel_rfl) (by kernel_rfl) (by kernel_rfl) .u32 (by kernel_rfl) (x:=0) c
  go_enter (S.f Tryz.func74),Tryz.ntmps74;go_wp2;go_ret;exact⟨rfl,rfl⟩
 .have d:=run_call_load (P:=ag A) P.f116 (by kernel_rfl) (by kernel_rfl) (by kernel_rfl) .u32 (by kernel_rfl) (x:=1) c
  go_enter (S.f Tryz.func74),Tryz.ntmps74;go_wp2;go_ret;exact⟨rfl,rfl⟩
def mB{c:Array Value}{i j:Nat}{v x:Value}(h:c[j]?=some x)(d:i≠j):(c.setIfInBounds i v)[j]?=some x:=by rw[PB d];exact h
def LJ[S:Std A][P:gg A](T o bz bA:Nat)(c d:Array Value)(w:World)(h:w.heap[T]?=some (.cells c 105))(u:c[o]?=some (.int .u32 0))(z:c[o+1]?=some (.int .i32 0))(L:d[o]?=some (.int .u32 0))(M:d[o+1]?=some (.int .i32 1))(C:∀W,W.heap[T]?=some (.cells (c.setIfInBounds (o+1) (.int .i32 1)) 105)->w.grownBy W (some T)->Calls (ag A) 57 #[.pointer (some ⟨bz,0,none⟩),.pointer (some ⟨bA,0,none⟩)] W λe w'=>e=.returned (.tuple #[])/\w'.heap[T]?=some (.cells d 105)/\W.grownBy w' (some T)):
 Calls (ag A) 75 #[.pointer (some ⟨T,o,none⟩),.func (.func 57) #[] #[.pointer (some ⟨bz,0,none⟩),.pointer (some ⟨bA,0,none⟩)]] w λe w'=>e=.returned (.tuple #[])/\w'.heap[T]?=some (.cells ((d.setIfInBounds o (.int .u32 1)).setIfInBounds (o+1) (.int .i32 0)) 105)/\w.grownBy w' (some T):=by
 have J:w.cell? ⟨T,o+1,none⟩=some (.int .i32 0):=by rw[aT h];exact z
 have K:=b1 (o:=o+1) h;have kQ:=cQ (o:=o+1) (v:=.int .i32 1) h;have i:w.grownBy (w.setCell ⟨T,o+1,none⟩ (.int .i32 1)) (some T):=et (Pw _ _);have d0:(w.setCell ⟨T,o+1,none⟩ (.int .i32 1)).cell? ⟨T,o,none⟩=some (.int .u32 0):=by rw[aT kQ];exact mB u (by omega)
 have E:=Pj (C _ kQ i);have F:=Pj i;clear C kQ i h u z;go_enter_defers (S.f Tryz.func75),Tryz.ntmps75
 go_wp2_with (first|(go_at_call 89;refine(Iy _ _ J K).mono ?_;rintro e w' ⟨rfl,rfl⟩)|(go_at_call 74;refine(xw _ false _ d0).mono ?_;rintro e w' ⟨rfl,rfl⟩)|(go_at_call 57;refine E.out.mono ?_;rintro e l ⟨rfl,B,D⟩;have j:=Pj B;have G:=Pj D;clear B D))
 go_wp2;have r:l.cell? ⟨T,o,none⟩=some (.int .u32 0):=by rw[aT j.out];exact L
 refine leaves_cons (f:=91) (args:=#[.pointer (some ⟨T,o,none⟩),.bool true]) (by simp) (by simp[go_sem]) ?_;refine(Nc ⟨T,o,none⟩ _ .returning _ r (b1 j.out)).mono ?_;rintro e ay Q ⟨rfl,rfl,rfl⟩;have g:(l.drew.setCell ⟨T,o,none⟩ (.int .u32 1)).heap[T]?=some (.cells (d.setIfInBounds o (.int .u32 1)) 105):=cQ (w:=l.drew) j.out;refine leaves_cons (f:=90) (args:=#[.pointer (some ⟨T,o+1,none⟩)]) (by simp[settle]) (by simp[go_sem]) ?_;refine(Oc ⟨T,o+1,none⟩ _ _ (by rw[aT g];exact mB M (by omega)) (b1 g)).mono ?_;rintro e ay R ⟨rfl,rfl,rfl⟩;have p:=cQ (o:=o+1) (v:=.int .i32 0) g;have q:=et (T:=T) (o:=o+1) (v:=.int .i32 0) (et (T:=T) (o:=o) (v:=.int .u32 1) (fQ (F.out.trans G.out)));have H:=Pj p;have I:=Pj q;clear p q g r;simp[Leaves,settle,results,Tryz.results75];exact⟨H.out,I.out⟩
def FP[S:Std A][P:gg A](T o bz bA:Nat)(c d:Array Value)(w:World)(g:w.heap[T]?=some (.cells c 105))(f:c[o]?=some (.int .u32 0))(h:c[o+1]?=some (.int .i32 0))(i:d[o]?=some (.int .u32 0))(j:d[o+1]?=some (.int .i32 1))(p:∀W,W.heap[T]?=some (.cells (c.setIfInBounds (o+1) (.int .i32 1)) 105)->w.grownBy W (some T)->Calls (ag A) 57 #[.pointer (some ⟨bz,0,none⟩),.pointer (some ⟨bA,0,none⟩)] W λe w'=>e=.returned (.tuple #[])/\w'.heap[T]?=some (.cells d 105)/\W.grownBy w' (some T)):
 Calls (ag A) 56 #[.pointer (some ⟨T,o,none⟩),.func (.func 57) #[] #[.pointer (some ⟨bz,0,none⟩),.pointer (some ⟨bA,0,none⟩)]] w λe w'=>e=.returned (.tuple #[])/\w'.heap[T]?=some (.cells ((d.setIfInBounds o (.int .u32 1)).setIfInBounds (o+1) (.int .i32 0)) 105)/\w.grownBy w' (some T):=by
 have d0:w.cell? ⟨T,o,none⟩=some (.int .u32 0):=by rw[aT g];exact f
 have u:=Pj (LJ T o bz bA c d w g f h i j p);clear p g f h i j;go_enter (S.f Tryz.func56),Tryz.ntmps56;go_wp2_with (first|(go_at_call 74;refine(xw _ false _ d0).mono ?_;rintro e w' ⟨rfl,rfl⟩)|(go_at_call 75;refine u.out.mono ?_;rintro e B ⟨rfl,l,q⟩;have z:=Pj l;have r:=Pj q;clear l q))
 go_end0;exact⟨rfl,z.out,r.out⟩
def FO[S:Std A][P:gg A](a:Addr)(c:Value)(w:World)(d:w.cell? a=some (.int .u32 1)):Calls (ag A) 56 #[.pointer (some a),c] w λe w'=>e=.returned (.tuple #[])/\w=w':=by
 go_enter (S.f Tryz.func56),Tryz.ntmps56;go_wp2_with (go_at_call 74;refine(xw _ true _ d).mono ?_;rintro e w' ⟨rfl,rfl⟩)
 go_end0;exact⟨rfl,rfl⟩
end
end Go.aN
