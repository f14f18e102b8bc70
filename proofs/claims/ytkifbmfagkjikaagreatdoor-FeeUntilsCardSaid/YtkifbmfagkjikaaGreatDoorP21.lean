/- A part; no conditions. -/
import Derived.Test.YtkifbmfagkjikaaGreatDoorP19
import Derived.Test.YtkifbmfagkjikaaGreatDoorP20
import Derived.BigRegion
import Derived.Defers
import Derived.Laws.LoneSync
import Derived.RegionTactic
import Derived.RegionCalls
import Derived.Deep.RegionWith
set_option maxHeartbeats 8000000
set_option maxRecDepth 100000
set_option linter.all false
namespace Go.aO
attribute [-simp] Go.Sem.runT_eq
open Go.Proofs
def Ed(fn:Func):Func:={gM fn with endLine:=1000000008}
def E8{Spec:FuncId->Func->Func->Prop}{P:Program}{f:FuncId}{fn:Func}(c:fn.body=none):kz Spec P f (Ed fn):=uO c rfl rfl
def Eu:Array Oper:=#[⟨some 0,.assign (.const (.bool true)),4,"",#[],none⟩]
def xX:Code:=.seq (.region 0 Eu false) .ret
noncomputable def xD:Func:={Tryz.f5 with body:=some xX,nfree:=0,endLine:=1000000007}
noncomputable def AL:List (Nat×Func):=(1,Ed Tryz.f1)::(5,xD)::(29,l7)::xM
def Fq:List Nat:=67::AA
noncomputable def bC.list:List Func:=mix AL Fq 0 aK.funcs.toList
noncomputable def bC:Program:=⟨Tryz.progTables,(bC.list).toArray⟩
def bC.K:g8 bC aK:=⟨λ_ _ _=>False,λf=>f=55\/f=120\/f=121\/f=5\/f=29⟩
def bC.H:fe (fj bC.K) bC aK:=
 zS (sp:=AL) (rs:=Fq) rfl av ⟨⟨rfl,E8 rfl⟩,⟨rfl,o' (.inr (.inr (.inr (.inl rfl)))) Tryz.func5 rfl rfl rfl rfl⟩,⟨rfl,o' (.inr (.inr (.inr (.inr rfl)))) Tryz.func29 rfl rfl rfl rfl⟩,⟨rfl,o' (.inl rfl) Tryz.func55 rfl rfl rfl rfl⟩,⟨rfl,xv Tryz.func95⟩,⟨rfl,o' (.inr (.inl rfl)) Tryz.func120 rfl rfl rfl rfl⟩,⟨rfl,o' (.inr (.inr (.inl rfl))) Tryz.func121 rfl rfl rfl rfl⟩,⟨rfl,xw Tryz.func122⟩,trivial⟩ av
def bC.ek:fe (fj (jv bC)) bC bC:=
 AE (sp:=AL) ⟨⟨rfl,E8 rfl⟩,⟨rfl,nt av av⟩,⟨rfl,nt av av⟩,⟨rfl,nt av av⟩,⟨rfl,xv av⟩,⟨rfl,nt av av⟩,⟨rfl,nt av av⟩,⟨rfl,xw av⟩,trivial⟩ ⟨av,av,av,av,av,av,av,av,trivial⟩ av
def bC.S:Same bC aK:=⟨rfl⟩
def bC.o5:je bC=none:=av
def bC.eb:eK bC 55=some 2/\eK bC 120=some 1/\eK bC 121=some 1/\eK bC 5=some 0/\eK bC 29=some 1:=⟨av,av,av,av,av⟩
instance bC.Gd:Std bC.list.toArray:=zT (by kernel_rfl)
instance bC.Qx:jx bC.list.toArray:=⟨by kernel_rfl,by kernel_rfl,by kernel_rfl⟩
end Go.aO
namespace Go.aO
open Go.Proofs Go.RowKit
variable{B T i j k o:Nat}{f g:Nat->Int}{row:Option Nat}{v:Value}{w wr:World}
section
variable{A:Array Func}
class hA(A:Array Func):Prop where
 f51:A[31]?=some Tryz.f31
 f75:A[55]?=some rq
 f116:A[95]?=some Tryz.f95
 f143:A[122]?=some Tryz.f122
 f141:A[120]?=some sX
 f142:A[121]?=some sY
 h6:∀w,Calls (ao A) 29 #[.nilIface] w λe w'=>e=.returned (.int .i64 0)/\w.grownBy w' none
def vG[S:Std A](b o n c:Nat)(C:n<=8)(w:World)(num most bq:Nat->Int)(h:∀i,i<n->w.cell? ⟨b,o+i*3,none⟩=some (.int .i64 (num i)))(j:∀i,i<n->w.cell? ⟨b,o+i*3+1,none⟩=some (.int .i64 (most i)))(l:∀i,i<n->w.cell? ⟨b,o+i*3+2,none⟩=some (.int .i64 (bq i)))(u:∀i,i<n->0<=num i/\num i<=most i):
 Calls (ao A) 30 #[.slice (some ⟨b,o,none⟩) n c] w λe w'=>e=.returned .nilIface/\w.grownBy w' none:=by
 have ek:=al h;have p:=al j;have q:=al l;clear h j l;go_enter (S.f Tryz.func30),Tryz.ntmps30;go_wp2;go_loopw [7] (λi wr=>∃k:Nat,k<=n/\i=.int .i64 k/\w.grownBy wr none) (λi _=>n-(intOf i).toNat)
 case atStart=>exact⟨0,U,by go_num,e6 _ _⟩
 case round=>
  obtain⟨k,B,rfl,d⟩:=hrel;by_cases f:k<n
  .have bx:=d.cell (ek.out k f) aF
   have y:=d.cell (p.out k f) aF;have z:=d.cell (q.out k f) aF;have m:=u k f;have r:decide (0<=num k/\num k<=most k)=true:=by simp[m.1,m.2]
   have g:=al d;clear d;go_wp2_with (go_at_call 57;refine(ku _ _ _ _).mono ?_;rintro e w' ⟨rfl,rfl⟩;rw[r])
   go_roundw
   case rel=>exact⟨k+1,U,by go_num,g.out.trans bT⟩
   case measure=>simp[intOf];omega
  .have g:=al d
   clear d;go_wp2;go_ret;exact⟨rfl,g.out⟩
def Jw[S:Std A](d:A[29]?=some Tryz.f29)(f:A[55]?=some rq)(w:World):Calls (ao A) 29 #[.nilIface] w λe w'=>e=.returned (.int .i64 0)/\w.grownBy w' none:=by
 have c:=al λ(x:Value) (w:World)=>show Calls (ao A) 55 #[.nilIface,x] w λe w'=>e=.returned (.bool false)/\w=w' from by
  go_enter (show(ao A).funcs[55]?=some rq from f),(show rq.ntmps=42 from rfl)
  unfold xW Cw Er Es;go_wp2;go_ret;exact⟨rfl,rfl⟩
 go_enter (show(ao A).funcs[29]?=some Tryz.f29 from d),Tryz.ntmps29;go_wp2_with (go_at_call 55;refine(c.out _ _).mono ?_;rintro e w' ⟨rfl,rfl⟩)
 go_ret;exact⟨rfl,bT⟩
def v'[P:hA A](w:World):Calls (ao A) 29 #[.nilIface] w λe w'=>e=.returned (.int .i64 0)/\w.grownBy w' none:=P.h6 w
class Hi(A:Array Func):Prop where
 iy:∀k c w,(k,c)∈pQ->Calls (ao A) 29 #[.iface 143 (.agg #[.int .i64 k])] w λe w'=>e=.returned (.int .i64 c)/\w.grownBy w' none
@[simp] theorem ao.S5(k:Int)(w:World):Sem.run (ao A) (Instr.typeAssert (.iface 143 (.agg #[.int .i64 k])) 75 143 true) w=Result.ok (.tuple #[.agg #[.int .i64 k],.bool true]) w:=av
@[simp] theorem ao.SU(k:Int)(w:World):Sem.run (ao A) (Instr.field 143 (.agg #[.int .i64 k]) 0) w=Result.ok (.int .i64 k) w:=av
def Oi[S:Std A](c:A[29]?=some l7)(w:World):Calls (ao A) 29 #[.nilIface] w λe w'=>e=.returned (.int .i64 0)/\w.grownBy w' none:=by
 go_enter (show(ao A).funcs[29]?=some l7 from c),(show l7.ntmps=9 from rfl)
 unfold uY kO j3;go_wp2;go_ret;exact⟨rfl,e6 _ _⟩
def Oh[S:Std A](d:A[29]?=some l7)(k c:Int)(w:World)(h:(k,c)∈pQ):Calls (ao A) 29 #[.iface 143 (.agg #[.int .i64 k])] w λe w'=>e=.returned (.int .i64 c)/\w.grownBy w' none:=by
 simp only[pQ,List.mem_cons,Prod.mk.injEq,iN,or_false]at h;rcases h with⟨rfl,rfl⟩|⟨rfl,rfl⟩|⟨rfl,rfl⟩|⟨rfl,rfl⟩|⟨rfl,rfl⟩
 all_goals (
  go_enter (show(ao A).funcs[29]?=some l7 from d),(show l7.ntmps=9 from rfl)
  unfold uY kO j3 pQ;simp only[tR,kO,j3];go_wp2;go_ret;exact⟨rfl,bT⟩)
def mQ(d:cC)(k:Nat):Nat->Nat->Int
 | 0,_=>0
 |i+1,day=>if d.bV i<=day then d.cQ i k else mQ d k i day
def te(d:cC)(k:Nat):Nat->Nat->Int
 | 0,day=>mQ d k d.bk day
 |j+1,day=>if d.free j=day then 0 else te d k j day
def cX(d:cC)(k:Nat)(day:Nat):Int:=te d k d.b' day
def jg(f:Nat->Int):Array Value:=#[.int .i64 (f 0),.int .i64 (f 1),.int .i64 (f 2),.int .i64 (f 3),.int .i64 (f 4)]
def Fo{v:Int}(h:w.heap[B]?=some (.cells (jg f) 91))(l:j<5)(d:g j=v)(c:∀i,i<5->i≠j->g i=f i):(w.setCell ⟨B,j,none⟩ (.int .i64 v)).heap[B]?=some (.cells (jg g) 91):=by
 rw[cU h];congr 2;rcases j with _|_|_|_|_|j
 .simp[jg,d,c]
 .simp[jg,d,c]
 .simp[jg,d,c]
 .simp[jg,d,c]
 .simp[jg,d,c]
 .omega
def mL(h:w.heap[B]?=some (.cells (jg f) 91))(c:j<5):w.cell? ⟨B,j,none⟩=some (.int .i64 (f j)):=by
 rw[aU h];rcases j with _|_|_|_|_|j
 .rfl
 .rfl
 .rfl
 .rfl
 .rfl
 .omega
def q9(d:cC)(k i cur:Nat)(day:Nat):Int:=if d.bV i<=day/\day<cur then d.cQ i k else mQ d k i day
def Mb{d:cC}(day:Nat)(h:day<5):q9 d k i 5 day=mQ d k (i+1) day:=by
 unfold q9;rw[mQ];by_cases c:d.bV i<=day
 .rw[if_pos ⟨c,h⟩,if_pos c]
 .rw[if_neg (λx=>c x.1),if_neg c]
def Ay(h:∀i,i<5->f i=g i):jg f=jg g:=by simp[jg,h]
def nP{b:Nat}{c:Array Value}{e:TypeId}{f:Nat×Nat}(h:w.heap[b]?=some (.cells c e f))(d:o<c.size):∃v,w.cell? ⟨b,o,none⟩=some v:=⟨c[o],by rw[aU h];exact fb d⟩
def lW{a:Addr}(h:w.grownBy wr row)(f:w.heap.size<=a.block):w.grownBy (wr.setCell a v) row where
 os:=h.os
 tape:=h.tape
 output:=h.output
 size:=cL h.size (Nat.le_of_eq aF)
 block k c d:=(e1 U).trans (h.block k c d)
def nf(row:Option Nat)(h:w.grownBy wr none):w.grownBy wr row:=⟨h.os,h.tape,h.output,h.size,λk c _=>h.block k c aF⟩
def e7(h:w.grownBy wr (some T)):w.grownBy (wr.setCell ⟨T,o,none⟩ v) (some T) where
 os:=h.os
 tape:=h.tape
 output:=h.output
 size:=cL h.size (Nat.le_of_eq aF)
 block k d c:=(e1 (by intro e;exact c (by rw[e]))).trans (h.block k d c)
def size_set(w:World)(a:Addr)(v:Value):(w.setCell a v).heap.size=w.heap.size:=aF
def oL(X:World):X.drew.heap=X.heap:=rfl
def gv{a b:World}(h:a.grownBy b row):a.grownBy b.drew row:=⟨h.os,h.tape,h.output,h.size,h.block⟩
def EU{c:Array Value}(t:Nat->Int)(h:wr.heap[T]?=some (.cells c 94))(g:w.grownBy wr none):
 (((((wr.setCell ⟨T,13+k*5,none⟩ (.int .i64 (t 0))).setCell ⟨T,13+k*5+1,none⟩ (.int .i64 (t 1))).setCell ⟨T,13+k*5+2,none⟩ (.int .i64 (t 2))).setCell ⟨T,13+k*5+3,none⟩ (.int .i64 (t 3))).setCell ⟨T,13+k*5+4,none⟩ (.int .i64 (t 4))).drew.heap[T]?=some (.cells (((((c.setIfInBounds (13+k*5) (.int .i64 (t 0))).setIfInBounds (13+k*5+1) (.int .i64 (t 1))).setIfInBounds (13+k*5+2) (.int .i64 (t 2))).setIfInBounds (13+k*5+3) (.int .i64 (t 3))).setIfInBounds (13+k*5+4) (.int .i64 (t 4))) 94)/\
 w.grownBy (((((wr.setCell ⟨T,13+k*5,none⟩ (.int .i64 (t 0))).setCell ⟨T,13+k*5+1,none⟩ (.int .i64 (t 1))).setCell ⟨T,13+k*5+2,none⟩ (.int .i64 (t 2))).setCell ⟨T,13+k*5+3,none⟩ (.int .i64 (t 3))).setCell ⟨T,13+k*5+4,none⟩ (.int .i64 (t 4))).drew (some T):=by
 have d:=cU (o:=13+k*5) (v:=.int .i64 (t 0)) h;have mf:=cU (o:=13+k*5+1) (v:=.int .i64 (t 1)) d;have f:=cU (o:=13+k*5+2) (v:=.int .i64 (t 2)) mf;have i:=cU (o:=13+k*5+3) (v:=.int .i64 (t 3)) f;have j:=cU (o:=13+k*5+4) (v:=.int .i64 (t 4)) i;have F:=e7 (T:=T) (o:=13+k*5+4) (v:=.int .i64 (t 4)) (e7 (T:=T) (o:=13+k*5+3) (v:=.int .i64 (t 3)) (e7 (T:=T) (o:=13+k*5+2) (v:=.int .i64 (t 2)) (e7 (T:=T) (o:=13+k*5+1) (v:=.int .i64 (t 1)) (e7 (T:=T) (o:=13+k*5) (v:=.int .i64 (t 0)) (nf (some T) g)))));exact⟨by rw[oL];exact j,gv F⟩
def IP[S:Std A](d:cC)(ok:d.ok)(p:eg)(k:Nat)(az:k<d.kinds)(T bG bH:Nat)(w:World)(h:e' w d p)(f:w.cell? ⟨bG,0,none⟩=some (.pointer (some ⟨T,0,none⟩)))(aw:w.cell? ⟨bH,0,none⟩=some (.int .i64 k))(aP:bG<w.heap.size)(aO:bH<w.heap.size)(c:Array Value)(ag:c.size=28)(C:w.heap[T]?=some (.cells c 94))(F:c[2]?=some (.slice (some ⟨p.fV,p.gU,none⟩) d.bk p.dq))(ae:c[3]?=some (.slice p.ei d.b' p.dc)):
 Calls (ao A) 59 #[.pointer (some ⟨bG,0,none⟩),.pointer (some ⟨bH,0,none⟩)] w λe w'=>e=.returned (.tuple #[])/\w'.heap[T]?=some (.cells (((((c.setIfInBounds (13+k*5) (.int .i64 (cX d k 0))).setIfInBounds (13+k*5+1) (.int .i64 (cX d k 1))).setIfInBounds (13+k*5+2) (.int .i64 (cX d k 2))).setIfInBounds (13+k*5+3) (.int .i64 (cX d k 3))).setIfInBounds (13+k*5+4) (.int .i64 (cX d k 4))) 94)/\w.grownBy w' (some T):=by
 have aQ:=ok.kinds;have aR:=ok.bk;have aS:=ok.b';have Z:=al ok;clear ok;have af:=bu C;have ad:=dU w (.cells #[.int .i64 0,.int .i64 0,.int .i64 0,.int .i64 0,.int .i64 0] 91) none;have aa:=fM w (.cells #[.int .i64 0,.int .i64 0,.int .i64 0,.int .i64 0,.int .i64 0] 91);have t2:w.cell? ⟨T,2,none⟩=some (.slice (some ⟨p.fV,p.gU,none⟩) d.bk p.dq):=by rw[aU C];exact F
 have t3:w.cell? ⟨T,3,none⟩=some (.slice p.ei d.b' p.dc):=by rw[aU C];exact ae
 have H:=al h;have Y:=al C;have X:=al ag;have aj:=al aa;have am:=al ad;have ap:=al t3;have M:=al aw;have J:=al f;clear h C ag F ae aa ad;go_enter (S.f Tryz.func59),Tryz.ntmps59;go_wp2;go_loopw [14] (λi wr=>∃j:Nat,j<=d.bk/\i=.int .i64 j/\w.grownBy wr none/\w.heap.size<wr.heap.size/\wr.heap[w.heap.size]?=some (.cells (jg (mQ d k j)) 91)) (λi _=>d.bk-(intOf i).toNat)
 case atStart=>exact⟨0,U,by go_num,am.out,by rw[cV];omega,aj.out⟩
 case round=>
  obtain⟨j,ay,rfl,m,u,g⟩:=hrel;by_cases r:j<d.bk
  .have r1:=(H.out.keep m).bV j r
   have aX:=(H.out.keep m).rows j r;have V:=Z.out.bV j r;obtain⟨a,q⟩:∃a:Nat,d.bV j=a:=⟨(d.bV j).toNat,U⟩
   have Q:a<5:=U;rw[q]at r1;have l:=al m;have n:=al g;have B:=al q;clear m g q V;go_wp2;go_loopw [5] (λv w2=>∃x:Nat,a<=x/\x<=5/\v=.int .i64 x/\w.grownBy w2 none/\wr.heap.size<w2.heap.size/\w2.heap[w.heap.size]?=some (.cells (jg (q9 d k j x)) 91)/\w2.cell? ⟨wr.heap.size,1,none⟩=some (.slice (some ⟨p.dj j,p.uG j,none⟩) d.kinds (p.cq j))) (λv _=>5-(intOf v).toNat)
   case atStart=>
    refine⟨a,bg,U,rfl,l.out.trans bT,by rw[cV];omega,?_,dR rfl⟩;have e:jg (q9 d k j a)=jg (mQ d k j):=Ay λi _=>by unfold q9;rw[if_neg];rw[B.out];omega
    rw[e];exact((dU wr _ none).block _ u aF).trans n.out
   case round=>
    obtain⟨x,aN,aT,rfl,z,aA,y,ax⟩:=hrel;by_cases ai:x<5
    .have aW:=(H.out.keep z).cQ j r k az
     have av:=b3 (o:=x) y;have aD:=mL y ai;have cb:=z.cell M.out aF;have K:=al z;have I:=al y;clear z y;go_wp2;go_roundw
     case rel=>
      refine⟨x+1,U,U,by go_num,lW K.out bg,by rw[size_set];exact aA,Fo I.out ai ?_ λi R aC=>?_,?_⟩
      .unfold q9
       rw[if_pos];rw[B.out];omega
      .unfold q9
       by_cases E:d.bV j<=i/\i<x
       .rw[if_pos E,if_pos ⟨E.1,U⟩]
       .rw[if_neg E,if_neg λF=>E ⟨F.1,U⟩]
      .rw[World.cell?_setCell_other _ _ _ _ (by intro e;have:=congrArg Addr.block e;simp at this;omega)]
       exact ax
     case measure=>simp[intOf];omega
    .obtain rfl:x=5:=U
     have K:=al z;have I:=al y;clear z y;go_wp2;go_roundw
     case rel=>
      refine⟨j+1,U,by go_num,K.out,U,?_⟩;rw[<-Ay λi R=>Mb (d:=d) (k:=k) (i:=j) i R];exact I.out
     case measure=>simp[intOf];omega
  .obtain rfl:j=d.bk:=U
   have nE:=m.cell ap.out aF;have ew:=m.cell J.out aF;have fr:=(H.out.keep m).free;have l:=al m;have n:=al g;clear m g;by_cases G:d.b'=0
   .rw[G]at nE
    have mq:jg (cX d k)=jg (mQ d k d.bk):=Ay λi _=>by unfold cX;rw[G];rfl
    go_wp2;go_loopw [38] (λi w2=>i=.int .i64 0/\w.grownBy w2 none/\w.heap.size<w2.heap.size/\w2.heap[w.heap.size]?=some (.cells (jg (cX d k)) 91)) (λ_ _=>0)
    case atStart=>exact⟨rfl,l.out,u,by rw[mq];exact n.out⟩
    case round=>
     clear l n;obtain⟨rfl,m,u,g⟩:=hrel;have l:=al m;have ew:=l.out.cell J.out aF;have cb:=l.out.cell M.out aF;have f0:=mL g (j:=0) U;have f1:=mL g (j:=1) U;have f2:=mL g (j:=2) U;have f3:=mL g (j:=3) U;have f4:=mL g (j:=4) U;have f:=(l.out.block T af aF).trans Y.out;have L:=al f;have W:=X.out;obtain⟨v0,aE⟩:=nP (o:=13+k*5) f U;obtain⟨v1,aG⟩:=nP (o:=13+k*5+1) f U;obtain⟨v2,aH⟩:=nP (o:=13+k*5+2) f U;obtain⟨v3,aI⟩:=nP (o:=13+k*5+3) f U;obtain⟨v4,aJ⟩:=nP (o:=13+k*5+4) f U;have z0:=b3 (o:=13+k*5) f;have aK:=b3 (o:=13+k*5+1) f;have aL:=b3 (o:=13+k*5+2) f;have z3:=b3 (o:=13+k*5+3) f;have z4:=b3 (o:=13+k*5+4) f;clear m g f W;go_wp2;go_region
     go_end0;exact⟨rfl,EU (cX d k) L.out l.out⟩
   .obtain⟨b,o,e,aB⟩:=fr G
    rw[e]at nE;obtain⟨aM,aV,D,ah⟩:=H.out.free G;rw[e]at D;injection D with D
    injection D with aq ar au
    subst aq;subst ar;have ak:=al ah;clear aB ah fr e au;go_wp2;go_loopw [38] (λi w2=>∃j:Nat,j<=d.b'/\i=.int .i64 j/\w.grownBy w2 none/\w.heap.size<w2.heap.size/\w2.heap[w.heap.size]?=some (.cells (jg (te d k j)) 91)) (λi _=>d.b'-(intOf i).toNat)
    case atStart=>exact⟨0,U,by go_num,l.out,u,n.out⟩
    case round=>
     clear l n u;obtain⟨j,ay,rfl,m,u,g⟩:=hrel;by_cases r:j<d.b'
     .have V:=Z.out.free j r
      obtain⟨a,q⟩:∃a:Nat,d.free j=a:=⟨(d.free j).toNat,U⟩
      have Q:a<5:=U;have P:=ak.out j r;have P:=m.cell P aF;rw[q]at P;have av:=b3 (o:=a) g;have aD:=mL g Q;have l:=al m;have n:=al g;have B:=al q;clear m g q V;go_wp2;go_roundw
      case rel=>
       refine⟨j+1,U,by go_num,lW l.out bg,by rw[size_set];exact u,Fo n.out Q ?_ λi R aC=>?_⟩
       .rw[te,if_pos B.out]
       .rw[te,if_neg]
        rw[B.out];omega
      case measure=>simp[intOf];omega
     .obtain rfl:j=d.b':=U
      replace g:wr.heap[w.heap.size]?=some (.cells (jg (cX d k)) 91):=g;have l:=al m;have ew:=l.out.cell J.out aF;have cb:=l.out.cell M.out aF;have f0:=mL g (j:=0) U;have f1:=mL g (j:=1) U;have f2:=mL g (j:=2) U;have f3:=mL g (j:=3) U;have f4:=mL g (j:=4) U;have f:=(l.out.block T af aF).trans Y.out;have L:=al f;have W:=X.out;obtain⟨v0,aE⟩:=nP (o:=13+k*5) f U;obtain⟨v1,aG⟩:=nP (o:=13+k*5+1) f U;obtain⟨v2,aH⟩:=nP (o:=13+k*5+2) f U;obtain⟨v3,aI⟩:=nP (o:=13+k*5+3) f U;obtain⟨v4,aJ⟩:=nP (o:=13+k*5+4) f U;have z0:=b3 (o:=13+k*5) f;have aK:=b3 (o:=13+k*5+1) f;have aL:=b3 (o:=13+k*5+2) f;have z3:=b3 (o:=13+k*5+3) f;have z4:=b3 (o:=13+k*5+4) f;clear m g f W;go_wp2;go_region
      go_end0;exact⟨rfl,EU (cX d k) L.out l.out⟩
def LM[P:hA A](a:Addr)(w:World)(c:w.cell? a=some (.int .i32 0))(d:w.frozen? a=false):Calls (ao A) 120 #[.pointer (some a)] w λe w'=>e=.returned (.tuple #[])/\w'=w.setCell a (.int .i32 1):=by
 go_enter (show(ao A).funcs[120]?=some sX from P.f141),(show sX.ntmps=13 from rfl)
 unfold tc yZ Ad Ae Af;go_wp2;refine bodyPost_ret (results_none rfl _ _ _) rfl ?_;exact⟨rfl,rfl⟩
def RD[P:hA A](a:Addr)(w:World)(c:w.cell? a=some (.int .i32 1))(d:w.frozen? a=false):Calls (ao A) 121 #[.pointer (some a)] w λe w'=>e=.returned (.tuple #[])/\w'=w.setCell a (.int .i32 0):=by
 go_enter (show(ao A).funcs[121]?=some sY from P.f142),(show sY.ntmps=21 from rfl)
 unfold tc yZ Ad Ae Af;go_wp2;refine bodyPost_ret (results_none rfl _ _ _) rfl ?_;exact⟨rfl,rfl⟩
def LH[S:Std A][P:hA A](a:Addr)(w:World)(c:w.cell? a=some (.int .i32 0))(d:w.frozen? a=false):Calls (ao A) 96 #[.pointer (some a)] w λe w'=>e=.returned (.tuple #[])/\w'=w.setCell a (.int .i32 1):=by
 go_enter (S.f Tryz.func96),Tryz.ntmps96;go_wp2_with (go_at_call 120;refine(LM a _ c d).mono ?_;rintro e w' ⟨rfl,rfl⟩)
 go_end0;exact⟨rfl,rfl⟩
def RB[S:Std A][P:hA A](a:Addr)(u:FrameMode)(w:World)(c:w.cell? a=some (.int .i32 1))(d:w.frozen? a=false):
 CallsD (ao A) 97 #[.pointer (some a)] u w λe aC w'=>aC=u/\(e=.returned (.tuple #[])/\w'=w.setCell a (.int .i32 0)):=by
 go_enter_d (S.f Tryz.func97),Tryz.ntmps97
 go_wp2_with (go_at_call 121;refine(RD a _ c d).mono ?_;rintro e w' ⟨rfl,rfl⟩)
 go_end0;exact⟨rfl,rfl⟩
def HM[S:Std A](w:World):Calls (ao A) 123 #[.bool true] w λe w'=>e=.returned (.int .u32 1)/\w=w':=by go_enter (S.f Tryz.func123),Tryz.ntmps123;go_wp2;go_ret;exact⟨rfl,rfl⟩
def QA[S:Std A][P:hA A](a:Addr)(x:Value)(u:FrameMode)(w:World)(f:w.cell? a=some x)(h:w.frozen? a=false):
 CallsD (ao A) 98 #[.pointer (some a),.bool true] u w λe aC w'=>aC=u/\(e=.returned (.tuple #[])/\w'=w.drew.setCell a (.int .u32 1)):=by
 have c:w.drew.cell? a=some x:=by go_simp
 have d:w.drew.frozen? a=false:=by go_simp
 have g:=run_call_store (P:=ao A) P.f143 av av av av (k:=.u32) (y:=1) c d;go_enter_d (S.f Tryz.func98),Tryz.ntmps98
 go_wp2;go_region_with (go_at_call 123;refine(HM _).mono ?_;rintro e w' ⟨rfl,rfl⟩)
 all_goals (go_end0;exact⟨rfl,rfl⟩)
def zM[S:Std A][P:hA A](a:Addr)(b:Bool)(w:World)(c:w.cell? a=some (.int .u32 (if b then 1 else 0))):Calls (ao A) 79 #[.pointer (some a)] w λe w'=>e=.returned (.bool b)/\w=w':=by
 cases b
 .have d:=run_call_load (P:=ao A) P.f116 av av av .u32 av (x:=0) c
  go_enter (S.f Tryz.func79),Tryz.ntmps79;go_wp2;go_ret;exact⟨rfl,rfl⟩
 .have d:=run_call_load (P:=ao A) P.f116 av av av .u32 av (x:=1) c
  go_enter (S.f Tryz.func79),Tryz.ntmps79;go_wp2;go_ret;exact⟨rfl,rfl⟩
def od{c:Array Value}{x:Value}(h:c[j]?=some x)(d:i≠j):(c.setIfInBounds i v)[j]?=some x:=by rw[h7 d];exact h
def O6[S:Std A][P:hA A](T o bG bH:Nat)(c d:Array Value)(w:World)(h:w.heap[T]?=some (.cells c 94))(q:c[o]?=some (.int .u32 0))(r:c[o+1]?=some (.int .i32 0))(I:d[o]?=some (.int .u32 0))(J:d[o+1]?=some (.int .i32 1))(y:∀W,W.heap[T]?=some (.cells (c.setIfInBounds (o+1) (.int .i32 1)) 94)->w.grownBy W (some T)->Calls (ao A) 59 #[.pointer (some ⟨bG,0,none⟩),.pointer (some ⟨bH,0,none⟩)] W λe w'=>e=.returned (.tuple #[])/\w'.heap[T]?=some (.cells d 94)/\W.grownBy w' (some T)):
 Calls (ao A) 80 #[.pointer (some ⟨T,o,none⟩),.func (.func 59) #[] #[.pointer (some ⟨bG,0,none⟩),.pointer (some ⟨bH,0,none⟩)]] w λe w'=>e=.returned (.tuple #[])/\w'.heap[T]?=some (.cells ((d.setIfInBounds o (.int .u32 1)).setIfInBounds (o+1) (.int .i32 0)) 94)/\w.grownBy w' (some T):=by
 have G:w.cell? ⟨T,o+1,none⟩=some (.int .i32 0):=by rw[aU h];exact r
 have H:=b3 (o:=o+1) h;have mf:=cU (o:=o+1) (v:=.int .i32 1) h;have i:w.grownBy (w.setCell ⟨T,o+1,none⟩ (.int .i32 1)) (some T):=e7 (e6 _ _);have d0:(w.setCell ⟨T,o+1,none⟩ (.int .i32 1)).cell? ⟨T,o,none⟩=some (.int .u32 0):=by rw[aU mf];exact od q U
 have B:=al (y _ mf i);have C:=al i;clear y mf i h q r;go_enter_defers (S.f Tryz.func80),Tryz.ntmps80
 go_wp2_with (first|(go_at_call 96;refine(LH _ _ G H).mono ?_;rintro e w' ⟨rfl,rfl⟩)|(go_at_call 79;refine(zM _ false _ d0).mono ?_;rintro e w' ⟨rfl,rfl⟩)|(go_at_call 59;refine B.out.mono ?_;rintro e l ⟨rfl,u,z⟩;have j:=al u;have D:=al z;clear u z))
 go_wp2;have p:l.cell? ⟨T,o,none⟩=some (.int .u32 0):=by rw[aU j.out];exact I
 refine leaves_cons (f:=98) (args:=#[.pointer (some ⟨T,o,none⟩),.bool true]) aF (by simp[go_sem]) ?_;refine(QA ⟨T,o,none⟩ _ .returning _ p (b3 j.out)).mono ?_;rintro e aC K ⟨rfl,rfl,rfl⟩;have g:(l.drew.setCell ⟨T,o,none⟩ (.int .u32 1)).heap[T]?=some (.cells (d.setIfInBounds o (.int .u32 1)) 94):=cU (w:=l.drew) j.out;refine leaves_cons (f:=97) (args:=#[.pointer (some ⟨T,o+1,none⟩)]) (by simp[settle]) (by simp[go_sem]) ?_;refine(RB ⟨T,o+1,none⟩ _ _ (by rw[aU g];exact od J U) (b3 g)).mono ?_;rintro e aC L ⟨rfl,rfl,rfl⟩;have m:=cU (o:=o+1) (v:=.int .i32 0) g;have n:=e7 (T:=T) (o:=o+1) (v:=.int .i32 0) (e7 (T:=T) (o:=o) (v:=.int .u32 1) (gv (C.out.trans D.out)));have E:=al m;have F:=al n;clear m n g p;simp[Leaves,settle,results,Tryz.results80];exact⟨E.out,F.out⟩
def I'[S:Std A][P:hA A](T o bG bH:Nat)(c d:Array Value)(w:World)(g:w.heap[T]?=some (.cells c 94))(f:c[o]?=some (.int .u32 0))(h:c[o+1]?=some (.int .i32 0))(i:d[o]?=some (.int .u32 0))(j:d[o+1]?=some (.int .i32 1))(m:∀W,W.heap[T]?=some (.cells (c.setIfInBounds (o+1) (.int .i32 1)) 94)->w.grownBy W (some T)->Calls (ao A) 59 #[.pointer (some ⟨bG,0,none⟩),.pointer (some ⟨bH,0,none⟩)] W λe w'=>e=.returned (.tuple #[])/\w'.heap[T]?=some (.cells d 94)/\W.grownBy w' (some T)):
 Calls (ao A) 58 #[.pointer (some ⟨T,o,none⟩),.func (.func 59) #[] #[.pointer (some ⟨bG,0,none⟩),.pointer (some ⟨bH,0,none⟩)]] w λe w'=>e=.returned (.tuple #[])/\w'.heap[T]?=some (.cells ((d.setIfInBounds o (.int .u32 1)).setIfInBounds (o+1) (.int .i32 0)) 94)/\w.grownBy w' (some T):=by
 have d0:w.cell? ⟨T,o,none⟩=some (.int .u32 0):=by rw[aU g];exact f
 have q:=al (O6 T o bG bH c d w g f h i j m);clear m g f h i j;go_enter (S.f Tryz.func58),Tryz.ntmps58;go_wp2_with (first|(go_at_call 79;refine(zM _ false _ d0).mono ?_;rintro e w' ⟨rfl,rfl⟩)|(go_at_call 80;refine q.out.mono ?_;rintro e u ⟨rfl,l,n⟩;have r:=al l;have p:=al n;clear l n))
 go_end0;exact⟨rfl,r.out,p.out⟩
def I9[S:Std A][P:hA A](a:Addr)(c:Value)(w:World)(d:w.cell? a=some (.int .u32 1)):Calls (ao A) 58 #[.pointer (some a),c] w λe w'=>e=.returned (.tuple #[])/\w=w':=by
 go_enter (S.f Tryz.func58),Tryz.ntmps58;go_wp2_with (go_at_call 79;refine(zM _ true _ d).mono ?_;rintro e w' ⟨rfl,rfl⟩)
 go_end0;exact⟨rfl,rfl⟩
end
end Go.aO
