/- A part. -/
import Derived.Test.YtoebddanaobpaaaGreatDoorP15
import Derived.BigRegion
import Derived.Defers
import Derived.Laws.LoneSync
import Derived.RegionTactic
import Derived.RegionCalls
import Derived.Deep.RegionWith
set_option maxHeartbeats 8000000
set_option maxRecDepth 100000
set_option linter.all false
namespace Go.aO
attribute [-simp] Go.Sem.runT_eq
open Go.Proofs Tryz
def Ed(fn:TF):TF:={gM fn with endLine:=1000000008}
def E8{Spec:Tw->TF->TF->Prop}{P:To}{f:Tw}{fn:TF}(c:fn.body=none):kz Spec P f (Ed fn):=uO c S6 S6
def Eu:Tv Oper:=#[⟨some 0,.assign (.const (.bool true)),4,"",#[],none⟩]
def xX:Code:=.seq (.region 0 Eu false) .ret
noncomputable def xD:TF:={f5 with body:=some xX,nfree:=0,endLine:=1000000007}
noncomputable def AL:Tb (Nat×TF):=(1,Ed f1)::(5,xD)::(44,l7)::xM
def Fq:TA:=72::AA
noncomputable def bC.list:Tb TF:=mix AL Fq 0 aK.funcs.toList
noncomputable def bC:To:=⟨Tryz.progTables,(bC.list).toArray⟩
def bC.K:g8 bC aK:=⟨λ_ _ _=>False,λf=>f=66\/f=134\/f=135\/f=5\/f=44⟩
def bC.H:fe (fj bC.K) bC aK:=
 zS (sp:=AL) (rs:=Fq) S6 av ⟨⟨S6,E8 S6⟩,⟨S6,o' (.inr (.inr (.inr (.inl S6)))) func5 S6 S6 S6 S6⟩,⟨S6,o' (.inr (.inr (.inr (.inr S6)))) func44 S6 S6 S6 S6⟩,⟨S6,o' (.inl S6) func66 S6 S6 S6 S6⟩,⟨S6,xv func101⟩,⟨S6,o' (.inr (.inl S6)) func134 S6 S6 S6 S6⟩,⟨S6,o' (.inr (.inr (.inl S6))) func135 S6 S6 S6 S6⟩,⟨S6,xw func136⟩,Tf⟩ av
def bC.ek:fe (fj (jv bC)) bC bC:=
 AE (sp:=AL) ⟨⟨S6,E8 S6⟩,⟨S6,nt av av⟩,⟨S6,nt av av⟩,⟨S6,nt av av⟩,⟨S6,xv av⟩,⟨S6,nt av av⟩,⟨S6,nt av av⟩,⟨S6,xw av⟩,Tf⟩ ⟨av,av,av,av,av,av,av,av,Tf⟩ av
def bC.S:Same bC aK:=⟨S6⟩
def bC.o5:je bC=none:=av
def bC.eb:eK bC 66=some 2/\eK bC 134=some 1/\eK bC 135=some 1/\eK bC 5=some 0/\eK bC 44=some 1:=⟨av,av,av,av,av⟩
instance bC.Gd:Std bC.list.toArray:=zT (by kernel_rfl)
instance bC.Qx:jx bC.list.toArray:=⟨by kernel_rfl,by kernel_rfl,by kernel_rfl⟩
end Go.aO
namespace Go.aO
open Go.Proofs Tryz Go.RowKit
variable{B T i j k o:Nat}{w wr:S7}{v:S9}{row:TN}{f g:Ty}
section
variable{A:TJ}
class hA(A:TJ):Prop where
 f51:A[46]?=some f46
 f75:A[66]?=some rq
 f116:A[101]?=some f101
 f143:A[136]?=some f136
 f141:A[134]?=some sX
 f142:A[135]?=some sY
 h6:∀w,Calls (ao A) 44 #[.nilIface] w λe w'=>e=.returned (ah 0)/\w.grownBy w' none
def vG[S:Std A](b o n c:Nat)(C:n<=8)(w:S7)(num most bq:Ty)(h:∀i,i<n->w.cell? (S8 b (o+i*3))=Tn (num i))(j:∀i,i<n->w.cell? (S8 b (o+i*3+1))=Tn (most i))(l:∀i,i<n->w.cell? (S8 b (o+i*3+2))=Tn (bq i))(u:∀i,i<n->0<=num i/\num i<=most i):
 Calls (ao A) 45 #[TW b o n c] w λe w'=>e=.returned .nilIface/\w.grownBy w' none:=by
 have ek:=al h;have p:=al j;have q:=al l;clear h j l;go_enter (S.f func45),ntmps45;go_wp2;go_loopw [7] (λi wr=>∃k:Nat,k<=n/\i=ah k/\w.grownBy wr none) (λi _=>n-(intOf i).toNat)
 case atStart=>exact⟨0,U,by go_num,e6 _ _⟩
 case round=>
  obtain⟨k,B,rfl,d⟩:=hrel;by_cases f:k<n
  .have bx:=d.cell (ek.out k f) aF
   have y:=d.cell (p.out k f) aF;have z:=d.cell (q.out k f) aF;have m:=u k f;have r:decide (0<=num k/\num k<=most k)=true:=by simp[m.1,m.2]
   have g:=al d;clear d;go_wp2_with (go_at_call 68;refine(ku _ _ _ _).mono ?_;rintro e w' ⟨rfl,rfl⟩;rw[r])
   go_roundw
   case rel=>exact⟨k+1,U,by go_num,g.out.trans bT⟩
   case measure=>simp[intOf];omega
  .have g:=al d
   clear d;go_wp2;go_ret;exact⟨S6,g.out⟩
def Jw[S:Std A](d:A[44]?=some f44)(f:A[66]?=some rq)(w:S7):Calls (ao A) 44 #[.nilIface] w λe w'=>e=.returned (ah 0)/\w.grownBy w' none:=by
 have c:=al λ(x:S9) (w:S7)=>show Calls (ao A) 66 #[.nilIface,x] w λe w'=>e=.returned (.bool false)/\w=w' from by
  go_enter (show(ao A).funcs[66]?=some rq from f),(show rq.ntmps=42 from S6)
  unfold xW Cw Er Es;go_wp2;go_ret;exact⟨S6,S6⟩
 go_enter (show(ao A).funcs[44]?=some f44 from d),ntmps44;go_wp2_with (go_at_call 66;refine(c.out _ _).mono ?_;rintro e w' ⟨rfl,rfl⟩)
 go_ret;exact⟨S6,bT⟩
def v'[P:hA A](w:S7):Calls (ao A) 44 #[.nilIface] w λe w'=>e=.returned (ah 0)/\w.grownBy w' none:=P.h6 w
class Hi(A:TJ):Prop where
 iy:∀k c w,(k,c)∈pQ->Calls (ao A) 44 #[.iface 146 (.agg #[ah k])] w λe w'=>e=.returned (ah c)/\w.grownBy w' none
@[simp] theorem ao.S5(k:Int)(w:S7):Sem.run (ao A) (Instr.typeAssert (.iface 146 (.agg #[ah k])) 114 146 true) w=Result.ok (.tuple #[.agg #[ah k],.bool true]) w:=av
@[simp] theorem ao.SU(k:Int)(w:S7):Sem.run (ao A) (Instr.field 146 (.agg #[ah k]) 0) w=Result.ok (ah k) w:=av
def Oi[S:Std A](c:A[44]?=some l7)(w:S7):Calls (ao A) 44 #[.nilIface] w λe w'=>e=.returned (ah 0)/\w.grownBy w' none:=by
 go_enter (show(ao A).funcs[44]?=some l7 from c),(show l7.ntmps=9 from S6)
 unfold uY kO j3;go_wp2;go_ret;exact⟨S6,e6 _ _⟩
def Oh[S:Std A](d:A[44]?=some l7)(k c:Int)(w:S7)(h:(k,c)∈pQ):Calls (ao A) 44 #[.iface 146 (.agg #[ah k])] w λe w'=>e=.returned (ah c)/\w.grownBy w' none:=by
 simp only[pQ,T7,Prod.mk.injEq,iN,or_false]at h;rcases h with⟨rfl,rfl⟩|⟨rfl,rfl⟩|⟨rfl,rfl⟩|⟨rfl,rfl⟩|⟨rfl,rfl⟩
 all_goals (
  go_enter (show(ao A).funcs[44]?=some l7 from d),(show l7.ntmps=9 from S6)
  unfold uY kO j3 pQ;simp only[tR,kO,j3];go_wp2;go_ret;exact⟨S6,bT⟩)
def mQ(d:cC)(k:Nat):Nat->Nat->Int
 | 0,_=>0
 |i+1,day=>if d.bV i<=day then d.cQ i k else mQ d k i day
def te(d:cC)(k:Nat):Nat->Nat->Int
 | 0,day=>mQ d k d.bk day
 |j+1,day=>if d.free j=day then 0 else te d k j day
def cX(d:cC)(k:Nat)(day:Nat):Int:=te d k d.b' day
def jg(f:Ty):Te:=#[ah (f 0),ah (f 1),ah (f 2),ah (f 3),ah (f 4)]
def Fo{v:Int}(h:w.heap[B]?=some (.cells (jg f) 129))(l:j<5)(d:g j=v)(c:∀i,i<5->i≠j->g i=f i):(w.setCell (S8 B j) (ah v)).heap[B]?=some (.cells (jg g) 129):=by
 rw[cU h];congr 2;rcases j with _|_|_|_|_|j
 .simp[jg,d,c]
 .simp[jg,d,c]
 .simp[jg,d,c]
 .simp[jg,d,c]
 .simp[jg,d,c]
 .omega
def mL(h:w.heap[B]?=some (.cells (jg f) 129))(c:j<5):w.cell? (S8 B j)=Tn (f j):=by
 rw[aU h];rcases j with _|_|_|_|_|j
 .rfl
 .rfl
 .rfl
 .rfl
 .rfl
 .omega
def q9(d:cC)(k i cur:Nat)(day:Nat):Int:=if d.bV i<=day/\day<cur then d.cQ i k else mQ d k i day
def Mb{d:cC}(day:Nat)(h:day<5):q9 d k i 5 day=mQ d k (i+1) day:=by
 unfold q9;rw[mQ];by_cases c:d.bV i<=day
 .rw[Tq ⟨c,h⟩,Tq c]
 .rw[Tm (λx=>c x.1),Tm c]
def Ay(h:∀i,i<5->f i=g i):jg f=jg g:=by simp[jg,h]
def nP{b:Nat}{c:Te}{e:Tg}{f:Nat×Nat}(h:w.heap[b]?=some (.cells c e f))(d:o<c.size):∃v,w.cell? (S8 b o)=some v:=⟨c[o],by rw[aU h];exact fb d⟩
def lW{a:TD}(h:w.grownBy wr row)(f:w.heap.size<=a.block):w.grownBy (wr.setCell a v) row where
 os:=h.os
 tape:=h.tape
 output:=h.output
 size:=cL h.size (Nat.le_of_eq aF)
 block k c d:=(e1 U).trans (h.block k c d)
def nf(row:TN)(h:w.grownBy wr none):w.grownBy wr row:=⟨h.os,h.tape,h.output,h.size,λk c _=>h.block k c aF⟩
def e7(h:w.grownBy wr (some T)):w.grownBy (wr.setCell (S8 T o) v) (some T) where
 os:=h.os
 tape:=h.tape
 output:=h.output
 size:=cL h.size (Nat.le_of_eq aF)
 block k d c:=(e1 (by intro e;exact c (by rw[e]))).trans (h.block k d c)
def size_set(w:S7)(a:TD)(v:S9):(w.setCell a v).heap.size=w.heap.size:=aF
def oL(X:S7):X.drew.heap=X.heap:=S6
def gv{a b:S7}(h:a.grownBy b row):a.grownBy b.drew row:=⟨h.os,h.tape,h.output,h.size,h.block⟩
def EU{c:Te}(t:Ty)(h:wr.heap[T]?=some (.cells c 132))(g:w.grownBy wr none):
 (((((wr.setCell (S8 T (13+k*5)) (ah (t 0))).setCell (S8 T (13+k*5+1)) (ah (t 1))).setCell (S8 T (13+k*5+2)) (ah (t 2))).setCell (S8 T (13+k*5+3)) (ah (t 3))).setCell (S8 T (13+k*5+4)) (ah (t 4))).drew.heap[T]?=some (.cells (((((c.setIfInBounds (13+k*5) (ah (t 0))).setIfInBounds (13+k*5+1) (ah (t 1))).setIfInBounds (13+k*5+2) (ah (t 2))).setIfInBounds (13+k*5+3) (ah (t 3))).setIfInBounds (13+k*5+4) (ah (t 4))) 132)/\
 w.grownBy (((((wr.setCell (S8 T (13+k*5)) (ah (t 0))).setCell (S8 T (13+k*5+1)) (ah (t 1))).setCell (S8 T (13+k*5+2)) (ah (t 2))).setCell (S8 T (13+k*5+3)) (ah (t 3))).setCell (S8 T (13+k*5+4)) (ah (t 4))).drew (some T):=by
 have d:=cU (o:=13+k*5) (v:=ah (t 0)) h;have mf:=cU (o:=13+k*5+1) (v:=ah (t 1)) d;have f:=cU (o:=13+k*5+2) (v:=ah (t 2)) mf;have i:=cU (o:=13+k*5+3) (v:=ah (t 3)) f;have j:=cU (o:=13+k*5+4) (v:=ah (t 4)) i;have F:=e7 (T:=T) (o:=13+k*5+4) (v:=ah (t 4)) (e7 (T:=T) (o:=13+k*5+3) (v:=ah (t 3)) (e7 (T:=T) (o:=13+k*5+2) (v:=ah (t 2)) (e7 (T:=T) (o:=13+k*5+1) (v:=ah (t 1)) (e7 (T:=T) (o:=13+k*5) (v:=ah (t 0)) (nf (some T) g)))));exact⟨by rw[oL];exact j,gv F⟩
def IP[S:Std A](d:cC)(ok:d.ok)(p:eg)(k:Nat)(aA:k<d.kinds)(T bG bH:Nat)(w:S7)(h:e' w d p)(f:w.cell? (Ti bG)=some (Tj T))(ax:w.cell? (Ti bH)=Tn k)(aQ:bG<w.heap.size)(aP:bH<w.heap.size)(c:Te)(ag:c.size=28)(C:w.heap[T]?=some (.cells c 132))(F:c[2]?=some (TW p.fV p.gU d.bk p.dq))(ae:c[3]?=some (.slice p.ei d.b' p.dc)):
 Calls (ao A) 70 #[Tj bG,Tj bH] w λe w'=>e=.returned (.tuple #[])/\w'.heap[T]?=some (.cells (((((c.setIfInBounds (13+k*5) (ah (cX d k 0))).setIfInBounds (13+k*5+1) (ah (cX d k 1))).setIfInBounds (13+k*5+2) (ah (cX d k 2))).setIfInBounds (13+k*5+3) (ah (cX d k 3))).setIfInBounds (13+k*5+4) (ah (cX d k 4))) 132)/\w.grownBy w' (some T):=by
 have aR:=ok.kinds;have aS:=ok.bk;have aT:=ok.b';have Z:=al ok;clear ok;have af:=bu C;have ad:=dU w (.cells #[ah 0,ah 0,ah 0,ah 0,ah 0] 129) none;have aa:=fM w (.cells #[ah 0,ah 0,ah 0,ah 0,ah 0] 129);have t2:w.cell? (S8 T 2)=some (TW p.fV p.gU d.bk p.dq):=by rw[aU C];exact F
 have t3:w.cell? (S8 T 3)=some (.slice p.ei d.b' p.dc):=by rw[aU C];exact ae
 have H:=al h;have Y:=al C;have X:=al ag;have ak:=al aa;have ap:=al ad;have aq:=al t3;have M:=al ax;have J:=al f;clear h C ag F ae aa ad;go_enter (S.f func70),ntmps70;go_wp2;go_loopw [14] (λi wr=>∃j:Nat,j<=d.bk/\i=ah j/\w.grownBy wr none/\w.heap.size<wr.heap.size/\wr.heap[w.heap.size]?=some (.cells (jg (mQ d k j)) 129)) (λi _=>d.bk-(intOf i).toNat)
 case atStart=>exact⟨0,U,by go_num,ap.out,by rw[cV];omega,ak.out⟩
 case round=>
  obtain⟨j,az,rfl,m,u,g⟩:=hrel;by_cases r:j<d.bk
  .have r1:=(H.out.keep m).bV j r
   have aY:=(H.out.keep m).rows j r;have V:=Z.out.bV j r;obtain⟨a,q⟩:∃a:Nat,d.bV j=a:=⟨(d.bV j).toNat,U⟩
   have Q:a<5:=U;rw[q]at r1;have l:=al m;have n:=al g;have B:=al q;clear m g q V;go_wp2;go_loopw [5] (λv w2=>∃x:Nat,a<=x/\x<=5/\v=ah x/\w.grownBy w2 none/\wr.heap.size<w2.heap.size/\w2.heap[w.heap.size]?=some (.cells (jg (q9 d k j x)) 129)/\w2.cell? (S8 wr.heap.size 1)=some (TW (p.dj j) (p.uG j) d.kinds (p.cq j))) (λv _=>5-(intOf v).toNat)
   case atStart=>
    refine⟨a,bg,U,S6,l.out.trans bT,by rw[cV];omega,?_,dR S6⟩;have e:jg (q9 d k j a)=jg (mQ d k j):=Ay λi _=>by unfold q9;rw[Tm];rw[B.out];omega
    rw[e];exact((dU wr _ none).block _ u aF).trans n.out
   case round=>
    obtain⟨x,aO,aV,rfl,z,aB,y,ay⟩:=hrel;by_cases aj:x<5
    .have aX:=(H.out.keep z).cQ j r k aA
     have aw:=b3 (o:=x) y;have aE:=mL y aj;have cb:=z.cell M.out aF;have K:=al z;have I:=al y;clear z y;go_wp2;go_roundw
     case rel=>
      refine⟨x+1,U,U,by go_num,lW K.out bg,by rw[size_set];exact aB,Fo I.out aj ?_ λi R aD=>?_,?_⟩
      .unfold q9
       rw[Tq];rw[B.out];omega
      .unfold q9
       by_cases E:d.bV j<=i/\i<x
       .rw[Tq E,Tq ⟨E.1,U⟩]
       .rw[Tm E,Tm λF=>E ⟨F.1,U⟩]
      .rw[World.cell?_setCell_other _ _ _ _ (by intro e;have:=congrArg Addr.block e;simp at this;omega)]
       exact ay
     case measure=>simp[intOf];omega
    .obtain rfl:x=5:=U
     have K:=al z;have I:=al y;clear z y;go_wp2;go_roundw
     case rel=>
      refine⟨j+1,U,by go_num,K.out,U,?_⟩;rw[<-Ay λi R=>Mb (d:=d) (k:=k) (i:=j) i R];exact I.out
     case measure=>simp[intOf];omega
  .obtain rfl:j=d.bk:=U
   have nE:=m.cell aq.out aF;have ew:=m.cell J.out aF;have fr:=(H.out.keep m).free;have l:=al m;have n:=al g;clear m g;by_cases G:d.b'=0
   .rw[G]at nE
    have mq:jg (cX d k)=jg (mQ d k d.bk):=Ay λi _=>by unfold cX;rw[G];rfl
    go_wp2;go_loopw [38] (λi w2=>i=ah 0/\w.grownBy w2 none/\w.heap.size<w2.heap.size/\w2.heap[w.heap.size]?=some (.cells (jg (cX d k)) 129)) (λ_ _=>0)
    case atStart=>exact⟨S6,l.out,u,by rw[mq];exact n.out⟩
    case round=>
     clear l n;obtain⟨rfl,m,u,g⟩:=hrel;have l:=al m;have ew:=l.out.cell J.out aF;have cb:=l.out.cell M.out aF;have f0:=mL g (j:=0) U;have f1:=mL g (j:=1) U;have f2:=mL g (j:=2) U;have f3:=mL g (j:=3) U;have f4:=mL g (j:=4) U;have f:=(l.out.block T af aF).trans Y.out;have L:=al f;have W:=X.out;let⟨v0,aG⟩:=nP (o:=13+k*5) f U;let⟨v1,aH⟩:=nP (o:=13+k*5+1) f U;let⟨v2,aI⟩:=nP (o:=13+k*5+2) f U;let⟨v3,aJ⟩:=nP (o:=13+k*5+3) f U;let⟨v4,aK⟩:=nP (o:=13+k*5+4) f U;have z0:=b3 (o:=13+k*5) f;have aL:=b3 (o:=13+k*5+1) f;have aM:=b3 (o:=13+k*5+2) f;have z3:=b3 (o:=13+k*5+3) f;have z4:=b3 (o:=13+k*5+4) f;clear m g f W;go_wp2;go_region
     go_end0;exact⟨S6,EU (cX d k) L.out l.out⟩
   .let⟨b,o,e,aC⟩:=fr G
    rw[e]at nE;let⟨aN,aW,D,ai⟩:=H.out.free G;rw[e]at D;injection D with D
    injection D with ar au av
    subst ar;subst au;have am:=al ai;clear aC ai fr e av;go_wp2;go_loopw [38] (λi w2=>∃j:Nat,j<=d.b'/\i=ah j/\w.grownBy w2 none/\w.heap.size<w2.heap.size/\w2.heap[w.heap.size]?=some (.cells (jg (te d k j)) 129)) (λi _=>d.b'-(intOf i).toNat)
    case atStart=>exact⟨0,U,by go_num,l.out,u,n.out⟩
    case round=>
     clear l n u;obtain⟨j,az,rfl,m,u,g⟩:=hrel;by_cases r:j<d.b'
     .have V:=Z.out.free j r
      obtain⟨a,q⟩:∃a:Nat,d.free j=a:=⟨(d.free j).toNat,U⟩
      have Q:a<5:=U;have P:=am.out j r;have P:=m.cell P aF;rw[q]at P;have aw:=b3 (o:=a) g;have aE:=mL g Q;have l:=al m;have n:=al g;have B:=al q;clear m g q V;go_wp2;go_roundw
      case rel=>
       refine⟨j+1,U,by go_num,lW l.out bg,by rw[size_set];exact u,Fo n.out Q ?_ λi R aD=>?_⟩
       .rw[te,Tq B.out]
       .rw[te,Tm]
        rw[B.out];omega
      case measure=>simp[intOf];omega
     .obtain rfl:j=d.b':=U
      replace g:wr.heap[w.heap.size]?=some (.cells (jg (cX d k)) 129):=g;have l:=al m;have ew:=l.out.cell J.out aF;have cb:=l.out.cell M.out aF;have f0:=mL g (j:=0) U;have f1:=mL g (j:=1) U;have f2:=mL g (j:=2) U;have f3:=mL g (j:=3) U;have f4:=mL g (j:=4) U;have f:=(l.out.block T af aF).trans Y.out;have L:=al f;have W:=X.out;let⟨v0,aG⟩:=nP (o:=13+k*5) f U;let⟨v1,aH⟩:=nP (o:=13+k*5+1) f U;let⟨v2,aI⟩:=nP (o:=13+k*5+2) f U;let⟨v3,aJ⟩:=nP (o:=13+k*5+3) f U;let⟨v4,aK⟩:=nP (o:=13+k*5+4) f U;have z0:=b3 (o:=13+k*5) f;have aL:=b3 (o:=13+k*5+1) f;have aM:=b3 (o:=13+k*5+2) f;have z3:=b3 (o:=13+k*5+3) f;have z4:=b3 (o:=13+k*5+4) f;clear m g f W;go_wp2;go_region
      go_end0;exact⟨S6,EU (cX d k) L.out l.out⟩
def LM[P:hA A](a:TD)(w:S7)(c:w.cell? a=some (.int .i32 0))(d:w.frozen? a=false):Calls (ao A) 134 #[.pointer (some a)] w λe w'=>e=.returned (.tuple #[])/\w'=w.setCell a (.int .i32 1):=by
 go_enter (show(ao A).funcs[134]?=some sX from P.f141),(show sX.ntmps=13 from S6)
 unfold tc yZ Ad Ae Af;go_wp2;refine bodyPost_ret (results_none S6 _ _ _) S6 ?_;exact⟨S6,S6⟩
def RD[P:hA A](a:TD)(w:S7)(c:w.cell? a=some (.int .i32 1))(d:w.frozen? a=false):Calls (ao A) 135 #[.pointer (some a)] w λe w'=>e=.returned (.tuple #[])/\w'=w.setCell a (.int .i32 0):=by
 go_enter (show(ao A).funcs[135]?=some sY from P.f142),(show sY.ntmps=21 from S6)
 unfold tc yZ Ad Ae Af;go_wp2;refine bodyPost_ret (results_none S6 _ _ _) S6 ?_;exact⟨S6,S6⟩
def LH[S:Std A][P:hA A](a:TD)(w:S7)(c:w.cell? a=some (.int .i32 0))(d:w.frozen? a=false):Calls (ao A) 102 #[.pointer (some a)] w λe w'=>e=.returned (.tuple #[])/\w'=w.setCell a (.int .i32 1):=by
 go_enter (S.f func102),ntmps102;go_wp2_with (go_at_call 134;refine(LM a _ c d).mono ?_;rintro e w' ⟨rfl,rfl⟩)
 go_end0;exact⟨S6,S6⟩
def RB[S:Std A][P:hA A](a:TD)(u:FrameMode)(w:S7)(c:w.cell? a=some (.int .i32 1))(d:w.frozen? a=false):
 CallsD (ao A) 103 #[.pointer (some a)] u w λe aC w'=>aC=u/\(e=.returned (.tuple #[])/\w'=w.setCell a (.int .i32 0)):=by
 go_enter_d (S.f func103),ntmps103
 go_wp2_with (go_at_call 135;refine(RD a _ c d).mono ?_;rintro e w' ⟨rfl,rfl⟩)
 go_end0;exact⟨S6,S6⟩
def HM[S:Std A](w:S7):Calls (ao A) 137 #[.bool true] w λe w'=>e=.returned (.int .u32 1)/\w=w':=by go_enter (S.f func137),ntmps137;go_wp2;go_ret;exact⟨S6,S6⟩
def QA[S:Std A][P:hA A](a:TD)(x:S9)(u:FrameMode)(w:S7)(f:w.cell? a=some x)(h:w.frozen? a=false):
 CallsD (ao A) 104 #[.pointer (some a),.bool true] u w λe aC w'=>aC=u/\(e=.returned (.tuple #[])/\w'=w.drew.setCell a (.int .u32 1)):=by
 have c:w.drew.cell? a=some x:=by go_simp
 have d:w.drew.frozen? a=false:=by go_simp
 have g:=run_call_store (P:=ao A) P.f143 av av av av (k:=.u32) (y:=1) c d;go_enter_d (S.f func104),ntmps104
 go_wp2;go_region_with (go_at_call 137;refine(HM _).mono ?_;rintro e w' ⟨rfl,rfl⟩)
 all_goals (go_end0;exact⟨S6,S6⟩)
def zM[S:Std A][P:hA A](a:TD)(b:Ta)(w:S7)(c:w.cell? a=some (.int .u32 (if b then 1 else 0))):Calls (ao A) 87 #[.pointer (some a)] w λe w'=>e=.returned (.bool b)/\w=w':=by
 cases b
 .have d:=run_call_load (P:=ao A) P.f116 av av av .u32 av (x:=0) c
  go_enter (S.f func87),ntmps87;go_wp2;go_ret;exact⟨S6,S6⟩
 .have d:=run_call_load (P:=ao A) P.f116 av av av .u32 av (x:=1) c
  go_enter (S.f func87),ntmps87;go_wp2;go_ret;exact⟨S6,S6⟩
def od{c:Te}{x:S9}(h:c[j]?=some x)(d:i≠j):(c.setIfInBounds i v)[j]?=some x:=by rw[h7 d];exact h
def O6[S:Std A][P:hA A](T o bG bH:Nat)(c d:Te)(w:S7)(h:w.heap[T]?=some (.cells c 132))(q:c[o]?=some (.int .u32 0))(r:c[o+1]?=some (.int .i32 0))(I:d[o]?=some (.int .u32 0))(J:d[o+1]?=some (.int .i32 1))(y:∀W,W.heap[T]?=some (.cells (c.setIfInBounds (o+1) (.int .i32 1)) 132)->w.grownBy W (some T)->Calls (ao A) 70 #[Tj bG,Tj bH] W λe w'=>e=.returned (.tuple #[])/\w'.heap[T]?=some (.cells d 132)/\W.grownBy w' (some T)):
 Calls (ao A) 88 #[T1 T o,.func (.func 70) #[] #[Tj bG,Tj bH]] w λe w'=>e=.returned (.tuple #[])/\w'.heap[T]?=some (.cells ((d.setIfInBounds o (.int .u32 1)).setIfInBounds (o+1) (.int .i32 0)) 132)/\w.grownBy w' (some T):=by
 have G:w.cell? (S8 T (o+1))=some (.int .i32 0):=by rw[aU h];exact r
 have H:=b3 (o:=o+1) h;have mf:=cU (o:=o+1) (v:=.int .i32 1) h;have i:w.grownBy (w.setCell (S8 T (o+1)) (.int .i32 1)) (some T):=e7 (e6 _ _);have d0:(w.setCell (S8 T (o+1)) (.int .i32 1)).cell? (S8 T o)=some (.int .u32 0):=by rw[aU mf];exact od q U
 have B:=al (y _ mf i);have C:=al i;clear y mf i h q r;go_enter_defers (S.f func88),ntmps88
 go_wp2_with (first|(go_at_call 102;refine(LH _ _ G H).mono ?_;rintro e w' ⟨rfl,rfl⟩)|(go_at_call 87;refine(zM _ false _ d0).mono ?_;rintro e w' ⟨rfl,rfl⟩)|(go_at_call 70;refine B.out.mono ?_;rintro e l ⟨rfl,u,z⟩;have j:=al u;have D:=al z;clear u z))
 go_wp2;have p:l.cell? (S8 T o)=some (.int .u32 0):=by rw[aU j.out];exact I
 refine leaves_cons (f:=104) (args:=#[T1 T o,.bool true]) aF (by simp[go_sem]) ?_;refine(QA (S8 T o) _ .returning _ p (b3 j.out)).mono ?_;rintro e aC K ⟨rfl,rfl,rfl⟩;have g:(l.drew.setCell (S8 T o) (.int .u32 1)).heap[T]?=some (.cells (d.setIfInBounds o (.int .u32 1)) 132):=cU (w:=l.drew) j.out;refine leaves_cons (f:=103) (args:=#[T1 T (o+1)]) (by simp[settle]) (by simp[go_sem]) ?_;refine(RB (S8 T (o+1)) _ _ (by rw[aU g];exact od J U) (b3 g)).mono ?_;rintro e aC L ⟨rfl,rfl,rfl⟩;have m:=cU (o:=o+1) (v:=.int .i32 0) g;have n:=e7 (T:=T) (o:=o+1) (v:=.int .i32 0) (e7 (T:=T) (o:=o) (v:=.int .u32 1) (gv (C.out.trans D.out)));have E:=al m;have F:=al n;clear m n g p;simp[Leaves,settle,results,Tryz.results88];exact⟨E.out,F.out⟩
def I'[S:Std A][P:hA A](T o bG bH:Nat)(c d:Te)(w:S7)(g:w.heap[T]?=some (.cells c 132))(f:c[o]?=some (.int .u32 0))(h:c[o+1]?=some (.int .i32 0))(i:d[o]?=some (.int .u32 0))(j:d[o+1]?=some (.int .i32 1))(m:∀W,W.heap[T]?=some (.cells (c.setIfInBounds (o+1) (.int .i32 1)) 132)->w.grownBy W (some T)->Calls (ao A) 70 #[Tj bG,Tj bH] W λe w'=>e=.returned (.tuple #[])/\w'.heap[T]?=some (.cells d 132)/\W.grownBy w' (some T)):
 Calls (ao A) 69 #[T1 T o,.func (.func 70) #[] #[Tj bG,Tj bH]] w λe w'=>e=.returned (.tuple #[])/\w'.heap[T]?=some (.cells ((d.setIfInBounds o (.int .u32 1)).setIfInBounds (o+1) (.int .i32 0)) 132)/\w.grownBy w' (some T):=by
 have d0:w.cell? (S8 T o)=some (.int .u32 0):=by rw[aU g];exact f
 have q:=al (O6 T o bG bH c d w g f h i j m);clear m g f h i j;go_enter (S.f func69),ntmps69;go_wp2_with (first|(go_at_call 87;refine(zM _ false _ d0).mono ?_;rintro e w' ⟨rfl,rfl⟩)|(go_at_call 88;refine q.out.mono ?_;rintro e u ⟨rfl,l,n⟩;have r:=al l;have p:=al n;clear l n))
 go_end0;exact⟨S6,r.out,p.out⟩
def I9[S:Std A][P:hA A](a:TD)(c:S9)(w:S7)(d:w.cell? a=some (.int .u32 1)):Calls (ao A) 69 #[.pointer (some a),c] w λe w'=>e=.returned (.tuple #[])/\w=w':=by
 go_enter (S.f func69),ntmps69;go_wp2_with (go_at_call 87;refine(zM _ true _ d).mono ?_;rintro e w' ⟨rfl,rfl⟩)
 go_end0;exact⟨S6,S6⟩
end
end Go.aO
