/- A part. -/
import Derived.Test.YtejkocoljbaioaaGreatDoorP15
import Derived.BigRegion
import Derived.Defers
import Derived.Laws.LoneSync
import Derived.RegionTactic
import Derived.RegionCalls
import Derived.Deep.RegionWith
set_option maxHeartbeats 8000000
set_option maxRecDepth 100000
set_option linter.all false
namespace Go.aO
attribute [-simp] Go.Sem.runT_eq
open Go.Proofs
def Ed(fn:Func):Func:={gM fn with endLine:=1000000008}
def E8{Spec:FuncId->Func->Func->Prop}{P:Program}{f:FuncId}{fn:Func}(c:fn.body=none):kz Spec P f (Ed fn):=uO c rfl rfl
def Eu:Array Oper:=#[⟨some 0,.assign (.const (.bool true)),4,"",#[],none⟩]
def xX:Code:=.seq (.region 0 Eu false) .ret
noncomputable def xD:Func:={Tryz.f5 with body:=some xX,nfree:=0,endLine:=1000000007}
noncomputable def AL:List (Nat×Func):=(1,Ed Tryz.f1)::(5,xD)::(40,l7)::xM
def Fq:List Nat:=80::AA
noncomputable def bC.list:List Func:=mix AL Fq 0 aK.funcs.toList
noncomputable def bC:Program:=⟨Tryz.progTables,(bC.list).toArray⟩
def bC.K:g8 bC aK:=⟨λ_ _ _=>False,λf=>f=71\/f=128\/f=129\/f=5\/f=40⟩
def bC.H:fe (fj bC.K) bC aK:=
 zS (sp:=AL) (rs:=Fq) rfl av ⟨⟨rfl,E8 rfl⟩,⟨rfl,o' (.inr (.inr (.inr (.inl rfl)))) Tryz.func5 rfl rfl rfl rfl⟩,⟨rfl,o' (.inr (.inr (.inr (.inr rfl)))) Tryz.func40 rfl rfl rfl rfl⟩,⟨rfl,o' (.inl rfl) Tryz.func71 rfl rfl rfl rfl⟩,⟨rfl,xv Tryz.func103⟩,⟨rfl,o' (.inr (.inl rfl)) Tryz.func128 rfl rfl rfl rfl⟩,⟨rfl,o' (.inr (.inr (.inl rfl))) Tryz.func129 rfl rfl rfl rfl⟩,⟨rfl,xw Tryz.func130⟩,trivial⟩ av
def bC.ek:fe (fj (jv bC)) bC bC:=
 AE (sp:=AL) ⟨⟨rfl,E8 rfl⟩,⟨rfl,nt av av⟩,⟨rfl,nt av av⟩,⟨rfl,nt av av⟩,⟨rfl,xv av⟩,⟨rfl,nt av av⟩,⟨rfl,nt av av⟩,⟨rfl,xw av⟩,trivial⟩ ⟨av,av,av,av,av,av,av,av,trivial⟩ av
def bC.S:Same bC aK:=⟨rfl⟩
def bC.o5:je bC=none:=av
def bC.eb:eK bC 71=some 2/\eK bC 128=some 1/\eK bC 129=some 1/\eK bC 5=some 0/\eK bC 40=some 1:=⟨av,av,av,av,av⟩
instance bC.Gd:Std bC.list.toArray:=zT (by kernel_rfl)
instance bC.Qx:jx bC.list.toArray:=⟨by kernel_rfl,by kernel_rfl,by kernel_rfl⟩
end Go.aO
namespace Go.aO
open Go.Proofs Go.RowKit
variable{B T i j k o:Nat}{f g:Nat->Int}{row:Option Nat}{v:Value}{w wr:World}
section
variable{A:Array Func}
class hA(A:Array Func):Prop where
 f51:A[42]?=some Tryz.f42
 f75:A[71]?=some rq
 f116:A[103]?=some Tryz.f103
 f143:A[130]?=some Tryz.f130
 f141:A[128]?=some sX
 f142:A[129]?=some sY
 h6:∀w,Calls (ao A) 40 #[.nilIface] w λe w'=>e=.returned (ah 0)/\w.grownBy w' none
def vG[S:Std A](b o n c:Nat)(E:n<=8)(w:World)(num most bq:Nat->Int)(h:∀i,i<n->w.cell? ⟨b,o+i*3,none⟩=some (ah (num i)))(j:∀i,i<n->w.cell? ⟨b,o+i*3+1,none⟩=some (ah (most i)))(l:∀i,i<n->w.cell? ⟨b,o+i*3+2,none⟩=some (ah (bq i)))(z:∀i,i<n->0<=num i/\num i<=most i):
 Calls (ao A) 41 #[.slice (some ⟨b,o,none⟩) n c] w λe w'=>e=.returned .nilIface/\w.grownBy w' none:=by
 have ek:=al h;have q:=al j;have r:=al l;clear h j l;go_enter (S.f Tryz.func41),Tryz.ntmps41;go_wp2;go_loopw [7] (λi wr=>∃k:Nat,k<=n/\i=ah k/\w.grownBy wr none) (λi _=>n-(intOf i).toNat)
 case atStart=>exact⟨0,U,by go_num,e6 _ _⟩
 case round=>
  obtain⟨k,D,rfl,d⟩:=hrel;by_cases f:k<n
  .have bx:=d.cell (ek.out k f) aF
   have B:=d.cell (q.out k f) aF;have C:=d.cell (r.out k f) aF;have p:=z k f;have u:decide (0<=num k/\num k<=most k)=true:=by simp[p.1,p.2]
   have g:=al d;clear d;go_wp2_with (go_at_call 51;refine(ku _ _ _ _).mono ?_;rintro e w' ⟨rfl,rfl⟩;rw[u])
   go_roundw
   case rel=>exact⟨k+1,U,by go_num,g.out.trans bT⟩
   case measure=>simp[intOf];omega
  .have g:=al d
   clear d;go_wp2;go_ret;exact⟨rfl,g.out⟩
def Jw[S:Std A](d:A[40]?=some Tryz.f40)(f:A[71]?=some rq)(w:World):Calls (ao A) 40 #[.nilIface] w λe w'=>e=.returned (ah 0)/\w.grownBy w' none:=by
 have c:=al λ(x:Value) (w:World)=>show Calls (ao A) 71 #[.nilIface,x] w λe w'=>e=.returned (.bool false)/\w=w' from by
  go_enter (show(ao A).funcs[71]?=some rq from f),(show rq.ntmps=42 from rfl)
  unfold xW Cw Er Es;go_wp2;go_ret;exact⟨rfl,rfl⟩
 go_enter (show(ao A).funcs[40]?=some Tryz.f40 from d),Tryz.ntmps40;go_wp2_with (go_at_call 71;refine(c.out _ _).mono ?_;rintro e w' ⟨rfl,rfl⟩)
 go_ret;exact⟨rfl,bT⟩
def v'[P:hA A](w:World):Calls (ao A) 40 #[.nilIface] w λe w'=>e=.returned (ah 0)/\w.grownBy w' none:=P.h6 w
class Hi(A:Array Func):Prop where
 iy:∀k c w,(k,c)∈pQ->Calls (ao A) 40 #[.iface 152 (.agg #[ah k])] w λe w'=>e=.returned (ah c)/\w.grownBy w' none
@[simp] theorem ao.S5(k:Int)(w:World):Sem.run (ao A) (Instr.typeAssert (.iface 152 (.agg #[ah k])) 81 152 true) w=Result.ok (.tuple #[.agg #[ah k],.bool true]) w:=av
@[simp] theorem ao.SU(k:Int)(w:World):Sem.run (ao A) (Instr.field 152 (.agg #[ah k]) 0) w=Result.ok (ah k) w:=av
def Oi[S:Std A](c:A[40]?=some l7)(w:World):Calls (ao A) 40 #[.nilIface] w λe w'=>e=.returned (ah 0)/\w.grownBy w' none:=by
 go_enter (show(ao A).funcs[40]?=some l7 from c),(show l7.ntmps=9 from rfl)
 unfold uY kO j3;go_wp2;go_ret;exact⟨rfl,e6 _ _⟩
def Oh[S:Std A](d:A[40]?=some l7)(k c:Int)(w:World)(h:(k,c)∈pQ):Calls (ao A) 40 #[.iface 152 (.agg #[ah k])] w λe w'=>e=.returned (ah c)/\w.grownBy w' none:=by
 simp only[pQ,List.mem_cons,Prod.mk.injEq,iN,or_false]at h;rcases h with⟨rfl,rfl⟩|⟨rfl,rfl⟩|⟨rfl,rfl⟩|⟨rfl,rfl⟩|⟨rfl,rfl⟩
 all_goals (
  go_enter (show(ao A).funcs[40]?=some l7 from d),(show l7.ntmps=9 from rfl)
  unfold uY kO j3 pQ;simp only[tR,kO,j3];go_wp2;go_ret;exact⟨rfl,bT⟩)
def mQ(d:cC)(k:Nat):Nat->Nat->Int
 | 0,_=>0
 |i+1,day=>if d.bV i<=day then d.cQ i k else mQ d k i day
def te(d:cC)(k:Nat):Nat->Nat->Int
 | 0,day=>mQ d k d.bk day
 |j+1,day=>if d.free j=day then 0 else te d k j day
def cX(d:cC)(k:Nat)(day:Nat):Int:=te d k d.b' day
def jg(f:Nat->Int):Array Value:=#[ah (f 0),ah (f 1),ah (f 2),ah (f 3),ah (f 4)]
def Fo{v:Int}(h:w.heap[B]?=some (.cells (jg f) 97))(l:j<5)(d:g j=v)(c:∀i,i<5->i≠j->g i=f i):(w.setCell ⟨B,j,none⟩ (ah v)).heap[B]?=some (.cells (jg g) 97):=by
 rw[cU h];congr 2;rcases j with _|_|_|_|_|j
 .simp[jg,d,c]
 .simp[jg,d,c]
 .simp[jg,d,c]
 .simp[jg,d,c]
 .simp[jg,d,c]
 .omega
def mL(h:w.heap[B]?=some (.cells (jg f) 97))(c:j<5):w.cell? ⟨B,j,none⟩=some (ah (f j)):=by
 rw[aU h];rcases j with _|_|_|_|_|j
 .rfl
 .rfl
 .rfl
 .rfl
 .rfl
 .omega
def q9(d:cC)(k i cur:Nat)(day:Nat):Int:=if d.bV i<=day/\day<cur then d.cQ i k else mQ d k i day
def Mb{d:cC}(day:Nat)(h:day<5):q9 d k i 5 day=mQ d k (i+1) day:=by
 unfold q9;rw[mQ];by_cases c:d.bV i<=day
 .rw[if_pos ⟨c,h⟩,if_pos c]
 .rw[if_neg (λx=>c x.1),if_neg c]
def Ay(h:∀i,i<5->f i=g i):jg f=jg g:=by simp[jg,h]
def nP{b:Nat}{c:Array Value}{e:TypeId}{f:Nat×Nat}(h:w.heap[b]?=some (.cells c e f))(d:o<c.size):∃v,w.cell? ⟨b,o,none⟩=some v:=⟨c[o],by rw[aU h];exact fb d⟩
def lW{a:Addr}(h:w.grownBy wr row)(f:w.heap.size<=a.block):w.grownBy (wr.setCell a v) row where
 os:=h.os
 tape:=h.tape
 output:=h.output
 size:=cL h.size (Nat.le_of_eq aF)
 block k c d:=(e1 U).trans (h.block k c d)
def nf(row:Option Nat)(h:w.grownBy wr none):w.grownBy wr row:=⟨h.os,h.tape,h.output,h.size,λk c _=>h.block k c aF⟩
def e7(h:w.grownBy wr (some T)):w.grownBy (wr.setCell ⟨T,o,none⟩ v) (some T) where
 os:=h.os
 tape:=h.tape
 output:=h.output
 size:=cL h.size (Nat.le_of_eq aF)
 block k d c:=(e1 (by intro e;exact c (by rw[e]))).trans (h.block k d c)
def size_set(w:World)(a:Addr)(v:Value):(w.setCell a v).heap.size=w.heap.size:=aF
def oL(X:World):X.drew.heap=X.heap:=rfl
def gv{a b:World}(h:a.grownBy b row):a.grownBy b.drew row:=⟨h.os,h.tape,h.output,h.size,h.block⟩
def EU{c:Array Value}(t:Nat->Int)(h:wr.heap[T]?=some (.cells c 100))(g:w.grownBy wr none):
 (((((wr.setCell ⟨T,13+k*5,none⟩ (ah (t 0))).setCell ⟨T,13+k*5+1,none⟩ (ah (t 1))).setCell ⟨T,13+k*5+2,none⟩ (ah (t 2))).setCell ⟨T,13+k*5+3,none⟩ (ah (t 3))).setCell ⟨T,13+k*5+4,none⟩ (ah (t 4))).drew.heap[T]?=some (.cells (((((c.setIfInBounds (13+k*5) (ah (t 0))).setIfInBounds (13+k*5+1) (ah (t 1))).setIfInBounds (13+k*5+2) (ah (t 2))).setIfInBounds (13+k*5+3) (ah (t 3))).setIfInBounds (13+k*5+4) (ah (t 4))) 100)/\
 w.grownBy (((((wr.setCell ⟨T,13+k*5,none⟩ (ah (t 0))).setCell ⟨T,13+k*5+1,none⟩ (ah (t 1))).setCell ⟨T,13+k*5+2,none⟩ (ah (t 2))).setCell ⟨T,13+k*5+3,none⟩ (ah (t 3))).setCell ⟨T,13+k*5+4,none⟩ (ah (t 4))).drew (some T):=by
 have d:=cU (o:=13+k*5) (v:=ah (t 0)) h;have mf:=cU (o:=13+k*5+1) (v:=ah (t 1)) d;have f:=cU (o:=13+k*5+2) (v:=ah (t 2)) mf;have i:=cU (o:=13+k*5+3) (v:=ah (t 3)) f;have j:=cU (o:=13+k*5+4) (v:=ah (t 4)) i;have F:=e7 (T:=T) (o:=13+k*5+4) (v:=ah (t 4)) (e7 (T:=T) (o:=13+k*5+3) (v:=ah (t 3)) (e7 (T:=T) (o:=13+k*5+2) (v:=ah (t 2)) (e7 (T:=T) (o:=13+k*5+1) (v:=ah (t 1)) (e7 (T:=T) (o:=13+k*5) (v:=ah (t 0)) (nf (some T) g)))));exact⟨by rw[oL];exact j,gv F⟩
def IP[S:Std A](d:cC)(ok:d.ok)(p:eg)(k:Nat)(aD:k<d.kinds)(T bG bH:Nat)(w:World)(h:e' w d p)(f:w.cell? ⟨bG,0,none⟩=some (.pointer (some ⟨T,0,none⟩)))(aA:w.cell? ⟨bH,0,none⟩=some (ah k))(aT:bG<w.heap.size)(aS:bH<w.heap.size)(c:Array Value)(ak:c.size=28)(F:w.heap[T]?=some (.cells c 100))(J:c[2]?=some (.slice (some ⟨p.fV,p.gU,none⟩) d.bk p.dq))(ai:c[3]?=some (.slice p.ei d.b' p.dc)):
 Calls (ao A) 74 #[.pointer (some ⟨bG,0,none⟩),.pointer (some ⟨bH,0,none⟩)] w λe w'=>e=.returned (.tuple #[])/\w'.heap[T]?=some (.cells (((((c.setIfInBounds (13+k*5) (ah (cX d k 0))).setIfInBounds (13+k*5+1) (ah (cX d k 1))).setIfInBounds (13+k*5+2) (ah (cX d k 2))).setIfInBounds (13+k*5+3) (ah (cX d k 3))).setIfInBounds (13+k*5+4) (ah (cX d k 4))) 100)/\w.grownBy w' (some T):=by
 have aV:=ok.kinds;have aW:=ok.bk;have aX:=ok.b';have ae:=al ok;clear ok;have aj:=bu F;have ag:=dU w (.cells #[ah 0,ah 0,ah 0,ah 0,ah 0] 97) none;have af:=fM w (.cells #[ah 0,ah 0,ah 0,ah 0,ah 0] 97);have t2:w.cell? ⟨T,2,none⟩=some (.slice (some ⟨p.fV,p.gU,none⟩) d.bk p.dq):=by rw[aU F];exact J
 have t3:w.cell? ⟨T,3,none⟩=some (.slice p.ei d.b' p.dc):=by rw[aU F];exact ai
 have H:=al h;have ad:=al F;have aa:=al ak;have aq:=al af;have au:=al ag;have av:=al t3;have R:=al aA;have M:=al f;clear h F ak J ai af ag;go_enter (S.f Tryz.func74),Tryz.ntmps74;go_wp2;go_loopw [14] (λi wr=>∃j:Nat,j<=d.bk/\i=ah j/\w.grownBy wr none/\w.heap.size<wr.heap.size/\wr.heap[w.heap.size]?=some (.cells (jg (mQ d k j)) 97)) (λi _=>d.bk-(intOf i).toNat)
 case atStart=>exact⟨0,U,by go_num,au.out,by rw[cV];omega,aq.out⟩
 case round=>
  obtain⟨j,aC,rfl,q,B,g⟩:=hrel;by_cases z:j<d.bk
  .have r1:=(H.out.keep q).bV j z
   have a1:=(H.out.keep q).rows j z;have Y:=ae.out.bV j z;obtain⟨a,u⟩:∃a:Nat,d.bV j=a:=⟨(d.bV j).toNat,U⟩
   have W:a<5:=U;rw[u]at r1;have l:=al q;have r:=al g;have E:=al u;clear q g u Y;go_wp2;go_loopw [5] (λv w2=>∃x:Nat,a<=x/\x<=5/\v=ah x/\w.grownBy w2 none/\wr.heap.size<w2.heap.size/\w2.heap[w.heap.size]?=some (.cells (jg (q9 d k j x)) 97)/\w2.cell? ⟨wr.heap.size,1,none⟩=some (.slice (some ⟨p.dj j,p.uG j,none⟩) d.kinds (p.cq j))) (λv _=>5-(intOf v).toNat)
   case atStart=>
    refine⟨a,bg,U,rfl,l.out.trans bT,by rw[cV];omega,?_,dR rfl⟩;have e:jg (q9 d k j a)=jg (mQ d k j):=Ay λi _=>by unfold q9;rw[if_neg];rw[E.out];omega
    rw[e];exact((dU wr _ none).block _ B aF).trans r.out
   case round=>
    obtain⟨x,aR,aY,rfl,D,aE,C,aB⟩:=hrel;by_cases ap:x<5
    .have a0:=(H.out.keep D).cQ j z k aD
     have az:=b3 (o:=x) C;have aI:=mL C ap;have cb:=D.cell R.out aF;have P:=al D;have L:=al C;clear D C;go_wp2;go_roundw
     case rel=>
      refine⟨x+1,U,U,by go_num,lW P.out bg,by rw[size_set];exact aE,Fo L.out ap ?_ λi X aH=>?_,?_⟩
      .unfold q9
       rw[if_pos];rw[E.out];omega
      .unfold q9
       by_cases I:d.bV j<=i/\i<x
       .rw[if_pos I,if_pos ⟨I.1,U⟩]
       .rw[if_neg I,if_neg λJ=>I ⟨J.1,U⟩]
      .rw[World.cell?_setCell_other _ _ _ _ (by intro e;have:=congrArg Addr.block e;simp at this;omega)]
       exact aB
     case measure=>simp[intOf];omega
    .obtain rfl:x=5:=U
     have P:=al D;have L:=al C;clear D C;go_wp2;go_roundw
     case rel=>
      refine⟨j+1,U,by go_num,P.out,U,?_⟩;rw[<-Ay λi X=>Mb (d:=d) (k:=k) (i:=j) i X];exact L.out
     case measure=>simp[intOf];omega
  .obtain rfl:j=d.bk:=U
   have nE:=q.cell av.out aF;have ew:=q.cell M.out aF;have fr:=(H.out.keep q).free;have l:=al q;have r:=al g;clear q g;by_cases K:d.b'=0
   .rw[K]at nE
    have mq:jg (cX d k)=jg (mQ d k d.bk):=Ay λi _=>by unfold cX;rw[K];rfl
    go_wp2;go_loopw [38] (λi w2=>i=ah 0/\w.grownBy w2 none/\w.heap.size<w2.heap.size/\w2.heap[w.heap.size]?=some (.cells (jg (cX d k)) 97)) (λ_ _=>0)
    case atStart=>exact⟨rfl,l.out,B,by rw[mq];exact r.out⟩
    case round=>
     clear l r;obtain⟨rfl,q,B,g⟩:=hrel;have l:=al q;have ew:=l.out.cell M.out aF;have cb:=l.out.cell R.out aF;have f0:=mL g (j:=0) U;have f1:=mL g (j:=1) U;have f2:=mL g (j:=2) U;have f3:=mL g (j:=3) U;have f4:=mL g (j:=4) U;have f:=(l.out.block T aj aF).trans ad.out;have Q:=al f;have Z:=aa.out;obtain⟨v0,aJ⟩:=nP (o:=13+k*5) f U;obtain⟨v1,aK⟩:=nP (o:=13+k*5+1) f U;obtain⟨v2,aL⟩:=nP (o:=13+k*5+2) f U;obtain⟨v3,aM⟩:=nP (o:=13+k*5+3) f U;obtain⟨v4,aN⟩:=nP (o:=13+k*5+4) f U;have z0:=b3 (o:=13+k*5) f;have aO:=b3 (o:=13+k*5+1) f;have aP:=b3 (o:=13+k*5+2) f;have z3:=b3 (o:=13+k*5+3) f;have z4:=b3 (o:=13+k*5+4) f;clear q g f Z;go_wp2;go_region
     go_end0;exact⟨rfl,EU (cX d k) Q.out l.out⟩
   .obtain⟨b,o,e,aG⟩:=fr K
    rw[e]at nE;obtain⟨aQ,aZ,G,am⟩:=H.out.free K;rw[e]at G;injection G with G
    injection G with aw ax ay
    subst aw;subst ax;have ar:=al am;clear aG am fr e ay;go_wp2;go_loopw [38] (λi w2=>∃j:Nat,j<=d.b'/\i=ah j/\w.grownBy w2 none/\w.heap.size<w2.heap.size/\w2.heap[w.heap.size]?=some (.cells (jg (te d k j)) 97)) (λi _=>d.b'-(intOf i).toNat)
    case atStart=>exact⟨0,U,by go_num,l.out,B,r.out⟩
    case round=>
     clear l r B;obtain⟨j,aC,rfl,q,B,g⟩:=hrel;by_cases z:j<d.b'
     .have Y:=ae.out.free j z
      obtain⟨a,u⟩:∃a:Nat,d.free j=a:=⟨(d.free j).toNat,U⟩
      have W:a<5:=U;have V:=ar.out j z;have V:=q.cell V aF;rw[u]at V;have az:=b3 (o:=a) g;have aI:=mL g W;have l:=al q;have r:=al g;have E:=al u;clear q g u Y;go_wp2;go_roundw
      case rel=>
       refine⟨j+1,U,by go_num,lW l.out bg,by rw[size_set];exact B,Fo r.out W ?_ λi X aH=>?_⟩
       .rw[te,if_pos E.out]
       .rw[te,if_neg]
        rw[E.out];omega
      case measure=>simp[intOf];omega
     .obtain rfl:j=d.b':=U
      replace g:wr.heap[w.heap.size]?=some (.cells (jg (cX d k)) 97):=g;have l:=al q;have ew:=l.out.cell M.out aF;have cb:=l.out.cell R.out aF;have f0:=mL g (j:=0) U;have f1:=mL g (j:=1) U;have f2:=mL g (j:=2) U;have f3:=mL g (j:=3) U;have f4:=mL g (j:=4) U;have f:=(l.out.block T aj aF).trans ad.out;have Q:=al f;have Z:=aa.out;obtain⟨v0,aJ⟩:=nP (o:=13+k*5) f U;obtain⟨v1,aK⟩:=nP (o:=13+k*5+1) f U;obtain⟨v2,aL⟩:=nP (o:=13+k*5+2) f U;obtain⟨v3,aM⟩:=nP (o:=13+k*5+3) f U;obtain⟨v4,aN⟩:=nP (o:=13+k*5+4) f U;have z0:=b3 (o:=13+k*5) f;have aO:=b3 (o:=13+k*5+1) f;have aP:=b3 (o:=13+k*5+2) f;have z3:=b3 (o:=13+k*5+3) f;have z4:=b3 (o:=13+k*5+4) f;clear q g f Z;go_wp2;go_region
      go_end0;exact⟨rfl,EU (cX d k) Q.out l.out⟩
def LM[P:hA A](a:Addr)(w:World)(c:w.cell? a=some (.int .i32 0))(d:w.frozen? a=false):Calls (ao A) 128 #[.pointer (some a)] w λe w'=>e=.returned (.tuple #[])/\w'=w.setCell a (.int .i32 1):=by
 go_enter (show(ao A).funcs[128]?=some sX from P.f141),(show sX.ntmps=13 from rfl)
 unfold tc yZ Ad Ae Af;go_wp2;refine bodyPost_ret (results_none rfl _ _ _) rfl ?_;exact⟨rfl,rfl⟩
def RD[P:hA A](a:Addr)(w:World)(c:w.cell? a=some (.int .i32 1))(d:w.frozen? a=false):Calls (ao A) 129 #[.pointer (some a)] w λe w'=>e=.returned (.tuple #[])/\w'=w.setCell a (.int .i32 0):=by
 go_enter (show(ao A).funcs[129]?=some sY from P.f142),(show sY.ntmps=21 from rfl)
 unfold tc yZ Ad Ae Af;go_wp2;refine bodyPost_ret (results_none rfl _ _ _) rfl ?_;exact⟨rfl,rfl⟩
def LH[S:Std A][P:hA A](a:Addr)(w:World)(c:w.cell? a=some (.int .i32 0))(d:w.frozen? a=false):Calls (ao A) 104 #[.pointer (some a)] w λe w'=>e=.returned (.tuple #[])/\w'=w.setCell a (.int .i32 1):=by
 go_enter (S.f Tryz.func104),Tryz.ntmps104;go_wp2_with (go_at_call 128;refine(LM a _ c d).mono ?_;rintro e w' ⟨rfl,rfl⟩)
 go_end0;exact⟨rfl,rfl⟩
def RB[S:Std A][P:hA A](a:Addr)(u:FrameMode)(w:World)(c:w.cell? a=some (.int .i32 1))(d:w.frozen? a=false):
 CallsD (ao A) 105 #[.pointer (some a)] u w λe aC w'=>aC=u/\(e=.returned (.tuple #[])/\w'=w.setCell a (.int .i32 0)):=by
 go_enter_d (S.f Tryz.func105),Tryz.ntmps105
 go_wp2_with (go_at_call 129;refine(RD a _ c d).mono ?_;rintro e w' ⟨rfl,rfl⟩)
 go_end0;exact⟨rfl,rfl⟩
def HM[S:Std A](w:World):Calls (ao A) 131 #[.bool true] w λe w'=>e=.returned (.int .u32 1)/\w=w':=by go_enter (S.f Tryz.func131),Tryz.ntmps131;go_wp2;go_ret;exact⟨rfl,rfl⟩
def QA[S:Std A][P:hA A](a:Addr)(x:Value)(u:FrameMode)(w:World)(f:w.cell? a=some x)(h:w.frozen? a=false):
 CallsD (ao A) 106 #[.pointer (some a),.bool true] u w λe aC w'=>aC=u/\(e=.returned (.tuple #[])/\w'=w.drew.setCell a (.int .u32 1)):=by
 have c:w.drew.cell? a=some x:=by go_simp
 have d:w.drew.frozen? a=false:=by go_simp
 have g:=run_call_store (P:=ao A) P.f143 av av av av (k:=.u32) (y:=1) c d;go_enter_d (S.f Tryz.func106),Tryz.ntmps106
 go_wp2;go_region_with (go_at_call 131;refine(HM _).mono ?_;rintro e w' ⟨rfl,rfl⟩)
 all_goals (go_end0;exact⟨rfl,rfl⟩)
def zM[S:Std A][P:hA A](a:Addr)(b:Bool)(w:World)(c:w.cell? a=some (.int .u32 (if b then 1 else 0))):Calls (ao A) 89 #[.pointer (some a)] w λe w'=>e=.returned (.bool b)/\w=w':=by
 cases b
 .have d:=run_call_load (P:=ao A) P.f116 av av av .u32 av (x:=0) c
  go_enter (S.f Tryz.func89),Tryz.ntmps89;go_wp2;go_ret;exact⟨rfl,rfl⟩
 .have d:=run_call_load (P:=ao A) P.f116 av av av .u32 av (x:=1) c
  go_enter (S.f Tryz.func89),Tryz.ntmps89;go_wp2;go_ret;exact⟨rfl,rfl⟩
def od{c:Array Value}{x:Value}(h:c[j]?=some x)(d:i≠j):(c.setIfInBounds i v)[j]?=some x:=by rw[h7 d];exact h
def O6[S:Std A][P:hA A](T o bG bH:Nat)(c d:Array Value)(w:World)(h:w.heap[T]?=some (.cells c 100))(u:c[o]?=some (.int .u32 0))(z:c[o+1]?=some (.int .i32 0))(L:d[o]?=some (.int .u32 0))(M:d[o+1]?=some (.int .i32 1))(C:∀W,W.heap[T]?=some (.cells (c.setIfInBounds (o+1) (.int .i32 1)) 100)->w.grownBy W (some T)->Calls (ao A) 74 #[.pointer (some ⟨bG,0,none⟩),.pointer (some ⟨bH,0,none⟩)] W λe w'=>e=.returned (.tuple #[])/\w'.heap[T]?=some (.cells d 100)/\W.grownBy w' (some T)):
 Calls (ao A) 90 #[.pointer (some ⟨T,o,none⟩),.func (.func 74) #[] #[.pointer (some ⟨bG,0,none⟩),.pointer (some ⟨bH,0,none⟩)]] w λe w'=>e=.returned (.tuple #[])/\w'.heap[T]?=some (.cells ((d.setIfInBounds o (.int .u32 1)).setIfInBounds (o+1) (.int .i32 0)) 100)/\w.grownBy w' (some T):=by
 have J:w.cell? ⟨T,o+1,none⟩=some (.int .i32 0):=by rw[aU h];exact z
 have K:=b3 (o:=o+1) h;have mf:=cU (o:=o+1) (v:=.int .i32 1) h;have i:w.grownBy (w.setCell ⟨T,o+1,none⟩ (.int .i32 1)) (some T):=e7 (e6 _ _);have d0:(w.setCell ⟨T,o+1,none⟩ (.int .i32 1)).cell? ⟨T,o,none⟩=some (.int .u32 0):=by rw[aU mf];exact od u U
 have E:=al (C _ mf i);have F:=al i;clear C mf i h u z;go_enter_defers (S.f Tryz.func90),Tryz.ntmps90
 go_wp2_with (first|(go_at_call 104;refine(LH _ _ J K).mono ?_;rintro e w' ⟨rfl,rfl⟩)|(go_at_call 89;refine(zM _ false _ d0).mono ?_;rintro e w' ⟨rfl,rfl⟩)|(go_at_call 74;refine E.out.mono ?_;rintro e l ⟨rfl,B,D⟩;have j:=al B;have G:=al D;clear B D))
 go_wp2;have r:l.cell? ⟨T,o,none⟩=some (.int .u32 0):=by rw[aU j.out];exact L
 refine leaves_cons (f:=106) (args:=#[.pointer (some ⟨T,o,none⟩),.bool true]) aF (by simp[go_sem]) ?_;refine(QA ⟨T,o,none⟩ _ .returning _ r (b3 j.out)).mono ?_;rintro e aC Q ⟨rfl,rfl,rfl⟩;have g:(l.drew.setCell ⟨T,o,none⟩ (.int .u32 1)).heap[T]?=some (.cells (d.setIfInBounds o (.int .u32 1)) 100):=cU (w:=l.drew) j.out;refine leaves_cons (f:=105) (args:=#[.pointer (some ⟨T,o+1,none⟩)]) (by simp[settle]) (by simp[go_sem]) ?_;refine(RB ⟨T,o+1,none⟩ _ _ (by rw[aU g];exact od M U) (b3 g)).mono ?_;rintro e aC R ⟨rfl,rfl,rfl⟩;have p:=cU (o:=o+1) (v:=.int .i32 0) g;have q:=e7 (T:=T) (o:=o+1) (v:=.int .i32 0) (e7 (T:=T) (o:=o) (v:=.int .u32 1) (gv (F.out.trans G.out)));have H:=al p;have I:=al q;clear p q g r;simp[Leaves,settle,results,Tryz.results90];exact⟨H.out,I.out⟩
def I'[S:Std A][P:hA A](T o bG bH:Nat)(c d:Array Value)(w:World)(g:w.heap[T]?=some (.cells c 100))(f:c[o]?=some (.int .u32 0))(h:c[o+1]?=some (.int .i32 0))(i:d[o]?=some (.int .u32 0))(j:d[o+1]?=some (.int .i32 1))(p:∀W,W.heap[T]?=some (.cells (c.setIfInBounds (o+1) (.int .i32 1)) 100)->w.grownBy W (some T)->Calls (ao A) 74 #[.pointer (some ⟨bG,0,none⟩),.pointer (some ⟨bH,0,none⟩)] W λe w'=>e=.returned (.tuple #[])/\w'.heap[T]?=some (.cells d 100)/\W.grownBy w' (some T)):
 Calls (ao A) 73 #[.pointer (some ⟨T,o,none⟩),.func (.func 74) #[] #[.pointer (some ⟨bG,0,none⟩),.pointer (some ⟨bH,0,none⟩)]] w λe w'=>e=.returned (.tuple #[])/\w'.heap[T]?=some (.cells ((d.setIfInBounds o (.int .u32 1)).setIfInBounds (o+1) (.int .i32 0)) 100)/\w.grownBy w' (some T):=by
 have d0:w.cell? ⟨T,o,none⟩=some (.int .u32 0):=by rw[aU g];exact f
 have u:=al (O6 T o bG bH c d w g f h i j p);clear p g f h i j;go_enter (S.f Tryz.func73),Tryz.ntmps73;go_wp2_with (first|(go_at_call 89;refine(zM _ false _ d0).mono ?_;rintro e w' ⟨rfl,rfl⟩)|(go_at_call 90;refine u.out.mono ?_;rintro e B ⟨rfl,l,q⟩;have z:=al l;have r:=al q;clear l q))
 go_end0;exact⟨rfl,z.out,r.out⟩
def I9[S:Std A][P:hA A](a:Addr)(c:Value)(w:World)(d:w.cell? a=some (.int .u32 1)):Calls (ao A) 73 #[.pointer (some a),c] w λe w'=>e=.returned (.tuple #[])/\w=w':=by
 go_enter (S.f Tryz.func73),Tryz.ntmps73;go_wp2_with (go_at_call 89;refine(zM _ true _ d).mono ?_;rintro e w' ⟨rfl,rfl⟩)
 go_end0;exact⟨rfl,rfl⟩
end
end Go.aO
