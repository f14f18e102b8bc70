/- A part of FeeSurer: no conditions. -/
import Derived.Test.YtpnmipmngnhemaaGreatDoorP41
set_option maxHeartbeats 8000000
set_option maxRecDepth 100000
set_option linter.all false
namespace Go.aN
open Go.Proofs Go.RowKit
section
variable(F:Array Func)
@[simp] theorem ag.underlying54:(ag F).underlying 42=some (TypeDesc.struct #[⟨ "Kind",3,0,false, "", "",0⟩,⟨ "Left",39,1,false, "", "",8⟩,⟨ "Fetched",39,3,false, "", "",24⟩]):=by kernel_rfl
@[simp] theorem ag.zeroValue4(w:World):Sem.run (ag F) (zeroValue 4) w=Result.ok (Value.bool false) w:=by kernel_rfl
end
section
variable{F:Array Func}[S:Std F]
@[simp] theorem ag.Ri:dg F 21:=dS Tryz.func21
@[simp] theorem ag.Rj:dg F 22:=dS Tryz.func22
@[simp] theorem ag.Rk:dg F 23:=dS Tryz.func23
@[simp] theorem ag.Rl:dg F 46:=dS Tryz.func46
@[simp] theorem ag.Rm:dg F 72:=dS Tryz.func72
@[simp] theorem ag.call31:dg F 20:=dS Tryz.func20
@[simp] theorem ag.call32:dg F 14:=dS Tryz.func14
@[simp] theorem ag.call37:dg F 18:=dS Tryz.func18
@[simp] theorem ag.call55:dg F 69:=dS Tryz.func69
@[simp] theorem ag.call81:dg F 45:=dS Tryz.func45
@[simp] theorem ag.call102:dg F 70:=dS Tryz.func70
@[simp] theorem ag.call103:dg F 71:=dS Tryz.func71
end
end Go.aN
namespace Go.aN
open Go.Proofs Go.RowKit Go.Maps Go.Shelf
section
variable{A:Array Func}
def Q7:((ag A).info? 42).map (·.size)=some 5:=by kernel_rfl
end
end Go.aN
namespace Go.aN
open Go.Proofs Go.RowKit
section
variable{A:Array Func}
def Qa[S:Std A](n b4 aj:Int)(w:World):Calls (ag A) 69 #[.int .i64 n,.int .i64 b4,.int .i64 aj] w λe w'=>e=.returned (.bool (decide (b4<=n/\n<=aj)))/\w=w':=by
 by_cases I:b4<=n
 .by_cases J:n<=aj
  .have e:decide (b4<=n/\n<=aj)=true:=by simp[I,J]
   rw[e];go_enter (S.f Tryz.func69),Tryz.ntmps69;go_wp2;go_ret;exact⟨rfl,rfl⟩
  .have e:decide (b4<=n/\n<=aj)=false:=by simp[J]
   rw[e];go_enter (S.f Tryz.func69),Tryz.ntmps69;go_wp2;go_ret;exact⟨rfl,rfl⟩
 .have e:decide (b4<=n/\n<=aj)=false:=by simp[I]
  rw[e];go_enter (S.f Tryz.func69),Tryz.ntmps69;go_wp2;go_ret;exact⟨rfl,rfl⟩
def Qp[S:Std A](d:cR)(ok:d.ok)(p:dU)(b o c:Nat)(f:Nat->Int)(w:World)(h:iD w b o d.kinds f)(hb:∀k,k<d.kinds->0<=f k/\f k<=9):
 Calls (ag A) 70 #[.agg (cO d p),.slice (some ⟨b,o,none⟩) d.kinds c] w λe w'=>e=.returned (.int .i64 0)/\w.grownBy w' none:=by
 have U:=ok.kinds;have b2:=Pv w (.cells (cO d p) 27) none;have j:=Pj (h.keep b2 (by simp));have g:=Pj b2;have r:decide ((d.kinds:Int)<d.kinds)=false:=by rw[decide_eq_false_iff_not];omega
 clear h b2;go_enter (S.f Tryz.func70),Tryz.ntmps70;go_wp2;go_loop [5] (λi=>∃k:Nat,k<=d.kinds/\i=.int .i64 k) (λi=>d.kinds-(vy i).toNat)
 case atStart=>exact⟨0,by omega,by go_num⟩
 case round=>
  obtain⟨k,q,rfl⟩:=hrel;by_cases aO:k<d.kinds
  .have I:=j.out k aO
   have J:=hb k aO;have ax:decide (0<=f k/\f k<=9)=true:=by simp[J.1,J.2]
   have l:decide ((k:Int)<d.kinds)=true:=by simpa using aO
   go_wp2_with (go_at_call 69;refine(Qa _ _ _ _).mono ?_;rintro e w' ⟨rfl,rfl⟩;rw[ax])
   go_round
   case rel=>exact⟨k+1,by omega,by go_num⟩
   case measure=>simp[vy];omega
  .have l:decide ((k:Int)<d.kinds)=false:=by simpa using aO
   go_wp2;go_ret;exact⟨rfl,g.out⟩
def Q2[S:Std A](d:cR)(ok:d.ok)(p:dU)(i:Nat)(aj:i<d.eY)(w:World)(h:fy w d p):
 Calls (ag A) 71 #[.agg (cO d p),.int .i64 i] w λe w'=>e=.returned (.int .i64 0)/\w.grownBy w' none:=by
 have U:=ok.kinds;have r:=ok.eY;have ao:=ok.dz i aj;have o:decide (0<=d.dz i/\d.dz i<=4)=true:=by simp;omega
 have b2:=Pv w (.cells (cO d p) 27) none;have f:=b2.trans (Pv (w.alloc (.cells (cO d p) 27)) (.cells #[.int .i64 (d.dz i),.slice (some ⟨p.im i,p.sy i,none⟩) d.kinds (p.j' i)] 33) none);have I:=(h.keep b2).dz i aj;have J:=(h.keep b2).rows i aj;have q:=Pj (h.keep f);have l:=Pj ((h.keep f).fD i aj);have g:=Pj f;have c:=Pj ok;have z:(i:Int)<d.eY:=by omega
 have B:(0:Int)<=i:=by omega
 clear b2 f h;rcases i with _|k
 .have z0:d.dz 0=0:=c.out.zero
  rw[z0]at I o;simp only[Nat.zero_mul,Nat.add_zero]at I J;rw[z0]at l g;go_enter (S.f Tryz.func71),Tryz.ntmps71;go_wp2_with (go_at_call 69;refine(Qa _ _ _ _).mono ?_;rintro e w' ⟨rfl,rfl⟩;rw[o])
  go_quiet (fail);go_wp2_with (go_at_call 70;refine(Qp d c.out p _ _ _ (d.fD 0) _ (l.out.keep (hM _ _) (by simp)) (λk U=>c.out.fD 0 aj k U)).mono ?_;rintro e w' ⟨rfl,ae⟩)
  go_ret;exact⟨rfl,(g.out.trans (hM _ _)).trans ae⟩
 .have ax:=q.out.dz k (by omega)
  have aV:=c.out.rP k aj;have bm:=c.out.dz k (by omega);have b':IntKind.i64.wrap (k:Int)=(k:Int):=IntWalk.i64_in _ (by omega);have u:k<d.eY:=by omega
  have C:(k:Int)<(d.eY:Int):=by omega
  have D:(0:Int)<=k:=by omega
  have E:((k:Int)+1 == 0)=false:=by rw[beq_eq_false_iff_ne];omega
  have F:decide ((0:Int)<(k:Int)+1)=true:=by rw[decide_eq_true_iff];omega
  have z3:decide (d.dz (k+1)<=d.dz k)=false:=by rw[decide_eq_false_iff_not];omega
  go_enter (S.f Tryz.func71),Tryz.ntmps71;go_wp2_with (go_at_call 69;refine(Qa _ _ _ _).mono ?_;rintro e w' ⟨rfl,rfl⟩;rw[o])
  go_quiet (fail);go_wp2_with (go_at_call 70;refine(Qp d c.out p _ _ _ (d.fD (k+1)) _ (l.out.keep (hM _ _) (by simp)) (λj aC=>c.out.fD (k+1) aj j aC)).mono ?_;rintro e w' ⟨rfl,ae⟩)
  go_ret;exact⟨rfl,(g.out.trans (hM _ _)).trans ae⟩
def Q1[S:Std A](d:cR)(ok:d.ok)(p:dU)(w:World)(h:fy w d p):
 Calls (ag A) 45 #[.agg (cO d p)] w λe w'=>e=.returned (.int .i64 0)/\w.grownBy w' none:=by
 have U:=ok.kinds;have X:=ok.eY;have Y:=ok.fC;have M:decide ((1:Int)<=d.kinds/\(d.kinds:Int)<=3)=true:=by simp;omega
 have q:=Pj ok;have F:=Pj λ(b o c:Nat) (f:Nat->Int) (w:World) (h:iD w b o d.kinds f) (hb:∀k,k<d.kinds->0<=f k/\f k<=9)=>Qp (A:=A) d ok p b o c f w h hb
 have K:=Pj λ(i:Nat) (aj:i<d.eY) (w:World) (h:fy w d p)=>Q2 (A:=A) d ok p i aj w h
 clear ok;have b2:=Pv w (.cells (cO d p) 27) none;have aP:=h.keep b2;have eo:=Pj aP;have E:=Pj b2;have G:=Pj aP.first
 clear h aP b2;have R:((d.eY:Int) == 0)=false:=by rw[beq_eq_false_iff_ne];omega
 have T:decide ((3:Int)<d.eY)=false:=by rw[decide_eq_false_iff_not];omega
 have V:decide (3<d.eY)=false:=by rw[decide_eq_false_iff_not];omega
 go_enter (S.f Tryz.func45),Tryz.ntmps45;go_upto_region 4 with(first|(go_at_call 69;refine(Qa _ _ _ _).mono ?_;rintro e w' ⟨rfl,rfl⟩;rw[M])|(go_at_call 70;refine(F.out _ _ _ d.first _ G.out (λk U=>q.out.first k U)).mono ?_;rintro e w2 ⟨rfl,ae⟩;have u:=Pj ae;clear ae))
 have C:w2.cell? ⟨w.heap.size,2,none⟩=some (.slice (some ⟨p.j9,p.lg,none⟩) d.eY p.h8):=u.out.cell (a:=⟨w.heap.size,2,none⟩) (Pr rfl) (by simp);go_wp2;clear C R T V;go_loopw [4] (λi wr=>∃k:Nat,k<=d.eY/\i=.int .i64 k/\(w.alloc (.cells (cO d p) 27)).grownBy wr none) (λi _=>d.eY-(vy i).toNat)
 case atStart=>exact⟨0,by omega,by go_num,u.out⟩
 case round=>
  obtain⟨k,U,rfl,ae⟩:=hrel;have di:wr.cell? ⟨w.heap.size,0,none⟩=some (.int .i64 d.kinds):=ae.cell (a:=⟨w.heap.size,0,none⟩) (Pr rfl) (by simp);have ar:wr.cell? ⟨w.heap.size,1,none⟩=some (.slice (some ⟨p.gv,p.hj,none⟩) d.kinds p.eT):=ae.cell (a:=⟨w.heap.size,1,none⟩) (Pr rfl) (by simp);have C:wr.cell? ⟨w.heap.size,2,none⟩=some (.slice (some ⟨p.j9,p.lg,none⟩) d.eY p.h8):=ae.cell (a:=⟨w.heap.size,2,none⟩) (Pr rfl) (by simp);have j:wr.cell? ⟨w.heap.size,3,none⟩=some (.slice p.hE d.fC p.h9):=ae.cell (a:=⟨w.heap.size,3,none⟩) (Pr rfl) (by simp);by_cases aO:k<d.eY
  .have P:decide ((k:Int)<d.eY)=true:=by simpa using aO
   have l:=Pj ae;have L:=Pj (eo.out.keep ae);clear ae;go_wp2_with (go_at_call 71;refine(K.out k aO _ L.out).mono ?_;rintro e w3 ⟨rfl,ae⟩;have H:=Pj (l.out.trans ae);clear ae)
   go_roundw
   case rel=>exact⟨k+1,by omega,by go_num,H.out⟩
   case measure=>simp[vy];omega
  .have P:decide ((k:Int)<d.eY)=false:=by simpa using aO
   have fr:=(eo.out.keep ae).free;have g:=E.out.trans ae;have GW:=Pj g;clear g ae di ar;by_cases D:d.fC=0
   .rw[D]at j
    go_wp2;go_loopw [6] (λi r=>i=.int .i64 0/\wr=r) (λ_ _=>0)
    case atStart=>exact⟨rfl,rfl⟩
    case round=>
     obtain⟨rfl,rfl⟩:=hrel;go_wp2;go_ret;exact⟨rfl,GW.out⟩
   .obtain⟨b,o,e,ak⟩:=fr D
    rw[e]at j;have z:=Pj ak;clear ak fr e;go_wp2;go_loopw [6] (λi r=>∃k:Nat,k<=d.fC/\i=.int .i64 k/\wr.grownBy r none) (λi _=>d.fC-(vy i).toNat)
    case atStart=>exact⟨0,by omega,by go_num,Pw _ _⟩
    case round=>
     obtain⟨k,U,rfl,ae⟩:=hrel;have W:=ae.cell j (by simp);have g:=GW.out.trans ae;have J:=Pj g;by_cases aO:k<d.fC
     .have I:=ae.cell (z.out k aO) (by simp)
      have ao:=q.out.free k aO;have B:decide (0<=d.free k/\d.free k<=4)=true:=by simp;omega
      have Q:decide ((k:Int)<d.fC)=true:=by simpa using aO
      have l:=Pj ae;rcases k with _|k
      .simp only[Nat.add_zero]at I
       clear ae g j;go_wp2_with (go_at_call 69;refine(Qa _ _ _ _).mono ?_;rintro e w' ⟨rfl,rfl⟩;rw[B])
       go_quiet (fail);go_wp2;go_roundw
       case rel=>exact⟨1,by omega,by go_num,l.out.trans (hM _ _)⟩
       case measure=>simp[vy];omega
      .have ax:=ae.cell (z.out k (by omega)) (by simp)
       have aV:=q.out.Av k aO;have b':IntKind.i64.wrap (k:Int)=(k:Int):=IntWalk.i64_in _ (by omega);have Z:k<d.fC:=by omega
       have aa:(k:Int)<(d.fC:Int):=by omega
       have ad:(0:Int)<=k:=by omega
       have af:decide ((0:Int)<(k:Int)+1)=true:=by rw[decide_eq_true_iff];omega
       have z3:decide (d.free (k+1)<=d.free k)=false:=by rw[decide_eq_false_iff_not];omega
       clear ae g j;go_wp2_with (go_at_call 69;refine(Qa _ _ _ _).mono ?_;rintro e w' ⟨rfl,rfl⟩;rw[B])
       go_quiet (fail);go_wp2;go_roundw
       case rel=>exact⟨k+2,by omega,by go_num,l.out.trans (hM _ _)⟩
       case measure=>simp[vy];omega
     .have Q:decide ((k:Int)<d.fC)=false:=by simpa using aO
      go_wp2;go_ret;exact⟨rfl,J.out⟩
end
section
variable{A:Array Func}
structure P8(w W:World)(T g B:Nat)(L:Value)(c:Array Value):Prop where
 ri:fg W T L g
 blk:W.heap[B]?=some (.cells c 42)
 res:W.heap[w.heap.size+1]?=some (.cells #[.int .i64 0,.int .i64 0,.int .i64 0,.int .i64 0,.int .i64 0] 42)
 e4:w.grownBy W (some T)
 aZ:T<w.heap.size
 P4:w.heap.size+2<=B
 off:rC L B
def P8.call{w W dt:World}{T g g' B:Nat}{L:Value}{c:Array Value}(h:P8 w W T g B L c)(t:fg dt T L g')(k:W.grownBy dt (some T)):P8 w dt T g' B L c:=by have I:=h.aZ;have J:=h.P4;have s:=bp h.blk;exact⟨t,(k.block B s (λe=>by have:=Pm e;omega)).trans h.blk,(k.block _ (by omega) (λe=>by have:=Pm e;omega)).trans h.res,h.e4.trans k,h.aZ,h.P4,h.off⟩
def P8.drew{w W:World}{T g B:Nat}{L:Value}{c:Array Value}(h:P8 w W T g B L c):P8 w W.drew T g B L c:=
 ⟨h.ri.of rfl,h.blk,h.res,fQ h.e4,h.aZ,h.P4,h.off⟩
def P8.alloc{w W:World}{T g B:Nat}{L:Value}{c:Array Value}(h:P8 w W T g B L c)(o:Obj):P8 w (W.alloc o) T g B L c:=by have s:=bp h.blk;have J:=h.P4;exact⟨h.ri.alloc o,(Pq s).trans h.blk,(Pq (by omega)).trans h.res,h.e4.trans Pn,h.aZ,h.P4,h.off⟩
def Qe{W:World}{T g B o:Nat}{L v:Value}(h:fg W T L g)(c:T≠B)(off:rC L B):fg (W.setCell ⟨B,o,none⟩ v) T L g:=by obtain⟨⟨s,hb,af⟩,ak⟩:=h;exact⟨⟨s,(ft (by show T≠B;exact c)).trans hb,af⟩,ak.na off ⟨rfl,rfl,rfl,by simp,λi aj d=>ft (by show i≠B;exact λe=>d (.inr e))⟩⟩
def P8.set{w W:World}{T g B:Nat}{L:Value}{c:Array Value}(h:P8 w W T g B L c)(o:Nat)(v:Value):P8 w (W.setCell ⟨B,o,none⟩ v) T g B L (c.setIfInBounds o v):=by have I:=h.aZ;have J:=h.P4;exact⟨Qe h.ri (by omega) h.off,cQ h.blk,(ft (by show w.heap.size+1≠B;omega)).trans h.res,⟨h.e4.os,h.e4.tape,h.e4.output,by have:=h.e4.size;simpa using this,λi aj d=>(ft (by show i≠B;omega)).trans (h.e4.block i aj d)⟩,h.aZ,h.P4,h.off⟩
def Q6{X:World}{r:Nat}{v0 v1 v2 v3 v4:Value}{t:TypeId}{c d f g i:Value}(h:X.heap[r]?=some (.cells #[c,d,f,g,i] t)):(((((X.setCell ⟨r,0,none⟩ v0).setCell ⟨r,1,none⟩ v1).setCell ⟨r,2,none⟩ v2).setCell ⟨r,3,none⟩ v3).setCell ⟨r,4,none⟩ v4).heap[r]?=some (.cells #[v0,v1,v2,v3,v4] t):=
 cQ (cQ (cQ (cQ (cQ h))))
def Qf{w W:World}{T r o:Nat}{v:Value}(h:w.grownBy W (some T))(ao:w.heap.size<=r):w.grownBy (W.setCell ⟨r,o,none⟩ v) (some T):=
 ⟨h.os,h.tape,h.output,by have:=h.size;simpa using this,λi aj c=>(ft (by show i≠r;omega)).trans (h.block i aj c)⟩
def Qi(j:Nat):Int:=match j with|0=>30|_=>119
def QY(w:World)(t:TypeId):iD (w.alloc (.cells #[.int .i64 30,.int .i64 119] t)) w.heap.size 0 2 Qi:=by
 intro j aC;have:=aT (o:=0+j) (gA w (.cells #[.int .i64 30,.int .i64 119] t));rcases j with _|_|j
 .exact this
 .exact this
 .omega
def QA(j:Nat):0<=Qi j/\Qi j<=119:=by unfold Qi;split<;>omega
def Qc(j:Nat):Int:=match j with|0=>10|1=>60|_=>100
def QW(w:World)(t:TypeId):iD (w.alloc (.cells #[.int .i64 10,.int .i64 60,.int .i64 100] t)) w.heap.size 0 3 Qc:=by
 intro j aC;have:=aT (o:=0+j) (gA w (.cells #[.int .i64 10,.int .i64 60,.int .i64 100] t));rcases j with _|_|_|j
 .exact this
 .exact this
 .exact this
 .omega
def QX(j:Nat):0<=Qc j/\Qc j<=100:=by unfold Qc;split<;>omega
def Q8[S:Std A](T g:Nat)(L:Value)(ae:g<2000)(d:cR)(ok:d.ok)(p:dU)(n:Nat)(ak:n<=100)(w:World)(h:fg w T L g):
 Calls (ag A) 20 #[.pointer (some ⟨T,0,none⟩),.agg (cO d p),.int .i64 n] w λe w'=>∃s:gP,e=.returned (.agg s.a)/\s.ok d/\fg w' T L (g+7)/\w.grownBy w' (some T):=by
 have aV:=h.lt;have U:=ok.kinds;obtain⟨l,z⟩:∃l,(w.alloc (.cells (cO d p) 27)).alloc (.cells #[.int .i64 0,.int .i64 0,.int .i64 0,.int .i64 0,.int .i64 0] 42)=l:=⟨_,rfl⟩
 have t1:fg l T L g:=by rw[<-z];exact(h.alloc _).alloc _
 have aL:w.grownBy l (some T):=by rw[<-z];exact Pn.trans Pn
 have av:l.heap.size=w.heap.size+1+1:=by rw[<-z];simp
 have aK:l.heap[w.heap.size]?=some (.cells (cO d p) 27):=by rw[<-z];exact(Pq (by simp)).trans (gA _ _)
 have r1:l.heap[w.heap.size+1]?=some (.cells #[.int .i64 0,.int .i64 0,.int .i64 0,.int .i64 0,.int .i64 0] 42):=by rw[<-z,show w.heap.size+1=(w.alloc (.cells (cO d p) 27)).heap.size by simp];exact gA _ _
 have off:∀B,w.heap.size<=B->rC L B:=λB aM=>h.mr.off aM
 have a3:(some (w.heap.size+1):Option Nat)≠some T:=λe=>by have:=Pm e;omega
 have aG:=Pj t1;have ax:=Pj aL;have aF:=Pj r1;have aw:=Pj z;have aI:=Pj av;have aE:=Pj off;have J:=Pj (off (w.heap.size+1) (by omega));have a8:l.cell? ⟨w.heap.size,0,none⟩=some (.int .i64 d.kinds):=aT aK;clear h t1 aL aK r1 z av off;go_enter (S.f Tryz.func20),Tryz.ntmps20;go_upto_region 1 with fail
 have aq:=aw.out;dsimp only[cO]at aq;rw[aq];clear aq;go_upto_region 2 with(go_at_call 17;refine(pU (A:=A) T g L (by omega) ((d.kinds:Int)-1) (by omega) l aG.out).mono ?_;rintro e w2 ⟨k,rfl,a0,az,c⟩;have aH:=Pj az;have P:=Pj c;clear az c)
 clear a8;have a1:k<d.kinds:=by omega
 have a6:=P.out.size;have a7:=aI.out;have D:P8 w (w2.alloc (.cells #[.int .i64 k,.int .i64 0,.int .i64 0,.int .i64 0,.int .i64 0] 42)) T (g+1) w2.heap.size L #[.int .i64 k,.int .i64 0,.int .i64 0,.int .i64 0,.int .i64 0]:=
  ⟨aH.out.alloc _,gA _ _,(Pq (by omega)).trans ((P.out.block _ (by omega) a3).trans aF.out),(ax.out.trans P.out).trans Pn,aV,by omega,aE.out _ (by omega)⟩
 generalize w2.alloc _=w3 at D ⊢;generalize w2.heap.size=B at D a6 ⊢;have aM:=D.P4;have bf:=bp D.blk;have ad:=Pj D;clear D aG ax aF aw aI aE aH P a7 a0;go_upto_region 3 with(first
  |(go_at_call 27;refine(wO (A:=A) T (g+1) L (by omega) w3.heap.size 0 2 2 Qi (by omega) _ (ad.out.alloc _).ri (by omega) (QY _ _)).mono ?_;rintro e bb ⟨j,aC,rfl,az,c⟩;have af:=Pj ((ad.out.alloc _).call az c);clear az c)
  |(go_at_call 17;refine(pU (A:=A) T (g+2) L (by omega) (Qi j) (by have:=QA j;omega) bb af.out.ri).mono ?_;rintro e bc ⟨lm,rfl,a2,az,c⟩;have R:=af.out.call az c;have X:=aT (o:=1) R.blk;have f1:=b1 (o:=1) R.blk;have aB:=Pj R;clear az c R))
 have bh:lm<=119:=by have:=QA j;omega
 have al:=aB.out.set 1 (.int .i64 lm);clear ad af aB X f1 a2 aC;generalize bc.setCell _ _=bd at al ⊢;have am:=al.drew;have aR:bd.drew.cell? ⟨B,1,none⟩=some (.int .i64 lm):=(aT (o:=1) am.blk).trans rfl;have ah:=Pj am;clear al am;go_region_held3 (λW=>W.cell? ⟨B,1,none⟩=some (.int .i64 lm))
  (first|with_reducible exact aR|with_reducible exact iA|with_reducible exact K.out _)
  (first|(go_at_call 17;refine(pU (A:=A) T (g+2+1) L (by omega) n (by omega) _ (by exact ah.out.ri)).mono ?_;rintro e au ⟨r,rfl,ao,az,c⟩;have E:=ah.out.call az c;have iA:au.cell? ⟨B,1,none⟩=some (.int .i64 lm):=(aT (o:=1) E.blk).trans rfl;have K:=Pj (show ∀v,(au.setCell ⟨B,2,none⟩ v).cell? ⟨B,1,none⟩=some (.int .i64 lm)from λv=>(aT (o:=1) (E.set 2 v).blk).trans rfl);have aU:=aT (o:=2) E.blk;have f2:=b1 (o:=2) E.blk;have v2:IntKind.i64.wrap ((lm:Int)+r)=lm+r:=IntWalk.i64_in _ (by omega);have aD:=Pj E;clear az c E))
 obtain⟨i,cF⟩:∃i:Nat,min 119 ((lm:Int)+r)=(i:Int):=⟨min 119 (lm+r),by omega⟩
 have I:lm<=i/\i<=119:=by omega
 have F:=aD.out.set 2 (.int .i64 i);rw[cF];clear ah aD aR iA K aU f2 v2 cF ao;generalize au.setCell _ _=V at F ⊢;have aJ:=F.drew;have bi:=bp F.blk;have K:V.drew.cell? ⟨B,1,none⟩=some (.int .i64 lm):=(aT (o:=1) aJ.blk).trans rfl;have aS:=Pj (show ∀o:Obj,(V.alloc o).drew.cell? ⟨B,1,none⟩=some (.int .i64 lm)from λo=>(aT (o:=1) (F.alloc o).drew.blk).trans rfl);have ai:=Pj F;have v0:IntKind.i64.wrap ((lm:Int)-3)=lm-3:=IntWalk.i64_in _ (by omega);clear F aJ;go_wp2;go_region_held3 (λW=>W.cell? ⟨B,1,none⟩=some (.int .i64 lm))
  (first|with_reducible exact K|with_reducible exact aS.out _|with_reducible exact aO|with_reducible exact aP|with_reducible exact aQ.out _)
  (first
   |(go_at_call 27;refine(wO (A:=A) T (g+2+1+1) L (by omega) V.heap.size 0 3 3 Qc (by omega) _ (by exact(ai.out.alloc _).drew.ri) (by omega) (by exact QW V 3)).mono ?_;rintro e aN ⟨q,a5,rfl,az,c⟩;have ap:=(ai.out.alloc _).drew.call az c;have aO:aN.cell? ⟨B,1,none⟩=some (.int .i64 lm):=(aT (o:=1) ap.blk).trans rfl;have hb:=QX q;have v3:IntKind.i64.wrap ((lm:Int)+Qc q)=lm+Qc q:=IntWalk.i64_in _ (by omega);have aj:=Pj ap;clear az c ap)
   |(go_at_call 26;refine(vr (A:=A) T (g+2+1+1+1) L (by omega) (max 0 ((lm:Int)-3)) (min 119 ((lm:Int)+Qc q)) (by omega) aN aj.out.ri).mono ?_;rintro e ar ⟨fm,rfl,aW,aX,az,c⟩;have C:=aj.out.call az c;have aP:ar.cell? ⟨B,1,none⟩=some (.int .i64 lm):=(aT (o:=1) C.blk).trans rfl;have aQ:=Pj (show ∀v,(ar.setCell ⟨B,3,none⟩ v).cell? ⟨B,1,none⟩=some (.int .i64 lm)from λv=>(aT (o:=1) (C.set 3 v).blk).trans rfl);have Y:=aT (o:=3) C.blk;have f3:=b1 (o:=3) C.blk;have ay:=Pj C;clear az c C))
 all_goals (
  have G:=ay.out.set 3 (.int .i64 fm);have bg:fm<=119:=by omega
  clear ai aj ay K aS aO aP aQ Y f3 v0 v3 aW aX a5 hb;generalize ar.setCell _ _=a9 at G ⊢;have X:=aT (o:=1) G.blk;have Y:=aT (o:=3) G.blk;obtain⟨M,e6⟩:∃M:Nat,max (lm:Int) fm=(M:Int):=⟨max lm fm,by omega⟩
  obtain⟨N,fY⟩:∃N:Nat,min 119 ((M:Int)+n)=(N:Int):=⟨min 119 (M+n),by omega⟩
  have Z:=Pj G;clear G;go_upto_region 6 with(go_at_call 26;refine(vr (A:=A) T (g+2+1+1+1+1) L (by omega) M N (by omega) a9 Z.out.ri).mono ?_;rintro e ba ⟨u,rfl,aY,aZ,az,c⟩;have Q:=Z.out.call az c;have z4:=aT (o:=4) Q.blk;have f4:=b1 (o:=4) Q.blk;have aA:=Pj Q;clear az c Q)
  clear X Y;have f:=aA.out.set 4 (.int .i64 u);have a4:(⟨k,lm,i,fm,u⟩:gP).ok d:=⟨a1,I.1,by show i<120;omega,by show fm<=u;omega,by show u<120;omega,by show lm<=u;omega⟩
  clear Z aA z4 f4 aY aZ e6 fY;generalize ba.setCell _ _=bj at f ⊢;have bk:=aT (o:=0) f.blk;have X:=aT (o:=1) f.blk;have aU:=aT (o:=2) f.blk;have Y:=aT (o:=3) f.blk;have bl:=aT (o:=4) f.blk;have z0:=aT (o:=0) f.res;have av:=aT (o:=1) f.res;have bm:=aT (o:=2) f.res;have z3:=aT (o:=3) f.res;have z4:=aT (o:=4) f.res;have f0:=b1 (o:=0) f.res;have f1:=b1 (o:=1) f.res;have f2:=b1 (o:=2) f.res;have f3:=b1 (o:=3) f.res;have f4:=b1 (o:=4) f.res;have aa:=Pj f;clear f;go_wp2;have H:T≠w.heap.size+1:=by omega
  refine bodyPost_ret (results_cell_row rfl _ _ (w.heap.size+1) 42 (⟨k,lm,i,fm,u⟩:gP).a (0,0) _ rfl (Q6 aa.out.res) (ag.underlying54 A) rfl Q7) rfl ?_;exact⟨⟨k,lm,i,fm,u⟩,rfl,a4,Qe (Qe (Qe (Qe (Qe aa.out.ri H J.out) H J.out) H J.out) H J.out) H J.out,Qf (Qf (Qf (Qf (Qf aa.out.e4 (by omega)) (by omega)) (by omega)) (by omega)) (by omega)⟩)
end
section
variable{A:Array Func}
def Qs[S:Std A](T g:Nat)(L:Value)(ae:g<2000)(a b:Nat)(bY:a<=b)(hb:b<=1000)(w:World)(h:fg w T L g):
 Calls (ag A) 21 #[.pointer (some ⟨T,0,none⟩),.int .i64 a,.int .i64 b] w λe w'=>∃x y:Nat,e=.returned (.agg #[.int .i64 x,.int .i64 y])/\a<=x/\x<=y/\y<=b/\fg w' T L (g+2)/\w.grownBy w' (some T):=by
 have B:=h.lt;have j:=h.mr.off Pk;have q:=Pj (vr (A:=A) T g L (by omega) a b (by omega) _ (h.alloc (.cells #[.int .i64 0,.int .i64 0] 39)));have z:=Pj λ(b4:Int) (ah:0<=b4/\b4<=1000000) (w:World) (h:fg w T L (g+1))=>vr (A:=A) T (g+1) L (by omega) b4 b (by omega) w h
 clear h;go_enter (S.f Tryz.func21),Tryz.ntmps21;go_wp2_with (first
  |(go_at_call 26;refine q.out.mono ?_;rintro e C ⟨m,rfl,I,J,az,d⟩;have r:=Pj az;have f:=Pj d;clear az d)
  |(go_at_call 26;refine(z.out _ (by omega) _ r.out).mono ?_;rintro e w2 ⟨fY,rfl,ax,aV,az,d⟩;have c:=(d.block w.heap.size (by have:=f.out.size;simp at this;omega) (λe=>by have:=Pm e;omega)).trans ((f.out.block w.heap.size (by simp) (λe=>by have:=Pm e;omega)).trans (gA _ _));have z0:=aT (o:=0) c;have D:=aT (o:=1) c;have f0:=b1 (o:=0) c;have f1:=b1 (o:=1) c;have u:=Pj az;have p:=Pj d;have l:=Pj c;clear az d c))
 have i:T≠w.heap.size:=by omega
 refine bodyPost_ret (results_cell_row rfl _ _ w.heap.size 39 #[.int .i64 m,.int .i64 fY] (0,0) _ rfl (cQ (o:=1) (v:=.int .i64 fY) (cQ (o:=0) (v:=.int .i64 m) l.out)) (ag.underlying52 A) rfl va) rfl ?_;exact⟨m,fY,rfl,by omega,by omega,by omega,Qe (Qe u.out i j) i j,Qf (Qf ((Pn.trans f.out).trans p.out) Pk) Pk⟩
def Q0[S:Std A](a b:Nat)(bY:a<=b)(hb:b<120)(w:World):
 Calls (ag A) 72 #[.agg #[.int .i64 a,.int .i64 b]] w λe w'=>e=.returned (.int .i64 0)/\w.grownBy w' none:=by
 have i1:decide ((0:Int)<=a/\(a:Int)<=119)=true:=by rw[decide_eq_true_iff];omega
 have i2:decide ((0:Int)<=b/\(b:Int)<=119)=true:=by rw[decide_eq_true_iff];omega
 have c:decide ((a:Int)>b)=false:=by rw[decide_eq_false_iff_not];omega
 have d:decide ((b:Int)<a)=false:=c;have f:decide (b<a)=false:=by rw[decide_eq_false_iff_not];omega
 go_enter (S.f Tryz.func72),Tryz.ntmps72;go_wp2_with (go_at_call 69;refine(Qa _ _ _ _).mono ?_;rintro e w' ⟨rfl,rfl⟩;first|rw[i1]|rw[i2])
 go_ret;exact⟨rfl,Pn⟩
def Q3[S:Std A](d:cR)(ok:d.ok)(p:dU)(k a b c e:Nat)(U:k<d.kinds)(bY:a<=b)(hb:b<120)(D:c<=e)(he:e<120)(w:World):
 Calls (ag A) 46 #[.agg (cO d p),.agg (sQ k a b c e)] w λx w'=>x=.returned (.int .i64 (if e<a then 9 else 0))/\w.grownBy w' none:=by
 have H:=ok.kinds;have r:=Pj λ(a b:Nat) (I:a<=b) (J:b<120) (w:World)=>Q0 (A:=A) a b I J w
 have i1:decide ((0:Int)<=k/\(k:Int)<=d.kinds-1)=true:=by rw[decide_eq_true_iff];omega
 have K:IntKind.i64.wrap ((d.kinds:Int)-1)=d.kinds-1:=IntWalk.i64_in _ (by omega);have B:=Pj (show((w.alloc (.cells (cO d p) 27)).alloc (.cells (sQ k a b c e) 42)).heap[w.heap.size+1]?=some (.cells (sQ k a b c e) 42) by rw[show w.heap.size+1=(w.alloc (.cells (cO d p) 27)).heap.size by simp];exact gA _ _)
 have C:=Pj ((Pv w (.cells (cO d p) 27) none).trans (Pv _ (.cells (sQ k a b c e) 42) none));rcases Nat.lt_or_ge e a with hea|hea
 .rw[if_pos hea]
  have E:decide ((e:Int)<a)=true:=by rw[decide_eq_true_iff];omega
  have F:decide (e<a)=true:=by simpa using hea
  go_enter (S.f Tryz.func46),Tryz.ntmps46;go_wp2_with (first
   |(go_at_call 69;refine(Qa _ _ _ _).mono ?_;rintro e w' ⟨rfl,rfl⟩;rw[i1])
   |(go_at_call 72;refine(r.out a b bY hb _).mono ?_;rintro x G ⟨rfl,ae⟩;have f:=(ae.block (w.heap.size+1) (by simp) (by simp)).trans B.out;have i:=aT (o:=1) f;have j:=aT (o:=2) f;have l:=aT (o:=3) f;have q:=aT (o:=4) f;have h:=Pj f;have u:=Pj ae;clear ae f)
   |(go_at_call 72;refine(r.out c e D he _).mono ?_;rintro x w2 ⟨rfl,ae⟩;have g:=(ae.block (w.heap.size+1) (bp h.out) (by simp)).trans h.out;clear i j l q;have i:=aT (o:=1) g;have j:=aT (o:=2) g;have l:=aT (o:=3) g;have q:=aT (o:=4) g;have z:=Pj ae;clear ae g))
  go_ret;exact⟨rfl,(C.out.trans u.out).trans z.out⟩
 .rw[if_neg (by omega)]
  have E:decide ((e:Int)<a)=false:=by rw[decide_eq_false_iff_not];omega
  have F:decide (e<a)=false:=by rw[decide_eq_false_iff_not];omega
  go_enter (S.f Tryz.func46),Tryz.ntmps46;go_wp2_with (first
   |(go_at_call 69;refine(Qa _ _ _ _).mono ?_;rintro e w' ⟨rfl,rfl⟩;rw[i1])
   |(go_at_call 72;refine(r.out a b bY hb _).mono ?_;rintro x G ⟨rfl,ae⟩;have f:=(ae.block (w.heap.size+1) (by simp) (by simp)).trans B.out;have i:=aT (o:=1) f;have j:=aT (o:=2) f;have l:=aT (o:=3) f;have q:=aT (o:=4) f;have h:=Pj f;have u:=Pj ae;clear ae f)
   |(go_at_call 72;refine(r.out c e D he _).mono ?_;rintro x w2 ⟨rfl,ae⟩;have g:=(ae.block (w.heap.size+1) (bp h.out) (by simp)).trans h.out;clear i j l q;have i:=aT (o:=1) g;have j:=aT (o:=2) g;have l:=aT (o:=3) g;have q:=aT (o:=4) g;have z:=Pj ae;clear ae g))
  go_ret;exact⟨rfl,(C.out.trans u.out).trans z.out⟩
def QB[S:Std A](d:cR)(ok:d.ok)(p:dU)(k a b c e:Nat)(U:k<d.kinds)(bY:a<=b)(hb:b<120)(z:c<=e)(he:e<120)(w:World)(h:fy w d p):
 Calls (ag A) 22 #[.agg (cO d p),.agg (sQ k a b c e)] w λx w'=>x=.returned (.int .i64 (if e<a then 9 else 0))/\w.grownBy w' none:=by
 have g:=(Pv w (.cells (cO d p) 27) none).trans (Pv _ (.cells (sQ k a b c e) 42) none);have l:=Pj (Q1 (A:=A) d ok p _ (h.keep g));have af:=λw=>Q3 (A:=A) d ok p k a b c e U bY hb z he w
 obtain⟨v,aD⟩:∃v:Int,(if e<a then 9 else 0)=v:=⟨_,rfl⟩
 rw[aD];simp only[aD]at af;have u:=Pj af;clear af aD;have j:=Pj g;have i:=Pj (show((w.alloc (.cells (cO d p) 27)).alloc (.cells (sQ k a b c e) 42)).heap[w.heap.size+1]?=some (.cells (sQ k a b c e) 42) by rw[show w.heap.size+1=(w.alloc (.cells (cO d p) 27)).heap.size by simp];exact gA _ _)
 have kQ:=Pj (show((w.alloc (.cells (cO d p) 27)).alloc (.cells (sQ k a b c e) 42)).heap[w.heap.size]?=some (.cells (cO d p) 27)from(Pq (by simp)).trans (gA _ _));clear h g;go_enter (S.f Tryz.func22),Tryz.ntmps22;go_wp2_with (first
  |(go_at_call 45;refine l.out.mono ?_;rintro x B ⟨rfl,ae⟩;have f:=(ae.block (w.heap.size+1) (by simp) (by simp)).trans i.out;have dN:=(ae.block w.heap.size (by simp;omega) (by simp)).trans kQ.out;have C:=aT (o:=0) dN;have D:=aT (o:=1) dN;have E:=aT (o:=2) dN;have F:=aT (o:=3) dN;have G:=aT (o:=0) f;have H:=aT (o:=1) f;have I:=aT (o:=2) f;have J:=aT (o:=3) f;have K:=aT (o:=4) f;have q:=Pj ae;clear ae f dN)
  |(go_at_call 46;refine(u.out _).mono ?_;rintro x w2 ⟨rfl,ae⟩;have r:=Pj ae;clear ae))
 go_ret;exact⟨rfl,(j.out.trans q.out).trans r.out⟩
end
section
variable{A:Array Func}
def Qr[S:Std A](q:Option Addr)(n c:Nat)(ak:n<=100000)(f:Nat->Int)(w:World)(h:n≠0->∃b o,q=some ⟨b,o,none⟩/\iD w b o n f)(x:Int):
 Calls (ag A) 18 #[.slice q n c,.int .i64 x] w λe w'=>(∃j:Int,e=.returned (.int .i64 j)/\(0<=j↔∃i,i<n/\f i=x))/\w=w':=by
 have H:=Pj h;clear h;go_enter (S.f Tryz.func18),Tryz.ntmps18;go_wp2;go_loopw [5] (λi wr=>∃m:Nat,m<=n/\i=.int .i64 m/\w=wr/\∀i,i<m->f i≠x) (λi _=>n-(vy i).toNat)
 case atStart=>exact⟨0,by omega,by go_num,rfl,λi aj=>by omega⟩
 case round=>
  obtain⟨m,hm,rfl,rfl,g⟩:=hrel;by_cases aO:m<n
  .have hd:decide ((m:Int)<n)=true:=by simpa using aO
   have l:decide (m<n)=true:=by simpa using aO
   obtain⟨b,o,rfl,af⟩:=H.out (by omega);have al:=af m aO;by_cases d:f m=x
   .have ar:(f m == x)=true:=by simpa using d
    go_wp2;go_ret;exact⟨⟨m,rfl,λ_=>⟨m,aO,d⟩,λ_=>by omega⟩,rfl⟩
   .have ar:(f m == x)=false:=by simpa using d
    go_wp2;exact⟨⟨m+1,by omega,by push_cast;rfl,by trivial,λi aj=>by
     rcases Nat.lt_succ_iff_lt_or_eq.1 aj with y|rfl
     .exact g i y
     .exact d⟩,by show n-((m:Int)+1).toNat<n-(m:Int).toNat;omega⟩
  .have hd:decide ((m:Int)<n)=false:=by simp;omega
   have l:decide (m<n)=false:=by simpa using aO
   go_wp2;go_ret;exact⟨⟨-1,rfl,λy=>by omega,λ⟨i,aj,e⟩=>absurd e (g i (by omega))⟩,rfl⟩
end
section
variable{A:Array Func}
def Rc{w:World}{m n:Nat}{v:Value}{xs:List Int}(h:w.ownsRow m 3 1 v n (xs.map encZ))(ak:0<n):∃g cap,v=.slice (some ⟨g,0,none⟩) n cap/\iD w g 0 n (λi=>xs.getD i 0):=by
 have ah:xs.length=n:=by have:=h.1;simpa using this
 obtain⟨g,c,cur,aP,I,J,ax,aV⟩:=xY h ak;exact⟨g,c,aP,λi aj=>tE ax aV (by
  have d:i<xs.length:=by omega
  simp[encZ,List.getD,d])⟩
end
def Qw{H:Type}(x:Lit×DataW H):∀l:List (Lit×DataW H),(DataW.insert x l).length=l.length+1
 | []=>rfl
 |y::l=>by
  unfold DataW.insert;split
  .rfl
  .simp[Qw x l]
def QZ(D:Ea)(k:Lit)(v:Ea):(intKeys (D.put k v)).length<=(intKeys D).length+1:=by
 cases D<;>simp[DataW.put,intKeys,Qw]
 exact List.length_filter_le _ _
def QU(f:Int)(t:Nat->Int)(l:List e1):∀D:Ea,(intKeys (l.foldl (λD x=>D.put (.int .i64 (jI f t x)) (.lit (.bool true))) D)).length<=(intKeys D).length+l.length:=by
 induction l with
 |nil=>intro D;simp
 |cons x l c=>
  intro D;rw[List.foldl_cons];have I:=c (D.put (.int .i64 (jI f t x)) (.lit (.bool true)));have J:=QZ D (.int .i64 (jI f t x)) (.lit (.bool true));simp only[List.length_cons];omega
def Q9{d:cR}{s:gP}(af:s.ok d):(oC d s).length<=14400:=by have I:=zI s.lm s.fm s.bN af.hF (s.bV-s.lm+1);have J:=QU (d.first s.k) (cC d s.k) (gy s.lm s.fm s.bN (s.bV-s.lm+1)) (.map []);have ax:=af.bw;have aV:(intKeys (.map []:Ea)).length=0:=rfl;exact Po J (by omega)
end Go.aN
namespace Go.aN
open Go.Proofs Go.RowKit Go.Maps Go.Shelf
def Qv{H:Type}(x:Lit×DataW H):∀l:List (Lit×DataW H),(DataW.insert x l).Perm (x::l)
 | []=>.refl _
 |y::l=>by
  unfold DataW.insert;split
  .exact .refl _
  .exact((Qv x l).cons y).trans (.swap x y l)
structure Qk{H:Type}(es:List (Lit×DataW H))(s:Int->Prop):Prop where
 keys:∀p∈es,∃x,p.1=.int .i64 x
 bJ:(es.map λp=>intOf p.1).Nodup
 mem:∀v,v∈(es.map λp=>intOf p.1)↔s v
def Qk.put{H:Type}{es:List (Lit×DataW H)}{s:Int->Prop}(h:Qk es s)(v:Int)(d:DataW H):Qk (DataW.insert (.int .i64 v,d) (es.filter λp=>!p.1.sameKey (.int .i64 v))) λy=>y=v\/s y:=by
 have aQ:=Qv ((.int .i64 v,d):Lit×DataW H) (es.filter λp=>!p.1.sameKey (.int .i64 v));have af:∀p∈es,(p.1.sameKey (.int .i64 v)=true↔intOf p.1=v):=by intro p aQ;obtain⟨x,f⟩:=h.keys p aQ;rw[f];simp[Lit.sameKey,intOf]
 have hm:=aQ.map λp=>intOf p.1
 rw[List.map_cons]at hm;have ew:∀y,y∈((es.filter λp=>!p.1.sameKey (.int .i64 v)).map λp=>intOf p.1)↔(s y/\y≠v):=by
  intro y;rw[List.mem_map,<-h.mem y,List.mem_map];constructor
  .rintro⟨p,aQ,rfl⟩
   obtain⟨I,J⟩:=List.mem_filter.1 aQ;refine⟨⟨p,I,rfl⟩,λe=>?_⟩;rw[(af p I).2 e]at J;cases J
  .rintro⟨⟨p,aQ,rfl⟩,c⟩
   refine⟨p,List.mem_filter.2 ⟨aQ,?_⟩,rfl⟩;cases al:p.1.sameKey (.int .i64 v)
   .rfl
   .exact absurd ((af p aQ).1 al) c
 refine⟨?_,?_,?_⟩
 .intro p I
  rcases List.mem_cons.1 (aQ.mem_iff.1 I)with rfl|I
  .exact⟨v,rfl⟩
  .exact h.keys p (List.mem_filter.1 I).1
 .refine hm.nodup_iff.2 (List.nodup_cons.2 ⟨λal=>((ew v).1 al).2 rfl,?_⟩)
  exact h.bJ.sublist ((List.filter_sublist).map _)
 .intro y
  rw[hm.mem_iff,List.mem_cons,ew];show y=v\/(s y/\y≠v)↔y=v\/s y;constructor
  .rintro(h|⟨h,_⟩)
   .exact .inl h
   .exact .inr h
  .rintro(h|h)
   .exact .inl h
   .by_cases e:y=v
    .exact .inl e
    .exact .inr ⟨h,e⟩
def Qy(f:Int)(t:Nat->Int)(pre:List e1):(intKeys (lf f t pre)).Nodup/\∀v,v∈intKeys (lf f t pre)↔∃x,x∈pre/\jI f t x=v:=by
 suffices H:∀(pre:List e1) (es:List (Lit×DataW Unit)) (s:Int->Prop),Qk es s->∃e3,pre.foldl (λ(D:Ea) x=>D.put (.int .i64 (jI f t x)) (.lit (.bool true))) (.map es)=.map e3/\Qk e3 λv=>s v\/∃x,x∈pre/\jI f t x=v by obtain⟨e3,I,J⟩:=H pre [] (λ_=>False) ⟨λp aQ=>absurd aQ (by simp),by simp,by simp⟩;unfold lf;rw[I];exact⟨J.bJ,λv=>(J.mem v).trans (by simp)⟩
 intro pre;induction pre with
 |nil=>intro es s h;exact⟨es,rfl,h.keys,h.bJ,λv=>by rw[h.mem v];simp⟩
 |cons x pre c=>
  intro es s h;obtain⟨e3,I,J⟩:=c _ _ (h.put (jI f t x) (.lit (.bool true)));refine⟨e3,I,J.keys,J.bJ,λv=>(J.mem v).trans ?_⟩;constructor
  .rintro((rfl|h)|⟨y,P3,rfl⟩)
   .exact .inr ⟨x,by simp,rfl⟩
   .exact .inl h
   .exact .inr ⟨y,by simp[P3],rfl⟩
  .rintro(h|⟨y,P3,rfl⟩)
   .exact .inl (.inr h)
   .rcases List.mem_cons.1 P3 with rfl|P3
    .exact .inl (.inl rfl)
    .exact .inr ⟨y,P3,rfl⟩
def mem_row{x:e1}{fm left k:Nat}(ah:left<120)(U:∀j,j<k->max left fm+j<120):x∈lV fm left k↔(x.1.1=left/\max left fm<=x.1.2/\x.1.2<max left fm+k):=by
 unfold lV;rw[List.mem_map];constructor
 .rintro⟨j,aC,rfl⟩
  have aC:=List.mem_range.1 aC;unfold so;rw[dif_pos ⟨ah,U j aC⟩];exact⟨rfl,by show max left fm<=max left fm+j;omega,by show max left fm+j<_;omega⟩
 .rintro⟨I,J,ax⟩
  refine⟨x.1.2-max left fm,List.mem_range.2 (by omega),?_⟩;unfold so;rw[dif_pos ⟨ah,by have:=x.2.2;omega⟩];apply Subtype.ext;refine Prod.ext I.symm ?_;show max left fm+(x.1.2-max left fm)=x.1.2;omega
def Qx{x:e1}{lm fm c:Nat}(hF:c<120):∀n,lm+n<=120->(x∈gy lm fm c n↔(lm<=x.1.1/\x.1.1<lm+n/\x.1.1<=x.1.2/\fm<=x.1.2/\x.1.2<=c))
 | 0,_=>by
  simp only[gy,PD,false_iff];omega
 |n+1,ak=>by rw[gy,List.mem_append,Qx hF n (by omega),mem_row (by omega) (λj aC=>by omega)];omega
end Go.aN
namespace Go.aN
open Go.Proofs Go.RowKit
def Qu{l:List Int}{i:Nat}(h:i<l.length):l.getD i 0=l[i]:=by simp[List.getD,h]
end Go.aN
namespace Go.aN
open Go.Proofs Go.RowKit Go.Maps Go.Shelf
structure gP.Qj(x s:gP):Prop where
 k:x.k=s.k
 lm:s.lm<=x.lm
 bV:x.bV<=s.bV
 fm:s.fm<=x.fm
 bN:x.bN<=s.bN
def Qh(s:gP):List e1:=gy s.lm s.fm s.bN (s.bV-s.lm+1)
def Qn{d:cR}{s:gP}(af:s.ok d){c:e1}:c∈Qh s↔(s.lm<=c.1.1/\c.1.1<=s.bV/\c.1.1<=c.1.2/\s.fm<=c.1.2/\c.1.2<=s.bN):=by have ah:=af.l;have f:=af.bw;unfold Qh;rw[Qx af.hF _ (by omega)];omega
def Rf{d:cR}{x s:gP}(f:x.ok d)(af:s.ok d)(h:x.Qj s){c:e1}(al:c∈Qh x):c∈Qh s:=by rw[Qn f]at al;rw[Qn af];have I:=h.lm;have J:=h.bV;have ax:=h.fm;have aV:=h.bN;omega
def QC{d:cR}{s:gP}(af:s.ok d):∃c,c∈Qh s:=by have ah:=af.l;have g:=af.bw;have hF:=af.hF;have aB:=af.f;have f:=af.x;refine⟨⟨(s.lm,s.bN),by show s.lm<120;omega,hF⟩,(Qn af).2 ?_⟩;exact⟨Pk,ah,f,aB,Pk⟩
def Qb{d:cR}{s:gP}(v:Int):v∈oC d s↔∃c,c∈Qh s/\jI (d.first s.k) (cC d s.k) c=v:=(Qy _ _ _).2 v
def Rb(d:cR)(s:gP):(oC d s).Nodup:=(Qy _ _ _).1
def Qq{d:cR}{x s:gP}(f:x.ok d)(af:s.ok d)(h:x.Qj s){v:Int}(aD:v∈oC d x):v∈oC d s:=by obtain⟨c,al,rfl⟩:=(Qb v).1 aD;exact(Qb _).2 ⟨c,Rf f af h al,by rw[h.k]⟩
def Re{d:cR}{s:gP}(af:s.ok d):oC d s≠[]:=by obtain⟨c,al⟩:=QC af;exact List.ne_nil_of_mem ((Qb _).2 ⟨c,al,rfl⟩)
def Qz:∀{xs ys:List Int},xs.Nodup->(∀v,v∈xs->v∈ys)->xs.length<=ys.length
 | [],_,_,_=>Nat.zero_le _
 |x::xs,ys,ak,h=>by
  obtain⟨I,J⟩:=List.nodup_cons.1 ak;have c:=h x (by simp);have:=Qz (ys:=ys.erase x) J λv aD=>(List.mem_erase_of_ne (λe=>I (by rw[<-e];exact aD))).2 (h v (by simp[aD]))
  have ah:=List.length_erase_of_mem c;have aQ:=List.length_pos_of_mem c;simp only[List.length_cons];omega
noncomputable def P1(d:cR)(s:gP)(n:Int):Int:=
 if n∈oC d s then(if ∃v,v∈oC d s/\v≠n then 3 else 1)else 2
open Classical in
def QF{d:cR}{s:gP}{n:Int}(h:n∈oC d s):P1 d s n≠2:=by unfold P1;rw[if_pos h];split<;>decide
def Qo{d:cR}{s:gP}{n:Int}:(P1 d s n≠2)↔n∈oC d s:=by
 constructor
 .intro h
  by_cases c:n∈oC d s
  .exact c
  .unfold P1 at h
   rw[if_neg c]at h;exact absurd rfl h
 .exact QF
def Rh{d:cR}{x s:gP}(f:x.ok d)(af:s.ok d)(h:x.Qj s){n:Int}(aD:P1 d s n=1):P1 d x n=1:=by
 unfold P1 at aD;split at aD
 .split at aD
  .cases aD
  .rename_i I J
   have key:∀v,v∈oC d x->v=n:=λv aD=>Classical.byContradiction λe=>J ⟨v,Qq f af h aD,e⟩
   have ak:n∈oC d x:=by obtain⟨c,al⟩:=QC f;have:=(Qb (d:=d) (s:=x) _).2 ⟨c,al,rfl⟩;rw[key _ this]at this;exact this
   unfold P1;rw[if_pos ak,if_neg];rintro⟨v,aD,e⟩;exact e (key v aD)
 .cases aD
end Go.aN
namespace Go.aN
open Go.Proofs Go.RowKit
def QD{d:cR}{s:gP}(af:s.ok d){w:World}{v:Value}{g:List Int}{m:Nat}(p:g.Perm (oC d s))(bO:w.ownsRow m 3 1 v g.length ((g.mergeSort (λx y=>decide (x<=y))).map encZ)):
 ∃(b c n:Nat) (f:Nat->Int),v=.slice (some ⟨b,0,none⟩) n c/\n=(oC d s).length/\0<n/\n<=14400/\iD w b 0 n f/\∀x,(∃i,i<n/\f i=x)↔x∈oC d s:=by
 have ah:=p.length_eq;have aQ:0<g.length:=by rw[ah];exact List.length_pos_iff.2 (Re af)
 obtain⟨b,c,e,N⟩:=Rc bO aQ;refine⟨b,c,g.length,_,e,ah,aQ,by rw[ah];exact Q9 af,N,λx=>?_⟩;have h:=(List.mergeSort_perm g (λx y=>decide (x<=y))).trans p;have j:(g.mergeSort (λx y=>decide (x<=y))).length=g.length:=List.length_mergeSort _;rw[<-h.mem_iff,List.mem_iff_getElem];constructor
 .rintro⟨i,aj,e⟩
  exact⟨i,by omega,by rw[<-e];exact(Qu (by omega)).symm⟩
 .rintro⟨i,aj,e⟩
  exact⟨i,by omega,by rw[<-e];exact Qu aj⟩
def QL{d:cR}(ok:d.ok){k:Nat}(U:k<d.kinds){a b:Nat}(hb:b<120):0<=fP (d.first k) (cC d k) a b/\fP (d.first k) (cC d k) a b<=100:=by
 have I:=ok.first k U
 have J:=Ni (λday=>oD ok U day) (a / 24+1) (b / 24-a / 24);unfold fP;have:b / 24-a / 24<=4:=by omega
 have:((b / 24-a / 24:Nat):Int)<=4:=by omega
 omega
def Q'{d:cR}(ok:d.ok){s:gP}(af:s.ok d){v:Int}(h:v∈oC d s):0<=v/\v<=100:=by obtain⟨c,al,rfl⟩:=(Qb v).1 h;have J:=(Qn af).1 al;have hF:=af.hF;exact QL ok af.k (a:=c.1.1) (b:=c.1.2) (by omega)
def QG(d:cR)(s:gP)(n:Int):P1 d s n=1\/P1 d s n=2\/P1 d s n=3:=by
 unfold P1;split
 .split
  .exact .inr (.inr rfl)
  .exact .inl rfl
 .exact .inr (.inl rfl)
def Rg{d:cR}{x s:gP}(c:x.ok d)(af:s.ok d)(h:x.Qj s){n:Int}(ak:n∈oC d s):
 (P1 d s n=1/\P1 d x n=1/\n∈oC d x)\/(P1 d s n=3/\P1 d x n=1/\n∈oC d x)\/(P1 d s n=3/\P1 d x n=3/\n∈oC d x)\/(P1 d s n=3/\P1 d x n=2/\¬n∈oC d x):=by
 have J:=QF ak;rcases QG d s n with a|a|a
 .have b:=Rh c af h a
  exact .inl ⟨a,b,Qo.1 (by rw[b];decide)⟩
 .exact absurd a J
 .rcases QG d x n with b|b|b
  .exact .inr (.inl ⟨a,b,Qo.1 (by rw[b];decide)⟩)
  .exact .inr (.inr (.inr ⟨a,b,λew=>Qo.2 ew b⟩))
  .exact .inr (.inr (.inl ⟨a,b,Qo.1 (by rw[b];decide)⟩))
def Ra{d:cR}{x s:gP}(c:x.ok d)(af:s.ok d)(h:x.Qj s):(oC d x).length<=(oC d s).length:=Qz (Rb d x) λ_=>Qq c af h
end Go.aN
