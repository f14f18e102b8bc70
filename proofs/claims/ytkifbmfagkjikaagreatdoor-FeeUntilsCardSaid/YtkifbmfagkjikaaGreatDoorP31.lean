/- A part; no conditions. -/
import Derived.Test.YtkifbmfagkjikaaGreatDoorP18
import Derived.Deep.Cut
import Derived.Deep.CutRange
set_option maxHeartbeats 8000000
set_option maxRecDepth 100000
set_option linter.all false
namespace Go.aO
open Go.Proofs Go.RowKit
section
variable{A:Array Func}
def nh[S:Std A](n bY c:Int)(w:World):Calls (ao A) 35 #[.int .i64 n,.int .i64 bY,.int .i64 c] w λe w'=>e=.returned (.bool (decide (bY<=n/\n<=c)))/\w=w':=by
 by_cases d:bY<=n
 .by_cases f:n<=c
  .have e:decide (bY<=n/\n<=c)=true:=by simp[d,f]
   rw[e];go_enter (S.f Tryz.func35),Tryz.ntmps35;go_wp2;go_ret;exact⟨rfl,rfl⟩
  .have e:decide (bY<=n/\n<=c)=false:=by simp[f]
   rw[e];go_enter (S.f Tryz.func35),Tryz.ntmps35;go_wp2;go_ret;exact⟨rfl,rfl⟩
 .have e:decide (bY<=n/\n<=c)=false:=by simp[d]
  rw[e];go_enter (S.f Tryz.func35),Tryz.ntmps35;go_wp2;go_ret;exact⟨rfl,rfl⟩
def E7[S:Std A](d:dw)(p:gz)(q:Option Addr)(n c:Nat)(K:n<=1000)(f:Nat->Int)(w:World)(h:kU w q n f):
 Calls (ao A) 81 #[.agg (eB d p),.slice q n c] w λe w'=>e=.returned (.int .i64 (gw d.kinds n f))/\w.grownBy w' none:=by
 have l:=al (dU w (.cells (eB d p) 25) none);by_cases j:(n:Int)<d.kinds
 .have B:decide ((n:Int)<d.kinds)=true:=decide_eq_true j
  have hp:gw d.kinds n f=7:=by simp[gw,j]
  have u:=al hp;clear hp;go_enter (S.f Tryz.func81),Tryz.ntmps81;go_wp2;go_ret;exact⟨hR (by rw[u.out]),l.out⟩
 .by_cases g:(n:Int)>d.kinds
  .have B:decide ((n:Int)<d.kinds)=false:=decide_eq_false j
   have I:decide ((n:Int)>d.kinds)=true:=decide_eq_true g;have z3:decide (d.kinds<(n:Int))=true:=decide_eq_true g;have hp:gw d.kinds n f=6:=by rw[gw,if_neg j,if_pos g]
   have u:=al hp;clear hp;go_enter (S.f Tryz.func81),Tryz.ntmps81;go_wp2;go_ret;exact⟨hR (by rw[u.out]),l.out⟩
  .have E:d.kinds=n:=U
   have B:decide ((n:Int)<d.kinds)=false:=decide_eq_false j;have I:decide ((n:Int)>d.kinds)=false:=decide_eq_false g;have z3:decide (d.kinds<(n:Int))=false:=decide_eq_false g;have r:=al E;have G:=al (h.keep (dU w (.cells (eB d p) 25) none));clear h j g E;by_cases C:n=0
   .subst C
    have z4:decide ((0:Int)<d.kinds)=false:=B;have z5:decide (d.kinds<(0:Int))=false:=z3;go_enter (S.f Tryz.func81),Tryz.ntmps81;go_wp2;go_loop [5] (λi=>i=.int .i64 0) (λi=>0)
    case atStart=>rfl
    case round=>
     subst hrel;go_wp2;go_ret;exact⟨by rw[r.out];rfl,l.out⟩
   .obtain⟨b,o,rfl,D⟩:=G.out C
    have F:=al D;clear D;go_enter (S.f Tryz.func81),Tryz.ntmps81;go_wp2;go_loop [5] (λi=>∃k:Nat,k<=n/\i=.int .i64 k/\hB (qb f) k=0) (λi=>n-(intOf i).toNat)
    case atStart=>exact⟨0,U,by go_num,rfl⟩
    case round=>
     obtain⟨k,J,rfl,he⟩:=hrel;have m:=al he;clear he;by_cases z:k<n
     .have j:=F.out k z
      have H:decide ((k:Int)<n)=true:=by simpa using z
      by_cases g:0<=f k/\f k<=9
      .have y:decide (0<=f k/\f k<=9)=true:=decide_eq_true g
       go_wp2_with (go_at_call 35;refine(nh _ _ _ _).mono ?_;rintro e w' ⟨rfl,rfl⟩;rw[y])
       go_round
       case rel=>exact⟨k+1,U,by go_num,nW m.out (EG g)⟩
       case measure=>simp[intOf];omega
      .have y:decide (0<=f k/\f k<=9)=false:=decide_eq_false g
       go_wp2_with (go_at_call 35;refine(nh _ _ _ _).mono ?_;rintro e w' ⟨rfl,rfl⟩;rw[y])
       go_ret;exact⟨hR (by rw[r.out,EJ m.out z g]),l.out⟩
     .obtain rfl:k=n:=U
      have H:decide ((k:Int)<k)=false:=aF;go_wp2;go_ret;exact⟨hR (by rw[r.out,EK m.out]),l.out⟩
def NY[S:Std A](d:dw)(fit:d.fit)(p:gz)(i:Nat)(u:i<d.bk)(w:World)(h:iZ w d p):
 Calls (ao A) 82 #[.agg (eB d p),.int .i64 i] w λe w'=>e=.returned (.int .i64 (kp d i))/\w.grownBy w' none:=by
 have mixed:(ao A).follows .mixedOrders=true:=av;have V:=fit.R;obtain⟨eh,cA,X,dq,g,cq,z,dc⟩:=p;obtain⟨n,y,E,-⟩:=h.kM U;dsimp only at E;subst E;have q:=dU w (.cells (eB d ⟨eh,cA,some ⟨n,y,none⟩,dq,g,cq,z,dc⟩) 25) none;have m:=q.trans (dU (w.alloc (.cells (eB d ⟨eh,cA,some ⟨n,y,none⟩,dq,g,cq,z,dc⟩) 25)) (.cells #[.int .i64 (d.bV i),.slice (g i) (d.eP i) (cq i)] 27) none);obtain⟨b,o,r,F⟩:=(h.keep q).kM U;cases r;obtain⟨Q,W,r,G⟩:=(h.keep m).kM U;cases r;obtain⟨D,K⟩:=F i u;have C:=al ((h.keep m).cQ i u);have I:=al G;have j:=al m;have H:=al fit;have J:=al (λw=>E7 (A:=A) d ⟨eh,cA,some ⟨n,y,none⟩,dq,g,cq,z,dc⟩ (g i) (d.eP i) (cq i) (H.out.P i u) (d.cQ i) w);have Z:(i:Int)<d.bk:=U;have aa:(0:Int)<=i:=U;clear q m h F G fit;by_cases f:0<=d.bV i/\d.bV i<=4;rotate_left
 .have l:decide (0<=d.bV i/\d.bV i<=4)=false:=decide_eq_false f
  go_enter (S.f Tryz.func82),Tryz.ntmps82;go_wp2_with (go_at_call 35;refine(nh _ _ _ _).mono ?_;rintro e w' ⟨rfl,rfl⟩;rw[l])
  go_ret;exact⟨hR (by rw[Ar f]),j.out⟩
 have l:decide (0<=d.bV i/\d.bV i<=4)=true:=decide_eq_true f;cases c:jG d.bV i;all_goals (
  have B:=al c;rcases i with _|k
  focus (simp only[Nat.zero_mul,Nat.add_zero]at D K)
  rotate_left
  focus (
   have R:=(I.out k U).1;have T:IntKind.i64.wrap (k:Int)=(k:Int):=IntWalk.i64_in _ U;have Y:k<d.bk:=U;have ad:(k:Int)<(d.bk:Int):=U;have ae:(0:Int)<=k:=U;have M:((k:Int)+1 == 0)=false:=ub;have P:decide ((0:Int)<(k:Int)+1)=true:=k4;have z3:=(show decide (d.bV (k+1)<=d.bV k)=jG d.bV (k+1)from rfl).trans c;clear c)
  rotate_right)
 focus (
  have z0:d.bV 0=0:=by simpa [jG]using c
  rw[z0]at D l;rw[z0]at C j;clear c)
 rotate_left 2
 focus (
  have M:(d.bV 0 == 0)=false:=by simpa [jG]using c
  have P:(d.bV 0 !=0)=true:=by simpa [jG]using c
  clear c)
 rotate_left 2
 all_goals (
  go_enter (S.f Tryz.func82),Tryz.ntmps82;go_wp2_with (go_at_call 35;refine(nh _ _ _ _).mono ?_;rintro e w' ⟨rfl,rfl⟩;rw[l])
  go_quiet (fail);go_wp2_with (go_at_call 81;refine(J.out _ (C.out.keep (hl _ _))).mono ?_;rintro e w' ⟨rfl,L⟩)
  go_ret)
 all_goals first
  |exact⟨hR (E2 f B.out),j.out.trans (hl _ _)⟩
  |exact⟨hR (E3 f B.out),(j.out.trans (hl _ _)).trans L⟩
def S0[S:Std A](d:dw)(fit:d.fit)(p:gz)(w:World)(h:iZ w d p):
 Calls (ao A) 61 #[.agg (eB d p)] w λe w'=>e=.returned (.int .i64 (jY d))/\w.grownBy w' none:=by
 have mixed:(ao A).follows .mixedOrders=true:=av;have X:=al (λw=>E7 (A:=A) d p p.eh d.c' p.cA fit.F d.first w);have Y:=al λ(i:Nat) (aw:i<d.bk) (w:World) (h:iZ w d p)=>NY (A:=A) d fit p i aw w h
 have am:=al fit;have R:=dU w (.cells (eB d p) 25) none;have ek:=al (h.keep R);have q:=al R;clear h R fit;by_cases l:1<=d.kinds/\d.kinds<=3;rotate_left
 .have I:decide (1<=d.kinds/\d.kinds<=3)=false:=decide_eq_false l
  go_enter (S.f Tryz.func61),Tryz.ntmps61;go_wp2_with (go_at_call 35;refine(nh _ _ _ _).mono ?_;rintro e w' ⟨rfl,rfl⟩;rw[I])
  go_ret;exact⟨hR (by rw[Cm l]),q.out⟩
 have I:decide (1<=d.kinds/\d.kinds<=3)=true:=decide_eq_true l;obtain⟨n,T⟩:∃n,n=gw d.kinds d.c' d.first:=⟨_,rfl⟩
 have y:=al T;by_cases g:n=0;rotate_left
 .have aA:(n == 0)=false:=by simpa using g
  have ak:decide (n=0)=false:=by simpa using g
  clear T;go_enter (S.f Tryz.func61),Tryz.ntmps61;go_wp2_with (first|(go_at_call 35;refine(nh _ _ _ _).mono ?_;rintro e w' ⟨rfl,rfl⟩;rw[I])|(go_at_call 81;refine(X.out _ ek.out.first).mono ?_;rintro e w2 ⟨rfl,c⟩;rw[<-y.out];have r:=al c;clear c))
  go_ret;exact⟨hR (by rw[Ck l (by rw[<-y.out];exact g),y.out]),q.out.trans r.out⟩
 clear T;subst g;have H:=al y.out.symm;go_enter (S.f Tryz.func61),Tryz.ntmps61;go_upto_region 6 with(first|(go_at_call 35;refine(nh _ _ _ _).mono ?_;rintro e w' ⟨rfl,rfl⟩;rw[I])|(go_at_call 81;refine(X.out _ ek.out.first).mono ?_;rintro e w2 ⟨rfl,c⟩;rw[<-y.out];have r:=al c;clear c))
 have aa:w2.cell? ⟨w.heap.size,2,none⟩=some (.slice p.hH d.bk p.dq):=r.out.cell (a:=⟨w.heap.size,2,none⟩) (dR rfl) aF;by_cases J:d.bk=0
 .have ah:((d.bk:Int) == 0)=true:=by rw[J];rfl
  have ap:=al J;clear J;go_wp2;go_ret;exact⟨hR (by rw[Cj l H.out ap.out]),q.out.trans r.out⟩
 have ah:((d.bk:Int) == 0)=false:=ub;by_cases ad:d.bk>3
 .have ai:decide ((3:Int)<d.bk)=true:=k4
  have aj:decide (3<d.bk)=true:=k4;go_wp2;go_ret;exact⟨hR (by rw[Cn l H.out ad]),q.out.trans r.out⟩
 have ai:decide ((3:Int)<d.bk)=false:=nd;have aj:decide (3<d.bk)=false:=nd;have ag:1<=d.bk/\d.bk<=3:=U;go_wp2;clear aa ah ai aj J ad;go_loopw [4] (λi wr=>∃k:Nat,k<=d.bk/\i=.int .i64 k/\(w.alloc (.cells (eB d p) 25)).grownBy wr none/\hB (kp d) k=0) (λi _=>d.bk-(intOf i).toNat)
 case atStart=>exact⟨0,U,by go_num,r.out,rfl⟩
 case round=>
  obtain⟨k,ax,rfl,c,F⟩:=hrel;have M:=al F;clear F;have aa:wr.cell? ⟨w.heap.size,2,none⟩=some (.slice p.hH d.bk p.dq):=c.cell (a:=⟨w.heap.size,2,none⟩) (dR rfl) aF;have u:wr.cell? ⟨w.heap.size,3,none⟩=some (.slice p.ei d.b' p.dc):=c.cell (a:=⟨w.heap.size,3,none⟩) (dR rfl) aF;have ar:wr.cell? ⟨w.heap.size,0,none⟩=some (.int .i64 d.kinds):=c.cell (a:=⟨w.heap.size,0,none⟩) (dR rfl) aF;have n:wr.cell? ⟨w.heap.size,1,none⟩=some (.slice p.eh d.c' p.cA):=c.cell (a:=⟨w.heap.size,1,none⟩) (dR rfl) aF;by_cases f:k<d.bk
  .have ay:decide ((k:Int)<d.bk)=true:=by simpa using f
   have C:=al c;have Z:=al (ek.out.keep c);clear c;obtain⟨E,ae⟩:∃E,E=kp d k:=⟨_,rfl⟩
   have z:=al ae;clear ae;by_cases g:E=0
   .subst g
    go_wp2_with (go_at_call 82;refine(Y.out k f _ Z.out).mono ?_;rintro e w3 ⟨rfl,c⟩;rw[<-z.out];have P:=al (C.out.trans c);clear c)
    go_roundw
    case rel=>exact⟨k+1,U,by go_num,P.out,nW M.out z.out.symm⟩
    case measure=>simp[intOf];omega
   .have aA:(E == 0)=false:=by simpa using g
    have ak:decide (E=0)=false:=by simpa using g
    go_wp2_with (go_at_call 82;refine(Y.out k f _ Z.out).mono ?_;rintro e w3 ⟨rfl,c⟩;rw[<-z.out];have P:=al (C.out.trans c);clear c)
    go_ret;exact⟨hR (by rw[vN l H.out ag f M.out (by rw[<-z.out];exact g),z.out]),q.out.trans P.out⟩
  .obtain rfl:k=d.bk:=U
   have ay:decide ((d.bk:Int)<d.bk)=false:=aF;have fr:=al (ek.out.keep c).free;have GW:=al (q.out.trans c);have G:=al (Cl l H.out ag M.out);clear c ar n;by_cases K:d.b'=0
   .rw[K]at u
    have aq:=al K;clear K;go_wp2;go_loopw [6] (λi V=>i=.int .i64 0/\wr=V) (λ_ _=>0)
    case atStart=>exact⟨rfl,rfl⟩
    case round=>
     obtain⟨rfl,rfl⟩:=hrel;go_wp2;go_ret;exact⟨by rw[G.out,aq.out];rfl,GW.out⟩
   .obtain⟨b,o,e,af⟩:=fr.out K
    rw[e]at u;have W:=al af;have aE:=am.out.h4;clear af fr e;go_wp2;go_loopw [6] (λi V=>∃k:Nat,k<=d.b'/\i=.int .i64 k/\wr.grownBy V none/\hB (nc d) k=0) (λi _=>d.b'-(intOf i).toNat)
    case atStart=>exact⟨0,U,by go_num,e6 _ _,rfl⟩
    case round=>
     obtain⟨k,ax,rfl,c,F⟩:=hrel;have B:=al F;clear F;have aB:=c.cell u aF;have Q:=al (GW.out.trans c);by_cases f:k<d.b'
     .have au:=c.cell (W.out k f) aF
      have az:decide ((k:Int)<d.b')=true:=by simpa using f
      have C:=al c;by_cases m:0<=d.free k/\d.free k<=4
      .have D:decide (0<=d.free k/\d.free k<=4)=true:=decide_eq_true m
       rcases k with _|k
       .simp only[Nat.add_zero]at au
        clear c u;go_wp2_with (go_at_call 35;refine(nh _ _ _ _).mono ?_;rintro e w' ⟨rfl,rfl⟩;rw[D])
        go_quiet (fail);go_wp2;go_roundw
        case rel=>exact⟨1,U,by go_num,C.out.trans (hl _ _),nW B.out (wm m λj h=>U)⟩
        case measure=>simp[intOf];omega
       .have aC:=c.cell (W.out k U) aF
        have aD:IntKind.i64.wrap (k:Int)=(k:Int):=IntWalk.i64_in _ U;have aG:k<d.b':=U;have aH:(k:Int)<(d.b':Int):=U;have aI:(0:Int)<=k:=U;have ak:decide ((0:Int)<(k:Int)+1)=true:=k4;clear c u;by_cases L:d.free (k+1)<=d.free k
        .have z3:decide (d.free (k+1)<=d.free k)=true:=decide_eq_true L
         go_wp2_with (go_at_call 35;refine(nh _ _ _ _).mono ?_;rintro e w' ⟨rfl,rfl⟩;rw[D])
         go_quiet (fail);go_wp2;go_ret;exact⟨hR (by rw[G.out,qY B.out (by rw[wq m L];omega) d.b' f,wq m L]),Q.out.trans (hl _ _)⟩
        .have z3:decide (d.free (k+1)<=d.free k)=false:=decide_eq_false L
         go_wp2_with (go_at_call 35;refine(nh _ _ _ _).mono ?_;rintro e w' ⟨rfl,rfl⟩;rw[D])
         go_quiet (fail);go_wp2;go_roundw
         case rel=>exact⟨k+2,U,by go_num,C.out.trans (hl _ _),nW B.out (wm m λj h=>by have e:j=k:=U;rw[e];omega)⟩
         case measure=>simp[intOf];omega
      .have D:decide (0<=d.free k/\d.free k<=4)=false:=decide_eq_false m
       clear c u;go_wp2_with (go_at_call 35;refine(nh _ _ _ _).mono ?_;rintro e w' ⟨rfl,rfl⟩;rw[D])
       go_ret;exact⟨hR (by rw[G.out,qY B.out (by rw[wo m];omega) d.b' f,wo m]),Q.out⟩
     .obtain rfl:k=d.b':=U
      have az:decide ((d.b':Int)<d.b')=false:=aF;clear c;go_wp2;go_ret;exact⟨hR (by rw[G.out,B.out]),Q.out⟩
end
end Go.aO
