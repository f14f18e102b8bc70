/- A part. -/
import Derived.Test.YtejkocoljbaioaaGreatDoorP14
import Derived.Deep.Cut
import Derived.Deep.CutRange
set_option maxHeartbeats 8000000
set_option maxRecDepth 100000
set_option linter.all false
namespace Go.aO
open Go.Proofs Go.RowKit
section
variable{A:Array Func}
def nh[S:Std A](n bY c:Int)(w:World):Calls (ao A) 44 #[ah n,ah bY,ah c] w λe w'=>e=.returned (.bool (decide (bY<=n/\n<=c)))/\w=w':=by
 by_cases d:bY<=n
 .by_cases f:n<=c
  .have e:decide (bY<=n/\n<=c)=true:=by simp[d,f]
   rw[e];go_enter (S.f Tryz.func44),Tryz.ntmps44;go_wp2;go_ret;exact⟨rfl,rfl⟩
  .have e:decide (bY<=n/\n<=c)=false:=by simp[f]
   rw[e];go_enter (S.f Tryz.func44),Tryz.ntmps44;go_wp2;go_ret;exact⟨rfl,rfl⟩
 .have e:decide (bY<=n/\n<=c)=false:=by simp[d]
  rw[e];go_enter (S.f Tryz.func44),Tryz.ntmps44;go_wp2;go_ret;exact⟨rfl,rfl⟩
def E7[S:Std A](d:dw)(p:gz)(q:Option Addr)(n c:Nat)(L:n<=1000)(f:Nat->Int)(w:World)(h:kU w q n f):
 Calls (ao A) 54 #[.agg (eB d p),.slice q n c] w λe w'=>e=.returned (ah (gw d.kinds n f))/\w.grownBy w' none:=by
 have l:=al (dU w (.cells (eB d p) 25) none);by_cases j:(n:Int)<d.kinds
 .have C:decide ((n:Int)<d.kinds)=true:=decide_eq_true j
  have hp:gw d.kinds n f=7:=by simp[gw,j]
  have z:=al hp;clear hp;go_enter (S.f Tryz.func54),Tryz.ntmps54;go_wp2;go_ret;exact⟨hR (by rw[z.out]),l.out⟩
 .by_cases g:(n:Int)>d.kinds
  .have C:decide ((n:Int)<d.kinds)=false:=decide_eq_false j
   have J:decide ((n:Int)>d.kinds)=true:=decide_eq_true g;have z3:decide (d.kinds<(n:Int))=true:=decide_eq_true g;have hp:gw d.kinds n f=6:=by rw[gw,if_neg j,if_pos g]
   have z:=al hp;clear hp;go_enter (S.f Tryz.func54),Tryz.ntmps54;go_wp2;go_ret;exact⟨hR (by rw[z.out]),l.out⟩
  .have F:d.kinds=n:=U
   have C:decide ((n:Int)<d.kinds)=false:=decide_eq_false j;have J:decide ((n:Int)>d.kinds)=false:=decide_eq_false g;have z3:decide (d.kinds<(n:Int))=false:=decide_eq_false g;have u:=al F;have I:=al (h.keep (dU w (.cells (eB d p) 25) none));clear h j g F;by_cases D:n=0
   .subst D
    have z4:decide ((0:Int)<d.kinds)=false:=C;have z5:decide (d.kinds<(0:Int))=false:=z3;go_enter (S.f Tryz.func54),Tryz.ntmps54;go_wp2;go_loop [5] (λi=>i=ah 0) (λi=>0)
    case atStart=>rfl
    case round=>
     subst hrel;go_wp2;go_ret;exact⟨by rw[u.out];rfl,l.out⟩
   .obtain⟨b,o,rfl,E⟩:=I.out D
    have H:=al E;clear E;go_enter (S.f Tryz.func54),Tryz.ntmps54;go_wp2;go_loop [5] (λi=>∃k:Nat,k<=n/\i=ah k/\hB (qb f) k=0) (λi=>n-(intOf i).toNat)
    case atStart=>exact⟨0,U,by go_num,rfl⟩
    case round=>
     obtain⟨k,K,rfl,he⟩:=hrel;have r:=al he;clear he;by_cases G:k<n
     .have j:=H.out k G
      by_cases g:0<=f k/\f k<=9
      .have B:decide (0<=f k/\f k<=9)=true:=decide_eq_true g
       go_wp2_with (go_at_call 44;refine(nh _ _ _ _).mono ?_;rintro e w' ⟨rfl,rfl⟩;rw[B])
       go_round
       case rel=>exact⟨k+1,U,by go_num,nW r.out (EG g)⟩
       case measure=>simp[intOf];omega
      .have B:decide (0<=f k/\f k<=9)=false:=decide_eq_false g
       go_wp2_with (go_at_call 44;refine(nh _ _ _ _).mono ?_;rintro e w' ⟨rfl,rfl⟩;rw[B])
       go_ret;exact⟨hR (by rw[u.out,EJ r.out G g]),l.out⟩
     .obtain rfl:k=n:=U
      go_wp2;go_ret;exact⟨hR (by rw[u.out,EK r.out]),l.out⟩
def NY[S:Std A](d:dw)(fit:d.fit)(p:gz)(i:Nat)(B:i<d.bk)(w:World)(h:iZ w d p):
 Calls (ao A) 55 #[.agg (eB d p),ah i] w λe w'=>e=.returned (ah (kp d i))/\w.grownBy w' none:=by
 have Y:=fit.R;obtain⟨eh,cA,aa,dq,g,cq,D,dc⟩:=p;obtain⟨r,C,H,-⟩:=h.kM U;dsimp only at H;subst H;have u:=dU w (.cells (eB d ⟨eh,cA,some ⟨r,C,none⟩,dq,g,cq,D,dc⟩) 25) none;have q:=u.trans (dU (w.alloc (.cells (eB d ⟨eh,cA,some ⟨r,C,none⟩,dq,g,cq,D,dc⟩) 25)) (.cells #[ah (d.bV i),.slice (g i) (d.eP i) (cq i)] 27) none);obtain⟨b,o,z,I⟩:=(h.keep u).kM U;cases z;obtain⟨V,Z,z,J⟩:=(h.keep q).kM U;cases z;obtain⟨G,P⟩:=I i B;have F:=al ((h.keep q).cQ i B);have L:=al J;have j:=al q;have K:=al fit;have M:=al (λw=>E7 (A:=A) d ⟨eh,cA,some ⟨r,C,none⟩,dq,g,cq,D,dc⟩ (g i) (d.eP i) (cq i) (K.out.P i B) (d.cQ i) w);have ad:(i:Int)<d.bk:=U;have ae:(0:Int)<=i:=U;clear u q h I J fit;by_cases f:0<=d.bV i/\d.bV i<=4;rotate_left
 .have l:decide (0<=d.bV i/\d.bV i<=4)=false:=decide_eq_false f
  go_enter (S.f Tryz.func55),Tryz.ntmps55;go_wp2_with (go_at_call 44;refine(nh _ _ _ _).mono ?_;rintro e w' ⟨rfl,rfl⟩;rw[l])
  go_ret;exact⟨hR (by rw[Ar f]),j.out⟩
 have l:decide (0<=d.bV i/\d.bV i<=4)=true:=decide_eq_true f;cases c:jG d.bV i;all_goals (
  have E:=al c;rcases i with _|k
  focus (simp only[Nat.zero_mul,Nat.add_zero]at G P)
  rotate_left
  focus (
   have W:=(L.out k U).1;have X:IntKind.i64.wrap (k:Int)=(k:Int):=IntWalk.i64_in _ U;have af:(k:Int)<(d.bk:Int):=U;have ag:(0:Int)<=k:=U;have R:((k:Int)+1 == 0)=false:=ub;have T:decide ((0:Int)<(k:Int)+1)=true:=k4;have z3:=(show decide (d.bV (k+1)<=d.bV k)=jG d.bV (k+1)from rfl).trans c;clear c)
  rotate_right)
 focus (
  have z0:d.bV 0=0:=by simpa [jG]using c
  rw[z0]at G l;rw[z0]at F j;clear c)
 rotate_left 2
 focus (
  have R:(d.bV 0 == 0)=false:=by simpa [jG]using c
  have T:(d.bV 0 !=0)=true:=by simpa [jG]using c
  clear c)
 rotate_left 2
 all_goals (
  go_enter (S.f Tryz.func55),Tryz.ntmps55;go_wp2_with (go_at_call 44;refine(nh _ _ _ _).mono ?_;rintro e w' ⟨rfl,rfl⟩;rw[l])
  go_quiet (fail);go_wp2_with (go_at_call 54;refine(M.out _ (F.out.keep (hl _ _))).mono ?_;rintro e w' ⟨rfl,Q⟩)
  go_ret)
 all_goals first
  |exact⟨hR (E2 f E.out),j.out.trans (hl _ _)⟩
  |exact⟨hR (E3 f E.out),(j.out.trans (hl _ _)).trans Q⟩
def S0[S:Std A](d:dw)(fit:d.fit)(p:gz)(w:World)(h:iZ w d p):
 Calls (ao A) 19 #[.agg (eB d p)] w λe w'=>e=.returned (ah (jY d))/\w.grownBy w' none:=by
 have aa:=al (λw=>E7 (A:=A) d p p.eh d.c' p.cA fit.F d.first w);have ad:=al λ(i:Nat) (ax:i<d.bk) (w:World) (h:iZ w d p)=>NY (A:=A) d fit p i ax w h
 have aq:=al fit;have W:=dU w (.cells (eB d p) 25) none;have ek:=al (h.keep W);have r:=al W;clear h W fit;by_cases f:1<=d.kinds/\d.kinds<=3;rotate_left
 .have K:decide (1<=d.kinds/\d.kinds<=3)=false:=decide_eq_false f
  go_enter (S.f Tryz.func19),Tryz.ntmps19;go_wp2_with (go_at_call 44;refine(nh _ _ _ _).mono ?_;rintro e w' ⟨rfl,rfl⟩;rw[K])
  go_ret;exact⟨hR (by rw[Cm f]),r.out⟩
 have K:decide (1<=d.kinds/\d.kinds<=3)=true:=decide_eq_true f;obtain⟨z,X⟩:∃z,z=gw d.kinds d.c' d.first:=⟨_,rfl⟩
 have C:=al X;by_cases q:z=0;rotate_left
 .have aA:(z == 0)=false:=by simpa using q
  clear X;go_enter (S.f Tryz.func19),Tryz.ntmps19;go_wp2_with (first|(go_at_call 44;refine(nh _ _ _ _).mono ?_;rintro e w' ⟨rfl,rfl⟩;rw[K])|(go_at_call 54;refine(aa.out _ ek.out.first).mono ?_;rintro e w2 ⟨rfl,c⟩;rw[<-C.out];have u:=al c;clear c))
  go_ret;exact⟨hR (by rw[Ck f (by rw[<-C.out];exact q),C.out]),r.out.trans u.out⟩
 clear X;subst q;have J:=al C.out.symm;go_enter (S.f Tryz.func19),Tryz.ntmps19;go_upto_region 6 with(first|(go_at_call 44;refine(nh _ _ _ _).mono ?_;rintro e w' ⟨rfl,rfl⟩;rw[K])|(go_at_call 54;refine(aa.out _ ek.out.first).mono ?_;rintro e w2 ⟨rfl,c⟩;rw[<-C.out];have u:=al c;clear c))
 have af:w2.cell? ⟨w.heap.size,2,none⟩=some (.slice p.hH d.bk p.dq):=u.out.cell (a:=⟨w.heap.size,2,none⟩) (dR rfl) aF;by_cases M:d.bk=0
 .have am:((d.bk:Int) == 0)=true:=by rw[M];rfl
  have ar:=al M;clear M;go_wp2;go_ret;exact⟨hR (by rw[Cj f J.out ar.out]),r.out.trans u.out⟩
 have am:((d.bk:Int) == 0)=false:=ub;by_cases ag:d.bk>3
 .have ap:decide ((3:Int)<d.bk)=true:=k4
  go_wp2;go_ret;exact⟨hR (by rw[Cn f J.out ag]),r.out.trans u.out⟩
 have ap:decide ((3:Int)<d.bk)=false:=nd;have ak:1<=d.bk/\d.bk<=3:=U;go_wp2;clear af am ap M ag;go_loopw [4] (λi wr=>∃k:Nat,k<=d.bk/\i=ah k/\(w.alloc (.cells (eB d p) 25)).grownBy wr none/\hB (kp d) k=0) (λi _=>d.bk-(intOf i).toNat)
 case atStart=>exact⟨0,U,by go_num,u.out,rfl⟩
 case round=>
  obtain⟨k,ay,rfl,c,H⟩:=hrel;have R:=al H;clear H;have af:wr.cell? ⟨w.heap.size,2,none⟩=some (.slice p.hH d.bk p.dq):=c.cell (a:=⟨w.heap.size,2,none⟩) (dR rfl) aF;have B:wr.cell? ⟨w.heap.size,3,none⟩=some (.slice p.ei d.b' p.dc):=c.cell (a:=⟨w.heap.size,3,none⟩) (dR rfl) aF;have av:wr.cell? ⟨w.heap.size,0,none⟩=some (ah d.kinds):=c.cell (a:=⟨w.heap.size,0,none⟩) (dR rfl) aF;have z:wr.cell? ⟨w.heap.size,1,none⟩=some (.slice p.eh d.c' p.cA):=c.cell (a:=⟨w.heap.size,1,none⟩) (dR rfl) aF;by_cases g:k<d.bk
  .have F:=al c
   have ae:=al (ek.out.keep c);clear c;obtain⟨L,ai⟩:∃L,L=kp d k:=⟨_,rfl⟩
   have D:=al ai;clear ai;by_cases q:L=0
   .subst q
    go_wp2_with (go_at_call 55;refine(ad.out k g _ ae.out).mono ?_;rintro e w3 ⟨rfl,c⟩;rw[<-D.out];have T:=al (F.out.trans c);clear c)
    go_roundw
    case rel=>exact⟨k+1,U,by go_num,T.out,nW R.out D.out.symm⟩
    case measure=>simp[intOf];omega
   .have aA:(L == 0)=false:=by simpa using q
    go_wp2_with (go_at_call 55;refine(ad.out k g _ ae.out).mono ?_;rintro e w3 ⟨rfl,c⟩;rw[<-D.out];have T:=al (F.out.trans c);clear c)
    go_ret;exact⟨hR (by rw[vN f J.out ak g R.out (by rw[<-D.out];exact q),D.out]),r.out.trans T.out⟩
  .obtain rfl:k=d.bk:=U
   have fr:=al (ek.out.keep c).free;have GW:=al (r.out.trans c);have I:=al (Cl f J.out ak R.out);clear c av z;by_cases P:d.b'=0
   .rw[P]at B
    have au:=al P;clear P;go_wp2;go_loopw [6] (λi Y=>i=ah 0/\wr=Y) (λ_ _=>0)
    case atStart=>exact⟨rfl,rfl⟩
    case round=>
     obtain⟨rfl,rfl⟩:=hrel;go_wp2;go_ret;exact⟨by rw[I.out,au.out];rfl,GW.out⟩
   .obtain⟨b,o,e,aj⟩:=fr.out P
    rw[e]at B;have Z:=al aj;have aE:=aq.out.h4;clear aj fr e;go_wp2;go_loopw [6] (λi Y=>∃k:Nat,k<=d.b'/\i=ah k/\wr.grownBy Y none/\hB (nc d) k=0) (λi _=>d.b'-(intOf i).toNat)
    case atStart=>exact⟨0,U,by go_num,e6 _ _,rfl⟩
    case round=>
     obtain⟨k,ay,rfl,c,H⟩:=hrel;have E:=al H;clear H;have aB:=c.cell B aF;have V:=al (GW.out.trans c);by_cases g:k<d.b'
     .have aw:=c.cell (Z.out k g) aF
      have az:decide ((k:Int)<d.b')=true:=by simpa using g
      have F:=al c;by_cases l:0<=d.free k/\d.free k<=4
      .have G:decide (0<=d.free k/\d.free k<=4)=true:=decide_eq_true l
       rcases k with _|k
       .simp only[Nat.add_zero]at aw
        clear c B;go_wp2_with (go_at_call 44;refine(nh _ _ _ _).mono ?_;rintro e w' ⟨rfl,rfl⟩;rw[G])
        go_quiet (fail);go_wp2;go_roundw
        case rel=>exact⟨1,U,by go_num,F.out.trans (hl _ _),nW E.out (wm l λj h=>U)⟩
        case measure=>simp[intOf];omega
       .have aC:=c.cell (Z.out k U) aF
        have aD:IntKind.i64.wrap (k:Int)=(k:Int):=IntWalk.i64_in _ U;have aG:(k:Int)<(d.b':Int):=U;have aH:(0:Int)<=k:=U;clear c B;by_cases Q:d.free (k+1)<=d.free k
        .have z3:decide (d.free (k+1)<=d.free k)=true:=decide_eq_true Q
         go_wp2_with (go_at_call 44;refine(nh _ _ _ _).mono ?_;rintro e w' ⟨rfl,rfl⟩;rw[G])
         go_quiet (fail);go_wp2;go_ret;exact⟨hR (by rw[I.out,qY E.out (by rw[wq l Q];omega) d.b' g,wq l Q]),V.out.trans (hl _ _)⟩
        .have z3:decide (d.free (k+1)<=d.free k)=false:=decide_eq_false Q
         go_wp2_with (go_at_call 44;refine(nh _ _ _ _).mono ?_;rintro e w' ⟨rfl,rfl⟩;rw[G])
         go_quiet (fail);go_wp2;go_roundw
         case rel=>exact⟨k+2,U,by go_num,F.out.trans (hl _ _),nW E.out (wm l λj h=>by have e:j=k:=U;rw[e];omega)⟩
         case measure=>simp[intOf];omega
      .have G:decide (0<=d.free k/\d.free k<=4)=false:=decide_eq_false l
       clear c B;go_wp2_with (go_at_call 44;refine(nh _ _ _ _).mono ?_;rintro e w' ⟨rfl,rfl⟩;rw[G])
       go_ret;exact⟨hR (by rw[I.out,qY E.out (by rw[wo l];omega) d.b' g,wo l]),V.out⟩
     .obtain rfl:k=d.b':=U
      have az:decide ((d.b':Int)<d.b')=false:=aF;clear c;go_wp2;go_ret;exact⟨hR (by rw[I.out,E.out]),V.out⟩
end
end Go.aO
