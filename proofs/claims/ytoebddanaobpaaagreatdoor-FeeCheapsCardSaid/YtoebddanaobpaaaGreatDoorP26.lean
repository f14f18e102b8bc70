/- A part. -/
import Derived.Test.YtoebddanaobpaaaGreatDoorP14
import Derived.Deep.Cut
import Derived.Deep.CutRange
set_option maxHeartbeats 8000000
set_option maxRecDepth 100000
set_option linter.all false
namespace Go.aO
open Go.Proofs Tryz Go.RowKit
section
variable{A:TJ}
def nh[S:Std A](n bY c:Int)(w:S7):Calls (ao A) 34 #[ah n,ah bY,ah c] w λe w'=>e=.returned (.bool (decide (bY<=n/\n<=c)))/\w=w':=by
 by_cases d:bY<=n
 .by_cases f:n<=c
  .have e:decide (bY<=n/\n<=c)=true:=by simp[d,f]
   rw[e];go_enter (S.f func34),ntmps34;go_wp2;go_ret;exact⟨S6,S6⟩
  .have e:decide (bY<=n/\n<=c)=false:=by simp[f]
   rw[e];go_enter (S.f func34),ntmps34;go_wp2;go_ret;exact⟨S6,S6⟩
 .have e:decide (bY<=n/\n<=c)=false:=by simp[d]
  rw[e];go_enter (S.f func34),ntmps34;go_wp2;go_ret;exact⟨S6,S6⟩
def E7[S:Std A](d:dw)(p:gz)(q:TV)(n c:Nat)(J:n<=1000)(f:Ty)(w:S7)(h:kU w q n f):
 Calls (ao A) 74 #[.agg (eB d p),.slice q n c] w λe w'=>e=.returned (ah (gw d.kinds n f))/\w.grownBy w' none:=by
 have l:=al (dU w (.cells (eB d p) 25) none);by_cases j:(n:Int)<d.kinds
 .have z:decide ((n:Int)<d.kinds)=true:=Uc j
  have hp:gw d.kinds n f=7:=by simp[gw,j]
  have u:=al hp;clear hp;go_enter (S.f func74),ntmps74;go_wp2;go_ret;exact⟨hR (by rw[u.out]),l.out⟩
 .by_cases g:(n:Int)>d.kinds
  .have z:decide ((n:Int)<d.kinds)=false:=Ua j
   have H:decide ((n:Int)>d.kinds)=true:=Uc g;have z3:decide (d.kinds<(n:Int))=true:=Uc g;have hp:gw d.kinds n f=6:=by rw[gw,Tm j,Tq g]
   have u:=al hp;clear hp;go_enter (S.f func74),ntmps74;go_wp2;go_ret;exact⟨hR (by rw[u.out]),l.out⟩
  .have D:d.kinds=n:=U
   have z:decide ((n:Int)<d.kinds)=false:=Ua j;have H:decide ((n:Int)>d.kinds)=false:=Ua g;have z3:decide (d.kinds<(n:Int))=false:=Ua g;have r:=al D;have G:=al (h.keep (dU w (.cells (eB d p) 25) none));clear h j g D;by_cases B:n=0
   .subst B
    have z4:decide ((0:Int)<d.kinds)=false:=z;have z5:decide (d.kinds<(0:Int))=false:=z3;go_enter (S.f func74),ntmps74;go_wp2;go_loop [5] (λi=>i=ah 0) (λi=>0)
    case atStart=>rfl
    case round=>
     subst hrel;go_wp2;go_ret;exact⟨by rw[r.out];rfl,l.out⟩
   .obtain⟨b,o,rfl,C⟩:=G.out B
    have F:=al C;clear C;go_enter (S.f func74),ntmps74;go_wp2;go_loop [5] (λi=>∃k:Nat,k<=n/\i=ah k/\hB (qb f) k=0) (λi=>n-(intOf i).toNat)
    case atStart=>exact⟨0,U,by go_num,S6⟩
    case round=>
     obtain⟨k,I,rfl,he⟩:=hrel;have m:=al he;clear he;by_cases E:k<n
     .have j:=F.out k E
      by_cases g:0<=f k/\f k<=9
      .have y:decide (0<=f k/\f k<=9)=true:=Uc g
       go_wp2_with (go_at_call 34;refine(nh _ _ _ _).mono ?_;rintro e w' ⟨rfl,rfl⟩;rw[y])
       go_round
       case rel=>exact⟨k+1,U,by go_num,nW m.out (EG g)⟩
       case measure=>simp[intOf];omega
      .have y:decide (0<=f k/\f k<=9)=false:=Ua g
       go_wp2_with (go_at_call 34;refine(nh _ _ _ _).mono ?_;rintro e w' ⟨rfl,rfl⟩;rw[y])
       go_ret;exact⟨hR (by rw[r.out,EJ m.out E g]),l.out⟩
     .obtain rfl:k=n:=U
      go_wp2;go_ret;exact⟨hR (by rw[r.out,EK m.out]),l.out⟩
def NY[S:Std A](d:dw)(fit:d.fit)(p:gz)(i:Nat)(u:i<d.bk)(w:S7)(h:iZ w d p):
 Calls (ao A) 75 #[.agg (eB d p),ah i] w λe w'=>e=.returned (ah (kp d i))/\w.grownBy w' none:=by
 have V:=fit.R;obtain⟨eh,cA,X,dq,g,cq,z,dc⟩:=p;obtain⟨n,y,E,-⟩:=h.kM U;dsimp only at E;subst E;have q:=dU w (.cells (eB d ⟨eh,cA,some (S8 n y),dq,g,cq,z,dc⟩) 25) none;have m:=q.trans (dU (w.alloc (.cells (eB d ⟨eh,cA,some (S8 n y),dq,g,cq,z,dc⟩) 25)) (.cells #[ah (d.bV i),.slice (g i) (d.eP i) (cq i)] 27) none);let⟨b,o,r,F⟩:=(h.keep q).kM U;cases r;let⟨Q,W,r,G⟩:=(h.keep m).kM U;cases r;let⟨D,K⟩:=F i u;have C:=al ((h.keep m).cQ i u);have I:=al G;have j:=al m;have H:=al fit;have J:=al (λw=>E7 (A:=A) d ⟨eh,cA,some (S8 n y),dq,g,cq,z,dc⟩ (g i) (d.eP i) (cq i) (H.out.P i u) (d.cQ i) w);have Y:(i:Int)<d.bk:=U;have Z:(0:Int)<=i:=U;clear q m h F G fit;by_cases f:0<=d.bV i/\d.bV i<=4;rotate_left
 .have l:decide (0<=d.bV i/\d.bV i<=4)=false:=Ua f
  go_enter (S.f func75),ntmps75;go_wp2_with (go_at_call 34;refine(nh _ _ _ _).mono ?_;rintro e w' ⟨rfl,rfl⟩;rw[l])
  go_ret;exact⟨hR (by rw[Ar f]),j.out⟩
 have l:decide (0<=d.bV i/\d.bV i<=4)=true:=Uc f;cases c:jG d.bV i;all_goals (
  have B:=al c;rcases i with _|k
  focus (simp only[Nat.zero_mul,Nat.add_zero]at D K)
  rotate_left
  focus (
   have R:=(I.out k U).1;have T:IntKind.i64.wrap (k:Int)=(k:Int):=IntWalk.i64_in _ U;have aa:(k:Int)<(d.bk:Int):=U;have ad:(0:Int)<=k:=U;have M:((k:Int)+1 == 0)=false:=ub;have P:decide ((0:Int)<(k:Int)+1)=true:=k4;have z3:=(show decide (d.bV (k+1)<=d.bV k)=jG d.bV (k+1)from S6).trans c;clear c)
  rotate_right)
 focus (
  have z0:d.bV 0=0:=by simpa [jG]using c
  rw[z0]at D l;rw[z0]at C j;clear c)
 rotate_left 2
 focus (
  have M:(d.bV 0 == 0)=false:=by simpa [jG]using c
  have P:(d.bV 0 !=0)=true:=by simpa [jG]using c
  clear c)
 rotate_left 2
 all_goals (
  go_enter (S.f func75),ntmps75;go_wp2_with (go_at_call 34;refine(nh _ _ _ _).mono ?_;rintro e w' ⟨rfl,rfl⟩;rw[l])
  go_quiet (fail);go_wp2_with (go_at_call 74;refine(J.out _ (C.out.keep (hl _ _))).mono ?_;rintro e w' ⟨rfl,L⟩)
  go_ret)
 all_goals first
  |exact⟨hR (E2 f B.out),j.out.trans (hl _ _)⟩
  |exact⟨hR (E3 f B.out),(j.out.trans (hl _ _)).trans L⟩
def S0[S:Std A](d:dw)(fit:d.fit)(p:gz)(w:S7)(h:iZ w d p):
 Calls (ao A) 57 #[.agg (eB d p)] w λe w'=>e=.returned (ah (jY d))/\w.grownBy w' none:=by
 have X:=al (λw=>E7 (A:=A) d p p.eh d.c' p.cA fit.F d.first w);have Y:=al λ(i:Nat) (au:i<d.bk) (w:S7) (h:iZ w d p)=>NY (A:=A) d fit p i au w h
 have ak:=al fit;have R:=dU w (.cells (eB d p) 25) none;have ek:=al (h.keep R);have n:=al R;clear h R fit;by_cases f:1<=d.kinds/\d.kinds<=3;rotate_left
 .have H:decide (1<=d.kinds/\d.kinds<=3)=false:=Ua f
  go_enter (S.f func57),ntmps57;go_wp2_with (go_at_call 34;refine(nh _ _ _ _).mono ?_;rintro e w' ⟨rfl,rfl⟩;rw[H])
  go_ret;exact⟨hR (by rw[Cm f]),n.out⟩
 have H:decide (1<=d.kinds/\d.kinds<=3)=true:=Uc f;obtain⟨r,T⟩:∃r,r=gw d.kinds d.c' d.first:=⟨_,S6⟩
 have y:=al T;by_cases m:r=0;rotate_left
 .have ax:(r == 0)=false:=by simpa using m
  clear T;go_enter (S.f func57),ntmps57;go_wp2_with (first|(go_at_call 34;refine(nh _ _ _ _).mono ?_;rintro e w' ⟨rfl,rfl⟩;rw[H])|(go_at_call 74;refine(X.out _ ek.out.first).mono ?_;rintro e w2 ⟨rfl,c⟩;rw[<-y.out];have q:=al c;clear c))
  go_ret;exact⟨hR (by rw[Ck f (by rw[<-y.out];exact m),y.out]),n.out.trans q.out⟩
 clear T;subst m;have G:=al y.out.symm;go_enter (S.f func57),ntmps57;go_upto_region 6 with(first|(go_at_call 34;refine(nh _ _ _ _).mono ?_;rintro e w' ⟨rfl,rfl⟩;rw[H])|(go_at_call 74;refine(X.out _ ek.out.first).mono ?_;rintro e w2 ⟨rfl,c⟩;rw[<-y.out];have q:=al c;clear c))
 have aa:w2.cell? (S8 w.heap.size 2)=some (.slice p.hH d.bk p.dq):=q.out.cell (a:=(S8 w.heap.size 2)) (dR S6) aF;by_cases J:d.bk=0
 .have ai:((d.bk:Int) == 0)=true:=by rw[J];rfl
  have am:=al J;clear J;go_wp2;go_ret;exact⟨hR (by rw[Cj f G.out am.out]),n.out.trans q.out⟩
 have ai:((d.bk:Int) == 0)=false:=ub;by_cases ad:d.bk>3
 .have aj:decide ((3:Int)<d.bk)=true:=k4
  go_wp2;go_ret;exact⟨hR (by rw[Cn f G.out ad]),n.out.trans q.out⟩
 have aj:decide ((3:Int)<d.bk)=false:=nd;have ag:1<=d.bk/\d.bk<=3:=U;go_wp2;clear aa ai aj J ad;go_loopw [4] (λi wr=>∃k:Nat,k<=d.bk/\i=ah k/\(w.alloc (.cells (eB d p) 25)).grownBy wr none/\hB (kp d) k=0) (λi _=>d.bk-(intOf i).toNat)
 case atStart=>exact⟨0,U,by go_num,q.out,S6⟩
 case round=>
  obtain⟨k,av,rfl,c,E⟩:=hrel;have M:=al E;clear E;have aa:wr.cell? (S8 w.heap.size 2)=some (.slice p.hH d.bk p.dq):=c.cell (a:=(S8 w.heap.size 2)) (dR S6) aF;have u:wr.cell? (S8 w.heap.size 3)=some (.slice p.ei d.b' p.dc):=c.cell (a:=(S8 w.heap.size 3)) (dR S6) aF;have aq:wr.cell? (Ti w.heap.size)=Tn d.kinds:=c.cell (a:=(Ti w.heap.size)) (dR S6) aF;have r:wr.cell? (S8 w.heap.size 1)=some (.slice p.eh d.c' p.cA):=c.cell (a:=(S8 w.heap.size 1)) (dR S6) aF;by_cases g:k<d.bk
  .have C:=al c
   have Z:=al (ek.out.keep c);clear c;obtain⟨I,ae⟩:∃I,I=kp d k:=⟨_,S6⟩
   have z:=al ae;clear ae;by_cases m:I=0
   .subst m
    go_wp2_with (go_at_call 75;refine(Y.out k g _ Z.out).mono ?_;rintro e w3 ⟨rfl,c⟩;rw[<-z.out];have P:=al (C.out.trans c);clear c)
    go_roundw
    case rel=>exact⟨k+1,U,by go_num,P.out,nW M.out z.out.symm⟩
    case measure=>simp[intOf];omega
   .have ax:(I == 0)=false:=by simpa using m
    go_wp2_with (go_at_call 75;refine(Y.out k g _ Z.out).mono ?_;rintro e w3 ⟨rfl,c⟩;rw[<-z.out];have P:=al (C.out.trans c);clear c)
    go_ret;exact⟨hR (by rw[vN f G.out ag g M.out (by rw[<-z.out];exact m),z.out]),n.out.trans P.out⟩
  .obtain rfl:k=d.bk:=U
   have fr:=al (ek.out.keep c).free;have GW:=al (n.out.trans c);have F:=al (Cl f G.out ag M.out);clear c aq r;by_cases K:d.b'=0
   .rw[K]at u
    have ap:=al K;clear K;go_wp2;go_loopw [6] (λi V=>i=ah 0/\wr=V) (λ_ _=>0)
    case atStart=>exact⟨S6,S6⟩
    case round=>
     obtain⟨rfl,rfl⟩:=hrel;go_wp2;go_ret;exact⟨by rw[F.out,ap.out];rfl,GW.out⟩
   .let⟨b,o,e,af⟩:=fr.out K
    rw[e]at u;have W:=al af;have aB:=ak.out.h4;clear af fr e;go_wp2;go_loopw [6] (λi V=>∃k:Nat,k<=d.b'/\i=ah k/\wr.grownBy V none/\hB (nc d) k=0) (λi _=>d.b'-(intOf i).toNat)
    case atStart=>exact⟨0,U,by go_num,e6 _ _,S6⟩
    case round=>
     obtain⟨k,av,rfl,c,E⟩:=hrel;have B:=al E;clear E;have ay:=c.cell u aF;have Q:=al (GW.out.trans c);by_cases g:k<d.b'
     .have ar:=c.cell (W.out k g) aF
      have aw:decide ((k:Int)<d.b')=true:=by simpa using g
      have C:=al c;by_cases l:0<=d.free k/\d.free k<=4
      .have D:decide (0<=d.free k/\d.free k<=4)=true:=Uc l
       rcases k with _|k
       .simp only[Nat.add_zero]at ar
        clear c u;go_wp2_with (go_at_call 34;refine(nh _ _ _ _).mono ?_;rintro e w' ⟨rfl,rfl⟩;rw[D])
        go_quiet (fail);go_wp2;go_roundw
        case rel=>exact⟨1,U,by go_num,C.out.trans (hl _ _),nW B.out (wm l λj h=>U)⟩
        case measure=>simp[intOf];omega
       .have az:=c.cell (W.out k U) aF
        have aA:IntKind.i64.wrap (k:Int)=(k:Int):=IntWalk.i64_in _ U;have aC:(k:Int)<(d.b':Int):=U;have aD:(0:Int)<=k:=U;clear c u;by_cases L:d.free (k+1)<=d.free k
        .have z3:decide (d.free (k+1)<=d.free k)=true:=Uc L
         go_wp2_with (go_at_call 34;refine(nh _ _ _ _).mono ?_;rintro e w' ⟨rfl,rfl⟩;rw[D])
         go_quiet (fail);go_wp2;go_ret;exact⟨hR (by rw[F.out,qY B.out (by rw[wq l L];omega) d.b' g,wq l L]),Q.out.trans (hl _ _)⟩
        .have z3:decide (d.free (k+1)<=d.free k)=false:=Ua L
         go_wp2_with (go_at_call 34;refine(nh _ _ _ _).mono ?_;rintro e w' ⟨rfl,rfl⟩;rw[D])
         go_quiet (fail);go_wp2;go_roundw
         case rel=>exact⟨k+2,U,by go_num,C.out.trans (hl _ _),nW B.out (wm l λj h=>by have e:j=k:=U;rw[e];omega)⟩
         case measure=>simp[intOf];omega
      .have D:decide (0<=d.free k/\d.free k<=4)=false:=Ua l
       clear c u;go_wp2_with (go_at_call 34;refine(nh _ _ _ _).mono ?_;rintro e w' ⟨rfl,rfl⟩;rw[D])
       go_ret;exact⟨hR (by rw[F.out,qY B.out (by rw[wo l];omega) d.b' g,wo l]),Q.out⟩
     .obtain rfl:k=d.b':=U
      have aw:decide ((d.b':Int)<d.b')=false:=aF;clear c;go_wp2;go_ret;exact⟨hR (by rw[F.out,B.out]),Q.out⟩
end
end Go.aO
