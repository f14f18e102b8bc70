/- A part of FeeDearer: no conditions. -/
import Derived.Test.YtalhadgndijcmaaGreatDoorRDearer0
set_option maxHeartbeats 8000000
set_option maxRecDepth 100000
set_option linter.all false
namespace Go.aN
open Go.Proofs Go.RowKit
section
variable{A:Array Func}
def PO(d:cR): Nat->Nat->Int
 | 0,_=>-1
 | i+1,day=>if d.dz i<=day then i else PO d i day
theorem Qi(d:cR)(day:Nat): ∀i,-1<=PO d i day/\PO d i day<i
 | 0=>by simp[PO]
 | i+1=>by
  have:=Qi d day i;unfold PO;split
  . omega
  . omega
def PK(d:cR)(r k:Nat): cR:={d with fD:=λi j=>if i=r/\j=k then d.fD r k+1 else d.fD i j}
theorem P3{d:cR}(ok:d.ok){r k:Nat}(ao:r<d.eY)(U:k<d.kinds)(cX:d.fD r k≠9): (PK d r k).ok where
 kinds:=ok.kinds
 first:=ok.first
 eY:=ok.eY
 zero:=ok.zero
 dz:=ok.dz
 rP:=ok.rP
 fD i aj j aC:=by
  have I:=ok.fD i aj j aC;have J:=ok.fD r ao k U;show 0<=(if i=r/\j=k then d.fD r k+1 else d.fD i j)/\(if i=r/\j=k then d.fD r k+1 else d.fD i j)<=9;split
  . omega
  . exact I
 fC:=ok.fC
 free:=ok.free
 Av:=ok.Av
def PW(d:cR)(r i day:Nat): Int:=if PO d i day=r then 1 else 0
theorem P8(d:cR)(r k day:Nat): ∀i,lp (PK d r k) k i day=lp d k i day+PW d r i day
 | 0=>by
  show(0:Int)=0+PW d r 0 day;unfold PW PO;rw[if_neg (by omega)];rfl
 | i+1=>by
  have c:=P8 d r k day i;unfold PW at c ⊢;unfold lp PO;show(if d.dz i<=day then(if i=r/\k=k then d.fD r k+1 else d.fD i k) else lp (PK d r k) k i day)=_;by_cases aB:d.dz i<=day
  . rw[if_pos aB,if_pos aB,if_pos aB]
    by_cases aj:i=r
    . subst aj
      rw[if_pos ⟨rfl,rfl⟩,if_pos rfl]
    . rw[if_neg (λh=>aj h.1),if_neg (by omega)]
      omega
  . rw[if_neg aB,if_neg aB,if_neg aB]
    exact c
def PL(d:cR)(r day:Nat): Int:=if PO d d.eY day=r/\¬ ∃i,i<d.fC/\d.free i=day then 1 else 0
theorem P9(d:cR)(r day:Nat): 0<=PL d r day/\PL d r day<=1:=by unfold PL;split<;>omega
theorem Qk(d:cR)(r k day:Nat): cC (PK d r k) k day=cC d k day+PL d r day:=by
 unfold cC PL;by_cases aB:∃i,i<d.fC/\d.free i=day
 . rw[P0 d.fC aB,show rf (PK d r k) k (PK d r k).fC day=0 from P0 (d:=PK d r k) d.fC aB,if_neg (λh=>h.2 aB)]
   rfl
 . rw[P1 d.fC aB,show rf (PK d r k) k (PK d r k).fC day=lp (PK d r k) k d.eY day from P1 (d:=PK d r k) d.fC aB,P8]
   unfold PW;by_cases ao:PO d d.eY day=r
   . rw[if_pos ao,if_pos ⟨ao,aB⟩]
   . rw[if_neg ao,if_neg (λh=>ao h.1)]
theorem P7(t u:Nat->Int)(a:Nat): ∀n,jb (λx=>t x+u x) a n=jb t a n+jb u a n
 | 0=>rfl
 | n+1=>by have:=P7 t u a n;simp only[jb];omega
theorem Qf(d:cR)(r k a b:Nat): fP (d.first k) (cC (PK d r k) k) a b=fP (d.first k) (cC d k) a b+jb (PL d r) (a / 24+1) (b / 24-a / 24):=by
 have e:cC (PK d r k) k=λday=>cC d k day+PL d r day:=funext λday=>Qk d r k day
 rw[e];unfold fP;rw[P7];omega
theorem P6(d:cR)(r a:Nat): ∀n:Nat,0<=jb (PL d r) a n/\jb (PL d r) a n<=n
 | 0=>by simp[jb]
 | n+1=>by have:=P6 d r a n;have:=P9 d r (a+n);simp only[jb];omega
theorem fy.P'{w:World}{d:cR}{p:dU}(h:fy w d p){r k:Nat}(ao:r<d.eY)(U:k<d.kinds){cur:Array Value}(hb:w.heap[p.im r]?=some (.cells cur 3))(av:p.sy r=0)(hF:p.im r≠p.gv)(cT:p.im r≠p.j9)(l:∀b o,p.hE=some ⟨b,o,none⟩->b≠p.im r)(g:∀i,i<d.eY->i≠r->p.im i≠p.im r)(n:Int)(ak:n=d.fD r k+1):
 fy (w.setCell ⟨p.im r,k,none⟩ (.int .i64 n)) (PK d r k) p where
 first:=h.first.PM (ft (by show p.gv≠p.im r;exact Ne.symm hF))
 dz i aj:=(World.cell?_of_block (ft (by show p.j9≠p.im r;exact Ne.symm cT))).trans (h.dz i aj)
 rows i aj:=(World.cell?_of_block (ft (by show p.j9≠p.im r;exact Ne.symm cT))).trans (h.rows i aj)
 fD i aj j aC:=by
  show(w.setCell _ _).cell? ⟨p.im i,p.sy i+j,none⟩=some (.int .i64 (if i=r/\j=k then d.fD r k+1 else d.fD i j));have I:=h.fD i aj j aC;by_cases c:i=r
  . subst c
    rw[av,Nat.zero_add] at I ⊢;rw[aT hb] at I;have z:j<cur.size:=by
     rcases Nat.lt_or_ge j cur.size with x|x
     . exact x
     . rw[Array.getElem?_eq_none x] at I;cases I
    have J:=h.fD i aj k U;rw[av,Nat.zero_add,aT hb] at J;have u:k<cur.size:=by
     rcases Nat.lt_or_ge k cur.size with x|x
     . exact x
     . rw[Array.getElem?_eq_none x] at J;cases J
    rw[aT (cQ hb),Array.getElem?_setIfInBounds];by_cases f:k=j
    . subst f
      simp[u,ak]
    . rw[if_neg f,if_neg (λx=>f x.2.symm)]
      exact I
  . rw[if_neg (λx=>c x.1)]
    exact(World.cell?_of_block (ft (by show p.im i≠p.im r;exact g i aj c))).trans I
 free ak:=by obtain⟨b,o,e,q⟩:=h.free ak;exact⟨b,o,e,q.PM (ft (by show b≠p.im r;exact l b o e))⟩
end
section
variable{A:Array Func}
theorem Qa[S:Std A][P:gg A](aV:∀w,Calls (ag A) 16 #[] w λe w'=>e=.returned (.bool true)/\w=w')(w:World)(L:Value)(h:j4 w L w.heap.size)(eP:L.oneCell'=true):
 Calls (ag A) 11 #[L] w λe _=>e=.returned (.bool true):=by
 have bf:=Pj (O' (A:=A) L w h eP);clear h;go_enter (S.f Tryz.func11),Tryz.ntmps11;go_upto_region 4 with (first
  | (go_at_call 17;refine bf.out.mono ?_;rintro e bG ⟨rfl,az,g⟩;have bi:=Pj az;clear az g)
  | (go_at_call 28;refine(Pe (A:=A) w.heap.size 0 L (by omega) bG bi.out).mono ?_;rintro e w2 ⟨d,p,aU,ok,rfl,a0,a2,bP,az,g⟩;have au:=Pj az;have bl:=Pj a0;clear az g a0)
  | (go_at_call 29;refine(Pb (A:=A) w.heap.size aU L (by omega) d ok p _ (au.out.alloc _)).mono ?_;rintro e w3 ⟨k,left,aK,rfl,U,aE,aB,az,g⟩;have t3:fy w3 d p:=((bl.out.keep Pn).uw g a2);have aQ:w3.heap[w2.heap.size]?=some (.cells (cO d p) 25):=((g.block _ (by simp) (λe=>by have:=Pm e;have:=au.out.lt;omega)).trans (gA _ _));have bR:w.heap.size<w2.heap.size:=au.out.lt;have bj:=Pj az;have aM:=Pj t3;have Z:=Pj aQ;clear az g t3 aQ))
 generalize w2.heap.size=B at *;have aW:=bp Z.out;have bQ:=ok.eY;have H:w3.cell? ⟨B,2,none⟩=some (.slice (some ⟨p.j9,p.lg,none⟩) d.eY p.h8):=(aT (o:=2) Z.out).trans rfl;go_upto_region 5 with (go_at_call 20;refine(pU (A:=A) w.heap.size (aU+4) L (by omega) ((d.eY:Int)-1) (by omega) w3 bj.out).mono ?_;rintro e a6 ⟨r,rfl,ao,az,g⟩;have u:r<d.eY:=(by omega);have t4:=aM.out.uw g a2;have aR:a6.heap[B]?=some (.cells (cO d p) 25):=(g.block B aW (λe=>by have:=Pm e;omega)).trans Z.out;have aa:=Pj t4;have F:=Pj aR;clear az g t4 aR)
 clear H;have ak:=aT (o:=0) F.out;have q1:=aT (o:=1) F.out;have H:=aT (o:=2) F.out;have al:=aT (o:=3) F.out;have aY:=bp F.out;go_upto_region 6 with (go_at_call 19;refine(Qg (A:=A) d ok p a6 aa.out).mono ?_;rintro e E ⟨hD,rfl,a1,g⟩;have G:=Pj a1;have ap:=Pj g;clear a1 g)
 clear ak q1 H al;have af:E.grownBy (E.alloc (.cells (cO d hD) 25)) none:=Pn;have ay:=ap.out.trans af;have bE:=ap.out.size;have aG:(E.alloc (.cells (cO d hD) 25)).heap[E.heap.size]?=some (.cells (cO d hD) 25):=gA _ _;have aw:=(ay.block _ aY (by simp)).trans F.out;have ae:=aa.out.keep ay;have ad:=G.out.sV.keep af;obtain⟨bJ,a7,a8,ks,bK,gK⟩:=G.out.fD r u;have bm:=Pj a7;clear a7;have aI:=(af.block _ (bp gK) (by simp)).trans gK;have iA:=bp gK;have aD:=aa.out.below ok;have bq:E.heap.size=E.heap.size:=rfl;generalize bs:E.alloc (.cells (cO d hD) 25)=l at *;generalize bt:E.heap.size=C at *;have c1:l.cell? ⟨C,2,none⟩=some (.slice (some ⟨hD.j9,hD.lg,none⟩) d.eY hD.h8):=(aT (o:=2) aG).trans rfl;have c2:=ad.rows r u;have c3:l.cell? ⟨B,2,none⟩=some (.slice (some ⟨p.j9,p.lg,none⟩) d.eY p.h8):=(aT (o:=2) aw).trans rfl;have c4:=ae.rows r u;have fi:=ae.fD r u k U;have nS:=ad.fD r u k U;have rT:=b1 (o:=hD.sy r+k) aI;have bw:=ok.fD r u k U;have bL:=aD.R;have kk:=aD.P r u;by_cases cX:d.fD r k=9
 . have hd:(d.fD r k == 9)=true:=by simpa using cX
   go_wp2_with (go_at_call 16;refine(aV _).mono ?_;rintro e bI ⟨rfl,rfl⟩)
   go_ret;rfl
 . have hd:(d.fD r k == 9)=false:=by simpa using cX
   have e6:C≠hD.im r:=by omega
   have fY:hD.j9≠hD.im r:=Ne.symm ks;have V:B≠hD.im r:=by omega
   have a4:p.j9≠hD.im r:=by omega
   have a5:p.im r≠hD.im r:=by omega
   have d1:l.drew.cell? ⟨C,2,none⟩=some (.slice (some ⟨hD.j9,hD.lg,none⟩) d.eY hD.h8):=c1;have d2:l.drew.cell? ⟨hD.j9,hD.lg+r*2+1,none⟩=some (.slice (some ⟨hD.im r,hD.sy r,none⟩) d.kinds (hD.j' r)):=c2;have d3:l.drew.cell? ⟨B,2,none⟩=some (.slice (some ⟨p.j9,p.lg,none⟩) d.eY p.h8):=c3;have d4:l.drew.cell? ⟨p.j9,p.lg+r*2+1,none⟩=some (.slice (some ⟨p.im r,p.sy r,none⟩) d.kinds (p.j' r)):=c4;have d5:l.drew.cell? ⟨p.im r,p.sy r+k,none⟩=some (.int .i64 (d.fD r k)):=fi;have d6:l.drew.cell? ⟨hD.im r,hD.sy r+k,none⟩=some (.int .i64 (d.fD r k)):=nS;have d7:l.drew.frozen? ⟨hD.im r,hD.sy r+k,none⟩=false:=rT;have hw:wrap64 (d.fD r k+1)=d.fD r k+1:=by unfold wrap64;omega
   go_upto_region 8 with fail
   go_region_held3 (λW=>W.cell? ⟨C,2,none⟩=some (.slice (some ⟨hD.j9,hD.lg,none⟩) d.eY hD.h8)/\W.cell? ⟨hD.j9,hD.lg+r*2+1,none⟩=some (.slice (some ⟨hD.im r,hD.sy r,none⟩) d.kinds (hD.j' r))/\W.cell? ⟨B,2,none⟩=some (.slice (some ⟨p.j9,p.lg,none⟩) d.eY p.h8)/\W.cell? ⟨p.j9,p.lg+r*2+1,none⟩=some (.slice (some ⟨p.im r,p.sy r,none⟩) d.kinds (p.j' r))/\W.cell? ⟨p.im r,p.sy r+k,none⟩=some (.int .i64 (d.fD r k)))
    (first|with_reducible exact⟨d1,d2,d3,d4,d5⟩|exact⟨(E9 l e6).trans c1,(E9 l fY).trans c2,(E9 l V).trans c3,(E9 l a4).trans c4,(E9 l a5).trans fi⟩)
    (fail)
   have a3:IntKind.i64.wrap (d.fD r k+1)=d.fD r k+1:=(IntWalk.i64_left _).trans hw;generalize aF:(l.setCell ⟨hD.im r,hD.sy r+k,none⟩ (.int .i64 (IntKind.i64.wrap (d.fD r k+1)))).drew=Y;have av:=bm.out;have AY:∀i,i≠hD.im r->Y.heap[i]?=l.heap[i]?:=λi h=>by rw[<-aF];exact ft (by show i≠hD.im r;exact h)
   have aP:fy Y d p:=ae.PM aD λi aj=>AY i (by omega)
   have aS:Y.heap[B]?=some (.cells (cO d p) 25):=(AY B V).trans aw;have n7:Y.heap[C]?=some (.cells (cO d hD) 25):=(AY C e6).trans aG;have aJ:fy Y (PK d r k) hD:=by
    have x:=ad.P' u U aI av a8 ks (λb o e=>(G.out.free b o e).2.2.2 r u) (λi aj bv=>by
     rcases Nat.lt_or_gt_of_ne bv with y|y
     . have:=G.out.apart i r y u;omega
     . have:=G.out.apart r i y aj;omega) _ a3
    have br:hD.sy r+k=k:=by rw[av,Nat.zero_add]
    rw[<-aF,br];exact x.PM (B:=(l.setCell ⟨hD.im r,k,none⟩ (.int .i64 (IntKind.i64.wrap (d.fD r k+1)))).heap.size) (x.below (P3 ok u U cX)) (λi _=>rfl)
   have bk:=Pj aP;have a9:=Pj aJ;have bb:=Pj aS;have bg:=Pj n7;have bD:=P3 ok u U cX;clear av aP aJ aS n7 AY aF d1 d2 d3 d4 d5 d6 d7 c1 c2 c3 c4 fi nS rT e6 fY V a4 a5 aw ae ad aI af ay aG a3 hw bJ a8 ks gK iA bq bs bt G ap aa F Z aM aW aY bE bw;go_wp2;go_loopw [10,11] (λs v wr=>∃f:Nat,v=.int .i64 f/\left / 24+1<=f/\f<=aK / 24+1/\s=.int .i64 (jb (PL d r) (left / 24+1) (f-(left / 24+1)))/\fy wr d p/\fy wr (PK d r k) hD/\wr.heap[B]?=some (.cells (cO d p) 25)/\wr.heap[C]?=some (.cells (cO d hD) 25)) (λ_ v _=>aK / 24+1-(vy v).toNat)
   case atStart=>exact⟨left / 24+1,by push_cast;rfl,Pk,by have:=Nat.div_le_div_right (c:=24) aE;omega,by rw[Nat.sub_self];rfl,bk.out,a9.out,bb.out,bg.out⟩
   case round=>
    obtain⟨f,rfl,bM,bN,rfl,aZ,Q,q,R⟩:=hrel;have ak:=aT (o:=0) q;have q1:=aT (o:=1) q;have H:=aT (o:=2) q;have al:=aT (o:=3) q;have aN:=Pj aZ;have aL:=Pj Q;have bc:=Pj q;have aq:=Pj R;clear aZ Q q R;have bx:=P6 d r (left / 24+1) (f-(left / 24+1));by_cases aO:f<=aK / 24
    . have bA:decide ((f:Int)<=((aK / 24:Nat):Int))=true:=by simp;omega
      have bB:decide (f<=aK / 24)=true:=by simpa using aO
      have aA:jb (PL d r) (left / 24+1) (f+1-(left / 24+1))=jb (PL d r) (left / 24+1) (f-(left / 24+1))+PL d r f:=by rw[show f+1-(left / 24+1)=(f-(left / 24+1))+1 by omega];simp only[jb];rw[show left / 24+1+(f-(left / 24+1))=f by omega]
      generalize jb (PL d r) (left / 24+1) (f-(left / 24+1))=aH at *;go_wp2;clear ak q1 H al;go_loopw [12,13] (λo i am=>∃m:Nat,m<=d.eY/\o=.int .i64 (PO d m f)/\i=.int .i64 m/\fy am d p/\fy am (PK d r k) hD/\am.heap[B]?=some (.cells (cO d p) 25)/\am.heap[C]?=some (.cells (cO d hD) 25)) (λ_ i _=>d.eY-(vy i).toNat)
      case atStart=>exact⟨0,by omega,rfl,by go_num,aN.out,aL.out,bc.out,aq.out⟩
      case round=>
       obtain⟨m,hm,rfl,rfl,aZ,Q,q,R⟩:=hrel;have ak:=aT (o:=0) q;have q1:=aT (o:=1) q;have H:=aT (o:=2) q;have al:=aT (o:=3) q;have z:=Pj aZ;have I:=Pj Q;have J:=Pj q;have K:=Pj R;clear aZ Q q R;by_cases ai:m<d.eY
       . have e6:decide ((m:Int)<d.eY)=true:=by simpa using ai
         have fY:decide (m<d.eY)=true:=by simpa using ai
         have r1:=z.out.dz m ai;by_cases ah:d.dz m<=(f:Int)
         . have V:decide (d.dz m<=(f:Int))=true:=by simpa using ah
           have ax:PO d (m+1) f=m:=if_pos ah;go_wp2;exact⟨⟨m+1,by omega,by rw[ax],by push_cast;rfl,z.out,I.out,J.out,K.out⟩,by show d.eY-((m:Int)+1).toNat<d.eY-(m:Int).toNat;omega⟩
         . have V:decide (d.dz m<=(f:Int))=false:=by simpa using ah
           have ax:PO d (m+1) f=PO d m f:=if_neg ah;go_wp2;exact⟨⟨m+1,by omega,by rw[ax],by push_cast;rfl,z.out,I.out,J.out,K.out⟩,by show d.eY-((m:Int)+1).toNat<d.eY-(m:Int).toNat;omega⟩
       . have e6:decide ((m:Int)<d.eY)=false:=by simp;omega
         have fY:decide (m<d.eY)=false:=by simpa using ai
         obtain rfl:m=d.eY:=by omega
         by_cases T:PO d d.eY f=(r:Int)
         . have bC:(PO d d.eY f == (r:Int))=true:=by simpa using T
           have bh:=Pj T;clear T;by_cases eu:∃i,i<d.fC/\d.free i=(f:Nat)
           . have D:PL d r f=0:=if_neg λx=>x.2 eu
             have bd:=Pj eu;clear eu;have M:=Pj D;clear D;go_wp2_with (go_at_call 37;refine(P2 (A:=A) p.hE d.fC p.h9 ok.fC d.free _ z.out.free (f:Int)).mono ?_;rintro e l ⟨⟨j,rfl,aC⟩,rfl⟩;have bz:decide (j<0)=false:=(by have:=aC.2 bd.out;simp;omega);clear aC)
             exact⟨⟨f+1,by push_cast;rfl,by omega,by omega,by rw[aA,M.out,Int.add_zero],z.out,I.out,J.out,K.out⟩,by show aK / 24+1-((f:Int)+1).toNat<aK / 24+1-(f:Int).toNat;omega⟩
           . have D:PL d r f=1:=if_pos ⟨bh.out,eu⟩
             have M:=Pj D;clear D;go_wp2_with (go_at_call 37;refine(P2 (A:=A) p.hE d.fC p.h9 ok.fC d.free _ z.out.free (f:Int)).mono ?_;rintro e l ⟨⟨j,rfl,aC⟩,rfl⟩;have bz:decide (j<0)=true:=(by have:¬ 0<=j:=(λx=>eu (aC.1 x));simp;omega);clear aC)
             exact⟨⟨f+1,by push_cast;rfl,by omega,by omega,by rw[aA,M.out],z.out,I.out,J.out,K.out⟩,by show aK / 24+1-((f:Int)+1).toNat<aK / 24+1-(f:Int).toNat;omega⟩
         . have bC:(PO d d.eY f == (r:Int))=false:=by simpa using T
           have D:PL d r f=0:=if_neg λx=>T x.1
           have M:=Pj D;clear D;go_wp2;exact⟨⟨f+1,by push_cast;rfl,by omega,by omega,by rw[aA,M.out,Int.add_zero],z.out,I.out,J.out,K.out⟩,by show aK / 24+1-((f:Int)+1).toNat<aK / 24+1-(f:Int).toNat;omega⟩
    . have bA:decide ((f:Int)<=((aK / 24:Nat):Int))=false:=by simp;omega
      have bB:decide (f<=aK / 24)=false:=by simpa using aO
      obtain rfl:f=aK / 24+1:=by omega
      have bu:aK / 24+1-(left / 24+1)=aK / 24-left / 24:=by omega
      rw[bu] at bx ⊢;have bO:=Qe ok U (a:=left) (b:=aK) aB;have bo:=Pj (show ∀w',fy w' (PK d r k) hD->Calls (ag A) 30 #[.agg (cO d hD),.int .i64 k,.int .i64 left,.int .i64 aK] w' λe bF=>e=.returned (.tuple #[.int .i64 (fP (d.first k) (cC d k) left aK+jb (PL d r) (left / 24+1) (aK / 24-left / 24)),.int .i64 0])/\w'.grownBy bF none from λw' h=>by have:=Hl (A:=A) (PK d r k) bD hD k U left aK aE aB w' h;rw[show(PK d r k).first k=d.first k from rfl,Qf] at this;exact this)
      have bn:=Pj (Hl (A:=A) d ok p k U left aK aE aB wr aN.out);generalize jb (PL d r) (left / 24+1) (aK / 24-left / 24)=aH at *;generalize fP (d.first k) (cC d k) left aK=aX at *;have ar:wrap64 (aX+aH)=aX+aH:=by unfold wrap64;omega
      go_wp2_with (first
       | (go_at_call 30;refine bn.out.mono ?_;rintro e bH ⟨rfl,g⟩;have X:=(g.block _ (bp aq.out) (by simp)).trans aq.out;have r0:=aT (o:=0) X;have r1:=aT (o:=1) X;have r2:=aT (o:=2) X;have bS:=aT (o:=3) X;have ba:=Pj (aL.out.keep g);clear g X)
       | (go_at_call 30;refine(bo.out bH ba.out).mono ?_;rintro e bI ⟨rfl,g⟩;clear g)
       | (go_at_call 16;refine(aV _).mono ?_;rintro e bT ⟨rfl,rfl⟩))
      go_ret;rfl
end
end Go.aN
