/- A part of FeeSurer: no conditions. -/
import Derived.Test.YtpnmipmngnhemaaGreatDoorRSurer1
set_option maxHeartbeats 8000000
set_option maxRecDepth 100000
set_option linter.all false
namespace Go.aN
open Go.Proofs Go.RowKit
section
variable{A:Array Func}
def QV{p:dU}{d:cR}{b4 X:Nat}(h:p.below d b4)(c:b4<=X):p.off d X:=
 ⟨by have:=h.F;omega,by have:=h.R;omega,λi aj=>by have:=h.P i aj;omega,λb o ak e=>by have:=h.rL b o ak e;omega⟩
def Q5{W:World}{z:Nat}{k a b c e:Nat}{x y u v:Int}(h:W.heap[z]?=some (.cells (sQ k a b c e) 42)):((((W.setCell ⟨z,1,none⟩ (.int .i64 x)).setCell ⟨z,2,none⟩ (.int .i64 y)).setCell ⟨z,3,none⟩ (.int .i64 u)).setCell ⟨z,4,none⟩ (.int .i64 v)).heap[z]?=some (.cells #[.int .i64 k,.int .i64 x,.int .i64 y,.int .i64 u,.int .i64 v] 42)/\∀i,i≠z->((((W.setCell ⟨z,1,none⟩ (.int .i64 x)).setCell ⟨z,2,none⟩ (.int .i64 y)).setCell ⟨z,3,none⟩ (.int .i64 u)).setCell ⟨z,4,none⟩ (.int .i64 v)).heap[i]?=W.heap[i]?:=
 ⟨cQ (cQ (cQ (cQ h))),λi h=>(ft (by show i≠z;exact h)).trans ((ft (by show i≠z;exact h)).trans ((ft (by show i≠z;exact h)).trans (ft (by show i≠z;exact h))))⟩
def fy.QT{w w':World}{d:cR}{p:dU}{z:Nat}(h:fy w d p)(av:p.off d z)(af:w.heap.size<=w'.heap.size)(k:∀i,i≠z->w'.heap[i]?=w.heap[i]?)(e:w'.os=w.os/\w'.tape=w.tape/\w'.output=w.output):fy w' d p:=
 h.uw (T:=z) ⟨e.1,e.2.1,e.2.2,af,λi _ c=>k i λe=>c (by rw[e])⟩ av
structure Qg(d:cR)(p:dU)(s x:gP)(B y z:Nat)(PY P2:Nat)(f1:Nat->Int)(PZ P0:Nat)(f2:Nat->Int)(w:World):Prop where
 sV:fy w d p
 P4:w.heap[B]?=some (.cells (cO d p) 27)
 P3:w.heap[y]?=some (.cells s.a 42)
 P9:w.heap[z]?=some (.cells x.a 42)
 r1:iD w PY 0 P2 f1
 r2:iD w PZ 0 P0 f2
def Qg.keep{d:cR}{p:dU}{s x:gP}{B y z c i f j:Nat}{f1 f2:Nat->Int}{w w':World}(h:Qg d p s x B y z c i f1 f j f2 w)(g:w.grownBy w' none):Qg d p s x B y z c i f1 f j f2 w':=
 ⟨h.sV.keep g,(g.block _ (bp h.P4) (by simp)).trans h.P4,(g.block _ (bp h.P3) (by simp)).trans h.P3,(g.block _ (bp h.P9) (by simp)).trans h.P9,h.r1.keep g (by simp),h.r2.keep g (by simp)⟩
def P'(w:World){a b o c d:Nat}(h:a≠b)(v0 v1:Value):((w.setCell ⟨b,c,none⟩ v0).setCell ⟨b,d,none⟩ v1).cell? ⟨a,o,none⟩=w.cell? ⟨a,o,none⟩:=(E9 _ h).trans (E9 _ h)
def QM[S:Std A][P:gg A](bC:∀w,Calls (ag A) 16 #[] w λe w'=>e=.returned (.bool true)/\w=w')(w:World)(K:Value)(h:j4 w K w.heap.size)(eP:K.oneCell'=true):
 Calls (ag A) 5 #[K] w λe _=>e=.returned (.bool true):=by
 have a7:=Pj (O' (A:=A) K w h eP);clear h;go_enter (S.f Tryz.func5),Tryz.ntmps5;go_upto_region 5 with(first
  |(go_at_call 7;refine a7.out.mono ?_;rintro e ck ⟨rfl,az,E⟩;have a8:=Pj az;clear az E)
  |(go_at_call 8;refine(Pe (A:=A) w.heap.size 0 K (by omega) ck a8.out).mono ?_;rintro e w2 ⟨d,p,aw,ok,rfl,bG,aX,cx,az,E⟩;have aH:=Pj az;have bg:=Pj bG;clear az E bG)
  |(go_at_call 20;refine(Q8 (A:=A) w.heap.size aw K (by omega) d ok p 10 (by omega) _ (aH.out.alloc _)).mono ?_;rintro e w3 ⟨s,rfl,af,az,E⟩;have t3:fy w3 d p:=((bg.out.keep Pn).uw E aX);have bB:w3.heap[w2.heap.size]?=some (.cells (cO d p) 27):=((E.block _ (by simp) (λe=>by have:=Pm e;have:=aH.out.lt;omega)).trans (gA _ _));have cB:w.heap.size<w2.heap.size:=aH.out.lt;have a9:=Pj az;have aS:=Pj t3;have aM:=Pj bB;clear az E t3 bB))
 generalize w2.heap.size=B at *;have bF:=bp aM.out;generalize ay:World.alloc (World.alloc w3 _) _=T;have aJ:T.heap[w3.heap.size]?=some (.cells s.a 42):=by rw[<-ay];exact(Pq (by simp)).trans (gA _ _)
 have aK:T.heap[w3.heap.size+1]?=some (.cells s.a 42):=by rw[<-ay,show w3.heap.size+1=(w3.alloc (.cells s.a 42)).heap.size by simp];exact gA _ _
 have aU:w3.grownBy T (some w.heap.size):=by rw[<-ay];exact Pn.trans Pn
 have ba:=Pj (show fg T w.heap.size K (aw+7) by rw[<-ay];exact(a9.out.alloc _).alloc _);have bJ:p.off d (w3.heap.size+1):=QV (aS.out.below ok) (by omega);have bb:=Pj (show fg T.drew w.heap.size K (aw+7)from ba.out.of rfl);have bh:=Pj (aS.out.uw aU aX);have aN:=Pj ((aU.block B bF (λe=>by have:=Pm e;omega)).trans aM.out);have bY:=bp aN.out;have b6:w.heap.size<w3.heap.size:=by omega
 clear ay aU a9 aS aM a8 aH bg a7;have aV:B≠w3.heap.size/\B≠w3.heap.size+1:=by omega
 have bm:=bp aJ;have b':=bp aK;have aF:=Pj aJ;have aP:=Pj aK;obtain⟨z,bM⟩:∃z,w3.heap.size+1=z:=⟨_,rfl⟩
 rw[bM]at aP b' aV bJ ⊢;obtain⟨y,bK⟩:∃y,w3.heap.size=y:=⟨_,rfl⟩
 rw[bK]at aF bm aV b6 bM ⊢;have F:y≠z:=by omega
 have bL:y≠w.heap.size:=by omega
 have cb:z≠w.heap.size:=by omega
 have cF:=af.bw;have cw:=af.hF;have b3:=af.l;have b2:=af.f;have R:=Pj (show T.grownBy T.drew (some w.heap.size)from fQ (Pw _ _));have D:=Pj (show ∀W:World,T.grownBy W (some w.heap.size)->W.cell? ⟨y,1,none⟩=some (.int .i64 s.lm)/\W.cell? ⟨y,2,none⟩=some (.int .i64 s.bV)/\W.cell? ⟨y,3,none⟩=some (.int .i64 s.fm)/\W.cell? ⟨y,4,none⟩=some (.int .i64 s.bN)from λW g=>by have b:=(g.block y bm (λe=>bL (Pm e))).trans aF.out;exact⟨aT b,aT b,aT b,aT b⟩)
 clear aJ aK bF bK;go_region_held3 (λW=>W.cell? ⟨y,1,none⟩=some (.int .i64 s.lm)/\W.cell? ⟨y,2,none⟩=some (.int .i64 s.bV)/\W.cell? ⟨y,3,none⟩=some (.int .i64 s.fm)/\W.cell? ⟨y,4,none⟩=some (.int .i64 s.bN))
  (first|with_reducible exact D.out _ R.out|with_reducible exact D.out _ aQ.out|with_reducible exact D.out _ U.out|(have q:=D.out _ U.out;with_reducible exact⟨(P' _ F _ _).trans q.1,(P' _ F _ _).trans q.2.1,(P' _ F _ _).trans q.2.2.1,(P' _ F _ _).trans q.2.2.2⟩)|(have q:=D.out _ U.out;with_reducible exact⟨((P' _ F _ _).trans (P' _ F _ _)).trans q.1,((P' _ F _ _).trans (P' _ F _ _)).trans q.2.1,((P' _ F _ _).trans (P' _ F _ _)).trans q.2.2.1,((P' _ F _ _).trans (P' _ F _ _)).trans q.2.2.2⟩))
  (first
   |(go_at_call 21;refine(Qs (A:=A) w.heap.size (aw+7) K (by omega) s.lm s.bV b3 (by omega) _ bb.out).mono ?_;rintro e cI ⟨I,J,rfl,b7,aZ,b9,az,E⟩;have aQ:=Pj (R.out.trans E);have bc:=Pj az;clear az E)
   |(go_at_call 21;refine(Qs (A:=A) w.heap.size (aw+7+2) K (by omega) s.fm s.bN b2 (by omega) _ bc.out).mono ?_;rintro e cp ⟨L,G,rfl,b8,a0,ca,az,E⟩;have aW:=aQ.out.trans E;have M:=(aW.block z b' (λe=>cb (Pm e))).trans aP.out;have cr:=aT (o:=1) M;have cs:=aT (o:=2) M;have z3:=aT (o:=3) M;have z4:=aT (o:=4) M;have f1:=b1 (o:=1) M;have f2:=b1 (o:=2) M;have f3:=b1 (o:=3) M;have f4:=b1 (o:=4) M;have U:=Pj aW;have bk:=Pj M;clear az E aW M))
 have ax:=Q5 (x:=I) (y:=J) (u:=L) (v:=G) bk.out;have t7:=(bh.out.uw U.out aX).QT bJ (w':=((((cp.setCell ⟨z,1,none⟩ (.int .i64 I)).setCell ⟨z,2,none⟩ (.int .i64 J)).setCell ⟨z,3,none⟩ (.int .i64 L)).setCell ⟨z,4,none⟩ (.int .i64 G))) (by simp) ax.2 ⟨rfl,rfl,rfl⟩;have H:=(ax.2 B aV.2).trans ((U.out.block B bY (λe=>by have:=Pm e;omega)).trans aN.out);have a1:=(ax.2 y F).trans ((U.out.block y bm (λe=>bL (Pm e))).trans aF.out);have C:=ax.1;clear cr cs z3 z4 f1 f2 f3 f4 ax aQ U bk bc D R aF aP aN bh ba bb;generalize World.setCell _ _ _=Z at t7 H a1 C ⊢;have aI:gP.Qj ⟨s.k,I,J,L,G⟩ s:=⟨rfl,b7,b9,b8,ca⟩
 rcases Nat.lt_or_ge G I with bZ|hgood
 .have aL:=Pj (show Calls (ag A) 22 #[.agg (cO d p),.agg (sQ s.k I J L G)] Z λx w'=>x=.returned (.int .i64 9)/\Z.grownBy w' none by have:=QB (A:=A) d ok p s.k I J L G af.k aZ (by omega) a0 (by omega) Z t7;rwa [if_pos bZ]at this)
  have ap:=aT (o:=0) H;have aq:=aT (o:=1) H;have au:=aT (o:=2) H;have av:=aT (o:=3) H;have v0:=aT (o:=0) C;have v1:=aT (o:=1) C;have v2:=aT (o:=2) C;have v3:=aT (o:=3) C;have v4:=aT (o:=4) C;go_wp2_with (first|(go_at_call 22;refine aL.out.mono ?_;rintro e cq ⟨rfl,ae⟩;clear ae)|(go_at_call 16;refine(bC _).mono ?_;rintro ar co ⟨rfl,rfl⟩))
  go_ret;rfl
 .have ad:gP.ok ⟨s.k,I,J,L,G⟩ d:=⟨af.k,aZ,by show J<120;omega,a0,by show G<120;omega,hgood⟩
  have aL:=Pj (show Calls (ag A) 22 #[.agg (cO d p),.agg (sQ s.k I J L G)] Z λx w'=>x=.returned (.int .i64 0)/\Z.grownBy w' none by have:=QB (A:=A) d ok p s.k I J L G af.k aZ (by omega) a0 (by omega) Z t7;rwa [if_neg (by omega)]at this)
  obtain⟨x,aY⟩:∃x:gP,x=⟨s.k,I,J,L,G⟩:=⟨_,rfl⟩
  have ct:Z.heap[z]?=some (.cells x.a 42):=by rw[aY];exact C
  have ap:=aT (o:=0) H;have aq:=aT (o:=1) H;have au:=aT (o:=2) H;have av:=aT (o:=3) H;have v0:=aT (o:=0) C;have v1:=aT (o:=1) C;have v2:=aT (o:=2) C;have v3:=aT (o:=3) C;have v4:=aT (o:=4) C;have bX:=Pj t7;have a3:=Pj H;have bn:=Pj a1;have bq:=Pj C;have bl:=Pj aY;clear t7 H a1 C ct aY;go_upto_region 8 with(go_at_call 22;refine aL.out.mono ?_;rintro e cq ⟨rfl,ae⟩;have bd:=Pj (bX.out.keep ae);have bz:=(ae.block B (bp a3.out) (by simp)).trans a3.out;have bR:=(ae.block y (bp bn.out) (by simp)).trans bn.out;have bT:=(ae.block z (bp bq.out) (by simp)).trans bq.out;have ak:=Pj bz;have X:=Pj bR;have bs:=Pj bT;clear ae bz bR bT)
  clear ap aq au av v0 v1 v2 v3 v4;have ap:=aT (o:=0) ak.out;have aq:=aT (o:=1) ak.out;have au:=aT (o:=2) ak.out;have av:=aT (o:=3) ak.out;have v0:=aT (o:=0) X.out;have v1:=aT (o:=1) X.out;have v2:=aT (o:=2) X.out;have v3:=aT (o:=3) X.out;have v4:=aT (o:=4) X.out;go_upto_region 9 with(go_at_call 14;refine(Ej (A:=A) d ok p _ bd.out s af).mono ?_;rintro e cJ ⟨r1,cE,cD,rfl,bP,b5,bN,ci,ae⟩;obtain⟨Q,c1,l,f1,rfl,bH,cz,cu,bw,bu⟩:=QD af bP bN;have bf:=Pj (bd.out.keep ae);have bA:=(ae.block B (bp ak.out) (by simp)).trans ak.out;have bS:=(ae.block y (bp X.out) (by simp)).trans X.out;have z9:=(ae.block z (bp bs.out) (by simp)).trans bs.out;have al:=Pj bA;have bo:=Pj bS;have Y:=Pj z9;have bW:=Pj bw;have a6:=Pj bu;have bV:=Pj bH;clear ae bA bS z9 bP bN ci b5 bw bu bH)
  clear ap aq au av v0 v1 v2 v3 v4;have ap:=aT (o:=0) al.out;have aq:=aT (o:=1) al.out;have au:=aT (o:=2) al.out;have av:=aT (o:=3) al.out;have v0:=aT (o:=0) Y.out;have v1:=aT (o:=1) Y.out;have v2:=aT (o:=2) Y.out;have v3:=aT (o:=3) Y.out;have v4:=aT (o:=4) Y.out;go_upto_region 10 with(go_at_call 14;refine(Ej (A:=A) d ok p _ bf.out ⟨s.k,I,J,L,G⟩ ad).mono ?_;rintro e cl ⟨r2,cG,cC,rfl,bQ,b4,bO,cj,ae⟩;obtain⟨am,c2,f,f2,rfl,bI,cA,cv,bx,bv⟩:=QD ad bQ bO;have bt:Qg d p s x B y z Q l f1 am f f2 cl:=⟨bf.out.keep ae,(ae.block B (bp al.out) (by simp)).trans al.out,(ae.block y (bp bo.out) (by simp)).trans bo.out,by rw[bl.out];exact(ae.block z (bp Y.out) (by simp)).trans Y.out,bW.out.keep ae (by simp),bx⟩;have aR:=Pj bv;have bU:=Pj bt;have a5:=Pj bI;clear ae bQ bO cj b4 bx bv bt bI)
  clear ap aq au av v0 v1 v2 v3 v4;rw[<-bl.out]at a5 aI ad aR;have hle:f<=l:=by rw[a5.out,bV.out];exact Ra ad af aI
  have cf:((f:Int) == 0)=false:=by rw[beq_eq_false_iff_ne];omega
  have ah:decide ((f:Int)>l)=false:=by rw[decide_eq_false_iff_not];omega
  have ao:decide ((l:Int)<f)=false:=ah;have cg:decide (l<f)=false:=by rw[decide_eq_false_iff_not];omega
  have ch:(f == 0)=false:=by rw[beq_eq_false_iff_ne];omega
  go_wp2;clear cf ah ao cg ch;go_loopw [11] (λi wr=>∃m:Nat,m<=l/\i=.int .i64 m/\Qg d p s x B y z Q l f1 am f f2 wr) (λi _=>l-(vy i).toNat)
  case atStart=>exact⟨0,by omega,by go_num,bU.out⟩
  case round=>
   obtain⟨m,hm,rfl,br⟩:=hrel;by_cases aO:m<l
   .have ah:decide ((m:Int)<l)=true:=by simpa using aO
    have ao:decide (m<l)=true:=by simpa using aO
    have i1:(m:Int)<l:=by omega
    have i2:(0:Int)<=m:=by omega
    have ew:f1 m∈oC d s:=(a6.out _).1 ⟨m,aO,rfl⟩;have b0:=Q' ok af ew;obtain⟨v,aD⟩:∃v:Nat,f1 m=v:=⟨(f1 m).toNat,by omega⟩
    have aA:=br.r1 m aO;rw[Nat.zero_add,aD]at aA;rw[aD]at ew b0;have V:=Pj br;have D:=Pj (show ∀W:World,wr.grownBy W none->W.cell? ⟨B,0,none⟩=some (.int .i64 d.kinds)/\W.cell? ⟨B,1,none⟩=some (.slice (some ⟨p.gv,p.hj,none⟩) d.kinds p.eT)/\W.cell? ⟨B,2,none⟩=some (.slice (some ⟨p.j9,p.lg,none⟩) d.eY p.h8)/\W.cell? ⟨B,3,none⟩=some (.slice p.hE d.fC p.h9)/\W.cell? ⟨y,0,none⟩=some (.int .i64 s.k)/\W.cell? ⟨y,1,none⟩=some (.int .i64 s.lm)/\W.cell? ⟨y,2,none⟩=some (.int .i64 s.bV)/\W.cell? ⟨y,3,none⟩=some (.int .i64 s.fm)/\W.cell? ⟨y,4,none⟩=some (.int .i64 s.bN)/\W.cell? ⟨z,0,none⟩=some (.int .i64 x.k)/\W.cell? ⟨z,1,none⟩=some (.int .i64 x.lm)/\W.cell? ⟨z,2,none⟩=some (.int .i64 x.bV)/\W.cell? ⟨z,3,none⟩=some (.int .i64 x.fm)/\W.cell? ⟨z,4,none⟩=some (.int .i64 x.bN)/\W.cell? ⟨Q,m,none⟩=some (.int .i64 v)from λW g=>by have r:=V.out.keep g;exact⟨aT r.P4,aT r.P4,aT r.P4,aT r.P4,aT r.P3,aT r.P3,aT r.P3,aT r.P3,aT r.P3,aT r.P9,aT r.P9,aT r.P9,aT r.P9,aT r.P9,g.cell aA (by simp)⟩)
    have R:=Pj (show wr.grownBy wr.drew none from fQ (Pw _ _));obtain⟨a,b,c,gS,bE,hC,bD⟩:∃(a b:Int) (c:Bool),P1 d s v=a/\P1 d x v=b/\(c=true↔(v:Int)∈oC d x)/\((a=1/\b=1/\c=true)\/(a=3/\b=1/\c=true)\/(a=3/\b=3/\c=true)\/(a=3/\b=2/\c=false)):=by
     rcases Rg ad af aI ew with⟨q1,ai,aj⟩|⟨q1,ai,aj⟩|⟨q1,ai,aj⟩|⟨q1,ai,aj⟩
     .exact⟨_,_,true,q1,ai,by simp[aj],by simp⟩
     .exact⟨_,_,true,q1,ai,by simp[aj],by simp⟩
     .exact⟨_,_,true,q1,ai,by simp[aj],by simp⟩
     .exact⟨_,_,false,q1,ai,by simp[aj],by simp⟩
    have bi:=Pj (show ∀W:World,wr.grownBy W none->Calls (ag A) 23 #[.agg (cO d p),.agg s.a,.int .i64 v] W λe w'=>e=.returned (.tuple #[.int .i64 a,.int .i64 0])/\W.grownBy w' none from λW g=>by have:=callsIn_wide.1 (QH (A:=A) d ok p W (V.out.sV.keep g) s af v (by omega));rwa [gS]at this)
    have bj:=Pj (show ∀W:World,wr.grownBy W none->Calls (ag A) 23 #[.agg (cO d p),.agg x.a,.int .i64 v] W λe w'=>e=.returned (.tuple #[.int .i64 b,.int .i64 0])/\W.grownBy w' none from λW g=>by have:=callsIn_wide.1 (QH (A:=A) d ok p W (V.out.sV.keep g) x ad v (by omega));rwa [bE]at this)
    have aE:=Pj (show ∀W:World,wr.grownBy W none->Calls (ag A) 18 #[.slice (some ⟨am,0,none⟩) f c2,.int .i64 v] W λe w'=>(∃j:Int,e=.returned (.int .i64 j)/\decide (0<=j)=c)/\W=w' from λW g=>by refine(Qr (A:=A) (some ⟨am,0,none⟩) f c2 (by omega) f2 W (λ_=>⟨am,0,rfl,(V.out.keep g).r2⟩) v).mono ?_;rintro e w' ⟨⟨j,rfl,aC⟩,rfl⟩;refine⟨⟨j,rfl,?_⟩,rfl⟩;rw[Bool.eq_iff_iff,decide_eq_true_iff,hC,aC];exact aR.out _)
    have a2:=Pj bD;clear br aA ew gS bE hC bD aD;go_upto_region 15 with fail
    go_region_held3 (λW=>W.cell? ⟨B,0,none⟩=some (.int .i64 d.kinds)/\W.cell? ⟨B,1,none⟩=some (.slice (some ⟨p.gv,p.hj,none⟩) d.kinds p.eT)/\W.cell? ⟨B,2,none⟩=some (.slice (some ⟨p.j9,p.lg,none⟩) d.eY p.h8)/\W.cell? ⟨B,3,none⟩=some (.slice p.hE d.fC p.h9)/\W.cell? ⟨y,0,none⟩=some (.int .i64 s.k)/\W.cell? ⟨y,1,none⟩=some (.int .i64 s.lm)/\W.cell? ⟨y,2,none⟩=some (.int .i64 s.bV)/\W.cell? ⟨y,3,none⟩=some (.int .i64 s.fm)/\W.cell? ⟨y,4,none⟩=some (.int .i64 s.bN)/\W.cell? ⟨z,0,none⟩=some (.int .i64 x.k)/\W.cell? ⟨z,1,none⟩=some (.int .i64 x.lm)/\W.cell? ⟨z,2,none⟩=some (.int .i64 x.bV)/\W.cell? ⟨z,3,none⟩=some (.int .i64 x.fm)/\W.cell? ⟨z,4,none⟩=some (.int .i64 x.bN)/\W.cell? ⟨Q,m,none⟩=some (.int .i64 v))
     (first|with_reducible exact D.out _ R.out|with_reducible exact D.out _ a4.out)
     (first|(go_at_call 23;refine(bi.out _ R.out).mono ?_;rintro e cm ⟨rfl,ae⟩;have a4:=Pj (R.out.trans ae);clear ae))
    have aB:=Pj (show wr.grownBy cm.drew none from fQ a4.out);go_upto_region 16 with fail
    go_region_held3 (λW=>W.cell? ⟨B,0,none⟩=some (.int .i64 d.kinds)/\W.cell? ⟨B,1,none⟩=some (.slice (some ⟨p.gv,p.hj,none⟩) d.kinds p.eT)/\W.cell? ⟨B,2,none⟩=some (.slice (some ⟨p.j9,p.lg,none⟩) d.eY p.h8)/\W.cell? ⟨B,3,none⟩=some (.slice p.hE d.fC p.h9)/\W.cell? ⟨y,0,none⟩=some (.int .i64 s.k)/\W.cell? ⟨y,1,none⟩=some (.int .i64 s.lm)/\W.cell? ⟨y,2,none⟩=some (.int .i64 s.bV)/\W.cell? ⟨y,3,none⟩=some (.int .i64 s.fm)/\W.cell? ⟨y,4,none⟩=some (.int .i64 s.bN)/\W.cell? ⟨z,0,none⟩=some (.int .i64 x.k)/\W.cell? ⟨z,1,none⟩=some (.int .i64 x.lm)/\W.cell? ⟨z,2,none⟩=some (.int .i64 x.bV)/\W.cell? ⟨z,3,none⟩=some (.int .i64 x.fm)/\W.cell? ⟨z,4,none⟩=some (.int .i64 x.bN)/\W.cell? ⟨Q,m,none⟩=some (.int .i64 v))
     (first|with_reducible exact D.out _ aB.out|with_reducible exact D.out _ aG.out)
     (first|(go_at_call 23;refine(bj.out _ aB.out).mono ?_;rintro e cH ⟨rfl,ae⟩;have aG:=Pj (aB.out.trans ae);clear ae))
    have q1:=(D.out _ aG.out).2.2.2.2.2.2.2.2.2.2.2.2.2.2;clear D R aB bi bj;go_upto_region 18 with(go_at_call 18;refine(aE.out _ aG.out).mono ?_;rintro e cn ⟨⟨j,rfl,ce⟩,rfl⟩;have cc:decide (j>=0)=c:=ce)
    clear aE;rcases a2.out with⟨rfl,rfl,rfl⟩|⟨rfl,rfl,rfl⟩|⟨rfl,rfl,rfl⟩|⟨rfl,rfl,rfl⟩
    all_goals (
     clear a2;go_wp2;exact⟨⟨m+1,by omega,by push_cast;rfl,V.out.keep aG.out⟩,by show l-((m:Int)+1).toNat<l-(m:Int).toNat;omega⟩)
   .have ah:decide ((m:Int)<l)=false:=by simpa using aO
    have ao:decide (m<l)=false:=by simpa using aO
    clear aO;go_wp2;clear ah ao;go_loopw [17] (λi wr=>∃m:Nat,m<=f/\i=.int .i64 m/\Qg d p s x B y z Q l f1 am f f2 wr) (λi _=>f-(vy i).toNat)
    case atStart=>exact⟨0,by omega,by go_num,br⟩
    case round=>
     clear br;obtain⟨fY,cy,rfl,br⟩:=hrel;by_cases aa:fY<f
     .have ah:decide ((fY:Int)<f)=true:=by simpa using aa
      have ao:decide (fY<f)=true:=by simpa using aa
      have i1:(fY:Int)<f:=by omega
      have i2:(0:Int)<=fY:=by omega
      have ew:f2 fY∈oC d s:=Qq ad af aI ((aR.out _).1 ⟨fY,aa,rfl⟩);have aA:=br.r2 fY aa;rw[Nat.zero_add]at aA;have V:=Pj br;have aE:=Pj (show Calls (ag A) 18 #[.slice (some ⟨Q,0,none⟩) l c1,.int .i64 (f2 fY)] wr λe w'=>(∃j:Int,e=.returned (.int .i64 j)/\decide (j<0)=false)/\wr=w' by refine(Qr (A:=A) (some ⟨Q,0,none⟩) l c1 (by omega) f1 wr (λ_=>⟨Q,0,rfl,br.r1⟩) (f2 fY)).mono ?_;rintro e w' ⟨⟨j,rfl,aC⟩,rfl⟩;have:=aC.2 ((a6.out _).2 ew);exact⟨⟨j,rfl,by rw[decide_eq_false_iff_not];omega⟩,rfl⟩)
      clear br ew;go_wp2_with (go_at_call 18;refine aE.out.mono ?_;rintro e cn ⟨⟨j,rfl,cc⟩,rfl⟩)
      exact⟨⟨fY+1,by omega,by push_cast;rfl,V.out⟩,by show f-((fY:Int)+1).toNat<f-(fY:Int).toNat;omega⟩
     .have ah:decide ((fY:Int)<f)=false:=by simpa using aa
      have ao:decide (fY<f)=false:=by simpa using aa
      clear aa;go_wp2_with (go_at_call 16;refine(bC _).mono ?_;rintro ar co ⟨rfl,rfl⟩)
      go_ret;rfl
end
end Go.aN
