/- A part of FeeNumbered: no conditions. -/
import Derived.Test.YtalhadgndijcmaaGreatDoorRNumbered0
set_option maxHeartbeats 8000000
set_option maxRecDepth 100000
set_option linter.all false
namespace Go.aN
open Go.Proofs Go.RowKit
section
variable{A:Array Func}
def P5.begin{P1 Qa:World}{d:cR}{p hD:dU}{B PY a:Nat}{f:Nat->Nat}(src:fy Qa d p)(mn:Qa.heap[B]?=some (.cells (cO d p) 25))(row:iD Qa a 0 d.kinds (λj=>(f j:Int)))(kept:KeptAt P1 d hD Qa)(own:Qa.heap[PY]?=some (.cells (cO d hD) 25))(hb:p.below d P1.heap.size)(c:B<P1.heap.size)(aa:a<P1.heap.size)(off:PY≠hD.gv/\PY≠hD.j9/\∀i,i<d.eY->PY≠hD.im i):P5 P1 d (P4 d f 0 0 0) p hD B PY a 0 f Qa:=
 ⟨src,mn,row,by rw[QG];exact kept,own,⟨hb,c,aa⟩,off⟩
def dU.below.up{p:dU}{d:cR}{B C:Nat}(h:p.below d B)(hC:B<=C):p.below d C:=⟨by have:=h.F;omega,by have:=h.R;omega,λi aj=>by have:=h.P i aj;omega,λb o ak e=>by have:=h.rL b o ak e;omega⟩
def KeptAt.alloc{aI w:World}{d:cR}{p:dU}(K:KeptAt aI d p w)(o:Obj):KeptAt aI d p (w.alloc o):=K.grow (Pv w o none)
def KeptAt.lt{aI w:World}{d:cR}{p:dU}(K:KeptAt aI d p w)(cT:0<d.eY):p.gv<w.heap.size/\p.j9<w.heap.size/\∀i,i<d.eY->p.im i<w.heap.size:=by
 obtain⟨_,_,c,h⟩:=K.first
 refine⟨bp h,mV (K.sV.dz 0 cT),λi aj=>?_⟩;obtain⟨_,_,_,_,c,h⟩:=K.fD i aj;exact bp h
def KeptAt.at{aI w w':World}{d:cR}{p:dU}(K:KeptAt aI d p w)(cT:0<d.eY){b:Nat}(hb:b<aI.heap.size)(e:∀i,i≠b->w'.heap[i]?=w.heap[i]?):KeptAt aI d p w':=by
 have k:∀(x:Nat) (cur:Array Value),aI.heap.size<=x->w.heap[x]?=some (.cells cur 3)->w'.heap[x]?=some (.cells cur 3):=λx cur B h=>(e x (by omega)).trans h
 have f:=K.first
 have r:=K.Qe;have f1:=f.1;have r1:=r.1;refine⟨⟨K.sV.first.P2 (e _ (by omega)),λi aj=>(World.cell?_of_block (e _ (by show p.j9≠b;omega))).trans (K.sV.dz i aj),λi aj=>(World.cell?_of_block (e _ (by show p.j9≠b;omega))).trans (K.sV.rows i aj),λi aj=>(K.sV.fD i aj).P2 (e _ (by have:=(K.fD i aj).1;omega)),λak=>?_⟩,⟨f.1,f.2.1,?_⟩,r,λi aj=>?_,K.apart,K.free⟩
 .obtain⟨x,o,q,h⟩:=K.sV.free ak
  exact⟨x,o,q,h.P2 (e x (by have:=(K.free x o q).1;omega))⟩
 .obtain⟨c,h⟩:=f.2.2
  exact⟨c,k _ _ f.1 h⟩
 .obtain⟨g,j,l,u,c,z⟩:=K.fD i aj
  exact⟨g,j,l,u,c,k _ _ g z⟩
def Qy[S:Std A][P:gg A](bz:∀w,Calls (ag A) 16 #[] w λe w'=>e=.returned (.bool true)/\w=w')(w:World)(L:Value)(h:j4 w L w.heap.size)(eP:L.oneCell'=true):
 Calls (ag A) 13 #[L] w λe _=>e=.returned (.bool true):=by
 have bt:=Pj (O' (A:=A) L w h eP);clear h;go_enter (S.f Tryz.func13),Tryz.ntmps13;go_upto_region 4 with(first
  |(go_at_call 17;refine bt.out.mono ?_;rintro e bK ⟨rfl,az,j⟩;have bv:=Pj az;clear az j)
  |(go_at_call 28;refine(Pe (A:=A) w.heap.size 0 L (by omega) bK bv.out).mono ?_;rintro e w2 ⟨d,p,ai,ok,rfl,bk,aJ,bR,az,j⟩;have aV:=Pj az;have bw:=Pj bk;clear az j bk)
  |(go_at_call 29;refine(Pb (A:=A) w.heap.size ai L (by omega) d ok p _ (aV.out.alloc _)).mono ?_;rintro e w3 ⟨k,left,aK,rfl,U,bm,aB,az,j⟩;have t3:fy w3 d p:=((bw.out.keep Pn).uw j aJ);have z:w3.heap[w2.heap.size]?=some (.cells (cO d p) 25):=((j.block _ (by simp) (λe=>by have:=Pm e;have:=aV.out.lt;omega)).trans (gA _ _));have bV:w.heap.size<w2.heap.size:=aV.out.lt;have aW:=Pj az;have af:=Pj t3;have R:=Pj z;clear az j t3 z))
 generalize w2.heap.size=B at *;have aZ:=bp R.out;have bT:=ok.eY;have bS:=ok.kinds;have bu:w3.cell? ⟨B,0,none⟩=some (.int .i64 d.kinds):=(aT (o:=0) R.out).trans rfl;have c1:w3.cell? ⟨B,1,none⟩=some (.slice (some ⟨p.gv,p.hj,none⟩) d.kinds p.eT):=(aT (o:=1) R.out).trans rfl;have c2:w3.cell? ⟨B,2,none⟩=some (.slice (some ⟨p.j9,p.lg,none⟩) d.eY p.h8):=(aT (o:=2) R.out).trans rfl;have c3:w3.cell? ⟨B,3,none⟩=some (.slice p.hE d.fC p.h9):=(aT (o:=3) R.out).trans rfl;have aw:(some B:Option Nat)≠some w.heap.size:=λe=>by have:=Pm e;omega
 have C:=Pj (show ∀(W:World),w3.grownBy W (some w.heap.size)->W.cell? ⟨B,0,none⟩=some (.int .i64 d.kinds)/\W.cell? ⟨B,1,none⟩=some (.slice (some ⟨p.gv,p.hj,none⟩) d.kinds p.eT)/\W.cell? ⟨B,2,none⟩=some (.slice (some ⟨p.j9,p.lg,none⟩) d.eY p.h8)/\W.cell? ⟨B,3,none⟩=some (.slice p.hE d.fC p.h9)from λW g=>⟨g.cell bu aw,g.cell c1 aw,g.cell c2 aw,g.cell c3 aw⟩);have aN:=Pj (show w3.grownBy w3.drew (some w.heap.size)from fQ (Pw _ _));have aM:=Pj (show ∀o:Obj,w3.grownBy (w3.alloc o).drew (some w.heap.size)from λo=>fQ Pn);have bh:=Pj (show fg w3.drew w.heap.size L (ai+4)from aW.out.of rfl);have bg:=Pj (show ∀o:Obj,fg (w3.alloc o).drew w.heap.size L (ai+4)from λo=>(aW.out.alloc o).of rfl);clear bu c1 c2 c3;go_region_held3 (λW=>W.cell? ⟨B,0,none⟩=some (.int .i64 d.kinds)/\W.cell? ⟨B,1,none⟩=some (.slice (some ⟨p.gv,p.hj,none⟩) d.kinds p.eT)/\W.cell? ⟨B,2,none⟩=some (.slice (some ⟨p.j9,p.lg,none⟩) d.eY p.h8)/\W.cell? ⟨B,3,none⟩=some (.slice p.hE d.fC p.h9))
  (first|with_reducible exact C.out _ aN.out|with_reducible exact C.out _ (aM.out _)|with_reducible exact C.out _ u.out|with_reducible exact C.out _ (u.out.trans Pn)|with_reducible exact C.out _ D.out|with_reducible exact C.out _ (D.out.trans Pn)|(have q:=C.out _ D.out;with_reducible exact⟨(P6 r Y _ _ _ _).trans q.1,(P6 r Y _ _ _ _).trans q.2.1,(P6 r Y _ _ _ _).trans q.2.2.1,(P6 r Y _ _ _ _).trans q.2.2.2⟩)|(have q:=C.out _ D.out;with_reducible exact⟨(P6 r Z _ _ _ _).trans q.1,(P6 r Z _ _ _ _).trans q.2.1,(P6 r Z _ _ _ _).trans q.2.2.1,(P6 r Z _ _ _ _).trans q.2.2.2⟩)|(have q:=C.out _ (D.out.trans (Pv r (.cells Qb 25) (some w.heap.size)));with_reducible exact⟨(P6 _ aa _ _ _ _).trans q.1,(P6 _ aa _ _ _ _).trans q.2.1,(P6 _ aa _ _ _ _).trans q.2.2.1,(P6 _ aa _ _ _ _).trans q.2.2.2⟩))
  (first
  |(go_at_call 40;first|(refine(Qt (A:=A) w.heap.size (ai+4) L (by omega) d.kinds (by omega) _ bh.out).mono ?_;rintro e l ⟨f,rfl,a7,ay,aC,az,j⟩;have ak:=aN.out.trans j;have ax:=j;have u:=Pj ak;have bc:=Pj ax;have ae:=Pj ay;have aU:=Pj aC;clear az j ak ax ay aC)|(refine(Qt (A:=A) w.heap.size (ai+4) L (by omega) d.kinds (by omega) _ (bg.out _)).mono ?_;rintro e l ⟨f,rfl,a7,ay,aC,az,j⟩;have ak:=(aM.out _).trans j;have ax:=j;have bq:l.heap[w3.heap.size]?=some (.cells Qb 25):=(j.block w3.heap.size (by show w3.heap.size<(w3.alloc _).heap.size;simp) (λe=>by have:=Pm e;omega)).trans (gA w3 _);have u:=Pj ak;have bc:=Pj ax;have ae:=Pj ay;have aU:=Pj aC;clear az j ak ax ay aC))
  |(go_at_call 19;first|(refine(Qq (A:=A) d ok p _ (af.out.uw u.out aJ)).mono ?_;rintro e r ⟨hD,rfl,av,j⟩;have am:=u.out.trans (⟨j.os,j.tape,j.output,j.size,λi aj _=>j.block i aj (by simp)⟩:l.grownBy r (some w.heap.size));(try (have ks:r.heap[w3.heap.size]?=some (.cells Qb 25):=(j.block w3.heap.size (bp bq) (by simp)).trans bq));have D:=Pj am;have I:=Pj j;have T:=Pj av;have Y:B≠w3.heap.size:=(by omega);have Z:B≠l.heap.size:=(by have:=u.out.size;omega);have aa:B≠r.heap.size:=(by have:=D.out.size;omega);(try (have bM:=aT (o:=0) ks));(try (have z0:=b1 (o:=0) ks));(try (have bN:=aT (o:=1) ks));(try (have aI:=b1 (o:=1) ks));(try (have bO:=aT (o:=2) ks));(try (have bQ:=b1 (o:=2) ks));(try (have bP:=aT (o:=3) ks));(try (have z3:=b1 (o:=3) ks));(try (have V:=Pj ks;clear ks));clear j am av)|(refine(Qq (A:=A) d ok p _ ((af.out.uw u.out aJ).keep (Pv l _ _))).mono ?_;rintro e r ⟨hD,rfl,av,j⟩;have am:=(u.out.trans (Pv l _ (some w.heap.size))).trans (⟨j.os,j.tape,j.output,j.size,λi aj _=>j.block i aj (by simp)⟩:World.grownBy _ r (some w.heap.size));have ks:r.heap[l.heap.size]?=some (.cells Qb 25):=(j.block l.heap.size (by simp) (by simp)).trans (gA l _);have D:=Pj am;have I:=Pj j;have T:=Pj av;have Y:B≠w3.heap.size:=(by omega);have Z:B≠l.heap.size:=(by have:=u.out.size;omega);have aa:B≠r.heap.size:=(by have:=D.out.size;omega);(try (have bM:=aT (o:=0) ks));(try (have z0:=b1 (o:=0) ks));(try (have bN:=aT (o:=1) ks));(try (have aI:=b1 (o:=1) ks));(try (have bO:=aT (o:=2) ks));(try (have bQ:=b1 (o:=2) ks));(try (have bP:=aT (o:=3) ks));(try (have z3:=b1 (o:=3) ks));(try (have V:=Pj ks;clear ks));clear j am av)))
 all_goals (
  have ao:B<l.heap.size:=Px aZ u.out.size;have aH:=af.out.uw u.out aJ;have au:r.heap[B]?=some (.cells (cO d p) 25):=(D.out.block B aZ aw).trans R.out;have A3:=T.out.lt (by omega);have bH:w3.heap.size<=l.heap.size:=u.out.size;have aq:=aH.below ok;have bl:=af.out.below ok;have aA:=aU.out)
 focus (
  have M:=P5.begin (P1:=l) (Qa:=r.alloc (.cells (cO d hD) 25)) (B:=B) (PY:=r.heap.size) (a:=w3.heap.size) (f:=f) ((aH.keep I.out).keep Pn) ((Pq (bp au)).trans au) ((ae.out.keep I.out (by simp)).keep (Pv r _ none) (by simp)) (T.out.alloc _) (gA _ _) aq ao aA ⟨by have:=A3.1;omega,by have:=A3.2.1;omega,λi aj=>by have:=A3.2.2 i aj;omega⟩;have ap:B<l.heap.size:=ao;dsimp only[cO]at M;generalize hW:r.alloc _=Qa at M ⊢;generalize a2:r.heap.size=PY at M ⊢;generalize a9:w3.heap.size=a at M ⊢;generalize a1:l=P1 at M ap)
 rotate_left
 focus (
  have H:∀i,i≠l.heap.size->_:=(Qd (v0:=.int .i64 d.kinds) (v1:=.slice (some ⟨hD.gv,hD.hj,none⟩) d.kinds hD.eT) (v2:=.slice (some ⟨hD.j9,hD.lg,none⟩) d.eY hD.h8) (v3:=.slice hD.hE d.fC hD.h9) V.out).2;have bU:l.heap.size+1<=r.heap.size:=by have:=I.out.size;simpa using this
  have G:=T.out;have a6:=G.first.1
  have a8:=G.Qe.1;simp only[Pp]at a6 a8;have M:=P5.begin (P1:=l.alloc (.cells Qb 25)) (B:=B) (PY:=l.heap.size) (a:=w3.heap.size) (f:=f) ((aH.keep (Pn.trans I.out)).P2 aq λi aj=>H i (by omega)) ((H B (by omega)).trans au) ((ae.out.keep (Pn.trans I.out) (by simp)).P2 (H _ (by show w3.heap.size≠_;have:w3.heap.size<l.heap.size:=aA;omega))) (G.at (by omega) (b:=l.heap.size) (by simp) H) (Qd V.out).1 (aq.up (by simp)) (by simp;omega) (by have:w3.heap.size<l.heap.size:=aA;simp;omega) ⟨by omega,by omega,λi aj=>by have:=(G.fD i aj).1;simp only[Pp]at this;omega⟩;have ap:B<(l.alloc (.cells Qb 25)).heap.size:=by simp;omega
  generalize hW:World.setCell (World.setCell (World.setCell (World.setCell r ⟨l.heap.size,0,none⟩ _) _ _) _ _) _ _=Qa at M ⊢;generalize a2:l.heap.size=PY at M ⊢;generalize a9:w3.heap.size=a at M ⊢;generalize a1:l.alloc _=P1 at M ap)
 rotate_left
 focus (
  have H:∀i,i≠w3.heap.size->_:=(Qd (v0:=.int .i64 d.kinds) (v1:=.slice (some ⟨hD.gv,hD.hj,none⟩) d.kinds hD.eT) (v2:=.slice (some ⟨hD.j9,hD.lg,none⟩) d.eY hD.h8) (v3:=.slice hD.hE d.fC hD.h9) V.out).2;have G:=T.out;have a6:=G.first.1
  have a8:=G.Qe.1;have bC:w3.heap.size+1<l.heap.size:=by have:(w3.alloc _).heap.size<l.heap.size:=aA;simpa using this
  have M:=P5.begin (P1:=l) (B:=B) (PY:=w3.heap.size) (a:=w3.heap.size+1) (f:=f) ((aH.keep I.out).P2 bl λi aj=>H i (by omega)) ((H B (by omega)).trans au) ((show iD l (w3.heap.size+1) 0 d.kinds _ by have:=ae.out;simpa using this) |>.keep I.out (by simp) |>.P2 (H _ (by omega))) (G.at (by omega) (b:=w3.heap.size) (by omega) H) (Qd V.out).1 aq ao bC ⟨by omega,by omega,λi aj=>by have:=(G.fD i aj).1;omega⟩;have ap:B<l.heap.size:=ao;generalize hW:World.setCell (World.setCell (World.setCell (World.setCell r ⟨w3.heap.size,0,none⟩ _) _ _) _ _) _ _=Qa at M ⊢;generalize a9:w3.heap.size+1=a at M ⊢;generalize a2:w3.heap.size=PY at M ⊢;generalize a1:l=P1 at M ap)
 rotate_left
 all_goals (
  have bs:=Pj M;clear M hW a9 a2 a1 ae aU T aH au A3 bH aq bl aA ao aZ C aN aM bh bg af R aW Y Z aa
  (try clear V)
  (try clear H G a6 a8)
  clear D I;clear u bc;have aS:=Pj a7;clear a7;go_wp2;go_loopw [10] (λi wr=>∃m:Nat,m<=d.kinds/\i=.int .i64 m/\P5 P1 d (P4 d f m m 0) p hD B PY a 0 f wr) (λi _=>d.kinds-(vy i).toNat)
  case atStart=>exact⟨0,by omega,by go_num,bs.out⟩
  case round=>
   obtain⟨m,hm,rfl,br⟩:=hrel;by_cases aO:m<d.kinds
   .have hd:decide ((m:Int)<d.kinds)=true:=by simpa using aO
    have bA:decide (m<d.kinds)=true:=by simpa using aO
    have aL:=aS.out.1 m aO;have ba:=aT (o:=0) br.mn;have q1:(m:Int)<d.kinds:=by omega
    have bn:(0:Int)<=m:=by omega
    have bo:(f m:Int)<d.kinds:=by omega
    have bW:(0:Int)<=f m:=by omega
    obtain⟨⟨E,F,a3,a4⟩,ah,aD,aE,aF,aG⟩:=br.Qw aO;have ar:wr.drew.cell? ⟨PY,1,none⟩=some (.slice (some ⟨hD.gv,hD.hj,none⟩) d.kinds hD.eT):=E;have J:wr.drew.cell? ⟨a,m,none⟩=some (.int .i64 (f m)):=F;have z:wr.drew.cell? ⟨B,1,none⟩=some (.slice (some ⟨p.gv,p.hj,none⟩) d.kinds p.eT):=a3;have K:wr.drew.cell? ⟨p.gv,p.hj+m,none⟩=some (.int .i64 (d.first m)):=a4;have z0:wr.drew.cell? ⟨hD.gv,hD.hj+f m,none⟩=some (.int .i64 ((P4 d f m m 0).first (f m))):=br.kept.sV.first (f m) aL
    have aI:wr.drew.frozen? ⟨hD.gv,hD.hj+f m,none⟩=false:=ah _;have bf:=br.QP (w':=(wr.setCell ⟨hD.gv,hD.hj+f m,none⟩ (.int .i64 (d.first m))).drew) aO aL rfl;have ad:=Pj bf;clear ah br bf;go_wp2;go_region_held3 (λW=>W.cell? ⟨PY,1,none⟩=some (.slice (some ⟨hD.gv,hD.hj,none⟩) d.kinds hD.eT)/\W.cell? ⟨a,m,none⟩=some (.int .i64 (f m))/\W.cell? ⟨B,1,none⟩=some (.slice (some ⟨p.gv,p.hj,none⟩) d.kinds p.eT)/\W.cell? ⟨p.gv,p.hj+m,none⟩=some (.int .i64 (d.first m)))
     (first|with_reducible exact⟨ar,J,z,K⟩|exact⟨(E9 wr aD).trans E,(E9 wr aE).trans F,(E9 wr aF).trans a3,(E9 wr aG).trans a4⟩)
     (fail)
    clear E F a3 a4 ar J z K z0 aI aD aE aF aG ba;generalize (wr.setCell ⟨hD.gv,hD.hj+f m,none⟩ (.int .i64 (d.first m))).drew=w2 at *;go_wp2;go_loopw [11] (λi bL=>∃c:Nat,c<=d.eY/\i=.int .i64 c/\P5 P1 d (P4 d f (m+1) m c) p hD B PY a 0 f bL) (λi _=>d.eY-(vy i).toNat)
    case atStart=>exact⟨0,by omega,by go_num,ad.out⟩
    case round=>
     obtain⟨c,al,rfl,br⟩:=hrel;have bI:=aT (o:=2) br.mn;by_cases X:c<d.eY
     .have bD:decide ((c:Int)<d.eY)=true:=by simpa using X
      have bE:decide (c<d.eY)=true:=by simpa using X
      have bF:(c:Int)<d.eY:=by omega
      have bG:(0:Int)<=c:=by omega
      obtain⟨⟨E,F,a3,a4,a5,aY⟩,ah,aD,aE,aF,aG,n5,n6⟩:=br.Qx aO X;have ar:wr.drew.cell? ⟨PY,2,none⟩=some (.slice (some ⟨hD.j9,hD.lg,none⟩) d.eY hD.h8):=E;have J:wr.drew.cell? ⟨hD.j9,hD.lg+c*2+1,none⟩=some (.slice (some ⟨hD.im c,hD.sy c,none⟩) d.kinds (hD.j' c)):=F;have z:wr.drew.cell? ⟨a,m,none⟩=some (.int .i64 (f m)):=a3;have K:wr.drew.cell? ⟨B,2,none⟩=some (.slice (some ⟨p.j9,p.lg,none⟩) d.eY p.h8):=a4;have bi:wr.drew.cell? ⟨p.j9,p.lg+c*2+1,none⟩=some (.slice (some ⟨p.im c,p.sy c,none⟩) d.kinds (p.j' c)):=a5;have bj:wr.drew.cell? ⟨p.im c,p.sy c+m,none⟩=some (.int .i64 (d.fD c m)):=aY;have z0:wr.drew.cell? ⟨hD.im c,hD.sy c+f m,none⟩=some (.int .i64 ((P4 d f (m+1) m c).fD c (f m))):=br.kept.sV.fD c X (f m) aL;have aI:wr.drew.frozen? ⟨hD.im c,hD.sy c+f m,none⟩=false:=ah _;have aP:=Pj (br.QQ (w':=(wr.setCell ⟨hD.im c,hD.sy c+f m,none⟩ (.int .i64 (d.fD c m))).drew) aO aL X rfl);clear ah br;go_wp2;go_region_held3 (λW=>W.cell? ⟨PY,2,none⟩=some (.slice (some ⟨hD.j9,hD.lg,none⟩) d.eY hD.h8)/\W.cell? ⟨hD.j9,hD.lg+c*2+1,none⟩=some (.slice (some ⟨hD.im c,hD.sy c,none⟩) d.kinds (hD.j' c))/\W.cell? ⟨a,m,none⟩=some (.int .i64 (f m))/\W.cell? ⟨B,2,none⟩=some (.slice (some ⟨p.j9,p.lg,none⟩) d.eY p.h8)/\W.cell? ⟨p.j9,p.lg+c*2+1,none⟩=some (.slice (some ⟨p.im c,p.sy c,none⟩) d.kinds (p.j' c))/\W.cell? ⟨p.im c,p.sy c+m,none⟩=some (.int .i64 (d.fD c m)))
       (first|with_reducible exact⟨ar,J,z,K,bi,bj⟩|exact⟨(E9 wr aD).trans E,(E9 wr aE).trans F,(E9 wr aF).trans a3,(E9 wr aG).trans a4,(E9 wr n5).trans a5,(E9 wr n6).trans aY⟩)
       (fail)
      clear E F a3 a4 a5 aY ar J z K bi bj z0 aI aD aE aF aG n5 n6 bI;generalize (wr.setCell ⟨hD.im c,hD.sy c+f m,none⟩ (.int .i64 (d.fD c m))).drew=Q at *;go_wp2;exact⟨⟨c+1,by omega,by push_cast;rfl,aP.out⟩,by show d.eY-((c:Int)+1).toNat<d.eY-(c:Int).toNat;omega⟩
     .have bD:decide ((c:Int)<d.eY)=false:=by simp;omega
      have bE:decide (c<d.eY)=false:=by simpa using X
      obtain rfl:c=d.eY:=by omega
      have aP:=Pj br.QO;clear br;go_wp2;exact⟨⟨m+1,by omega,by push_cast;rfl,aP.out⟩,by show d.kinds-((m:Int)+1).toNat<d.kinds-(m:Int).toNat;omega⟩
   .have hd:decide ((m:Int)<d.kinds)=false:=by simp;omega
    have bA:decide (m<d.kinds)=false:=by simpa using aO
    obtain rfl:m=d.kinds:=by omega
    have bB:=aS.out.1 k U;have ba:=aT (o:=0) br.mn;have q1:=aT (o:=1) br.mn;have bn:=aT (o:=2) br.mn;have bo:=aT (o:=3) br.mn;have ad:=Pj br;clear br;have bd:=Pj (Hl (A:=A) d ok p k U left aK bm aB wr ad.out.src);have bx:=Pj (show ∀w',fy w' (P4 d f d.kinds d.kinds 0) hD->Calls (ag A) 30 #[.agg (cO d hD),.int .i64 (f k),.int .i64 left,.int .i64 aK] w' λe bJ=>e=.returned (.tuple #[.int .i64 (fP (d.first k) (cC d k) left aK),.int .i64 0])/\w'.grownBy bJ none from λw' h=>by have:=Hl (A:=A) (P4 d f d.kinds d.kinds 0) (QE ok f) hD (f k) bB left aK bm aB w' h;rw[QC d aS.out.2 U]at this;exact this)
    generalize fP (d.first k) (cC d k) left aK=aX at *;go_upto_region 14 with(go_at_call 30;refine bd.out.mono ?_;rintro e Q ⟨rfl,j⟩;have aQ:=Pj (ad.out.grow j);clear j)
    clear ba q1 bn bo ad bd;obtain⟨a0,E,F,a3,a4⟩:=aQ.out.Qo U;have di:Q.drew.cell? ⟨PY,0,none⟩=some (.int .i64 d.kinds):=a0;have ar:Q.drew.cell? ⟨PY,1,none⟩=some (.slice (some ⟨hD.gv,hD.hj,none⟩) d.kinds hD.eT):=E;have J:Q.drew.cell? ⟨PY,2,none⟩=some (.slice (some ⟨hD.j9,hD.lg,none⟩) d.eY hD.h8):=F;have z:Q.drew.cell? ⟨PY,3,none⟩=some (.slice hD.hE d.fC hD.h9):=a3;have K:Q.drew.cell? ⟨a,k,none⟩=some (.int .i64 (f k)):=a4;have bF:(k:Int)<d.kinds:=by omega
    have bG:(0:Int)<=k:=by omega
    have aR:=Pj (aQ.out.of (w':=Q.drew) rfl);go_region_held3 (λW=>W.cell? ⟨PY,0,none⟩=some (.int .i64 d.kinds)/\W.cell? ⟨PY,1,none⟩=some (.slice (some ⟨hD.gv,hD.hj,none⟩) d.kinds hD.eT)/\W.cell? ⟨PY,2,none⟩=some (.slice (some ⟨hD.j9,hD.lg,none⟩) d.eY hD.h8)/\W.cell? ⟨PY,3,none⟩=some (.slice hD.hE d.fC hD.h9)/\W.cell? ⟨a,k,none⟩=some (.int .i64 (f k)))
     (first|with_reducible exact⟨di,ar,J,z,K⟩|with_reducible exact bb.out)
     (first|(go_at_call 30;refine(bx.out Q.drew aR.out.kept.sV).mono ?_;rintro e Qa ⟨rfl,j⟩;have bb:=Pj ((aR.out.grow j).Qo U);clear j))
    clear a0 E F a3 a4 di ar J z K bb aQ aR;go_wp2_with (go_at_call 16;refine(bz _).mono ?_;rintro e bX ⟨rfl,rfl⟩)
    go_ret;rfl)
end
end Go.aN
