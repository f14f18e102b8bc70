/- A part of FeeCheaps: no conditions. -/
import Derived.Test.YtoebddanaobpaaaGreatDoorP26
import Derived.Test.YtoebddanaobpaaaGreatDoorP33
import Derived.Test.YtoebddanaobpaaaGreatDoorP39
set_option maxHeartbeats 8000000
set_option maxRecDepth 100000
set_option linter.all false
namespace Go.aO
open Go.Proofs Tryz Go.RowKit
section
variable{A:TJ}
def WA[S:Std A](d:dw)(fit:d.fit)(p:gz)(w:S7)(h:iZ w d p)(ar:jY d≠0):
 Calls (ao A) 37 #[.agg (eB d p),.slice none 0 0] w λe w'=>e=.returned (.tuple #[.pointer none,ah (jY d)])/\w.grownBy w' none:=by
 have b8:=dU w (.cells (eB d p) 25) none;have i:=al (ID (A:=A) d fit p _ (h.keep b8));have g:=al b8;obtain⟨c,f⟩:∃c,c=jY d:=⟨_,S6⟩
 have m:(c == 0)=false:=by rw[f];simpa using ar
 have j:=al f;rw[<-f];clear h b8 f ar;go_enter (S.f func37),ntmps37;go_wp2_with (go_at_call 61;refine i.out.mono ?_;rintro e w2 ⟨rfl,ag⟩;rw[<-j.out];have l:=al ag;clear ag)
 go_ret2
 exact⟨S6,g.out.trans l.out⟩
def Wd[S:Std A](b o n c:Nat)(ak:n<=8)(w:S7)(num most bq:Ty)(aT:∀i,i<n->w.cell? (S8 b (o+i*3))=Tn (num i))(I:∀i,i<n->w.cell? (S8 b (o+i*3+1))=Tn (most i))(J:∀i,i<n->w.cell? (S8 b (o+i*3+2))=Tn (bq i))(j:Nat)(aI:j<n)(hb:∀i,i<j->0<=num i/\num i<=most i)(l:¬(0<=num j/\num j<=most j)):
 Calls (ao A) 45 #[TW b o n c] w λe w'=>e=.returned (.iface 146 (.agg #[ah (bq j)]))/\w.grownBy w' none:=by
 have ek:=al aT;have f:=al I;have g:=al J;clear aT I J;go_enter (S.f func45),ntmps45;go_wp2;go_loopw [7] (λi wr=>∃k:Nat,k<=j/\i=ah k/\w.grownBy wr none) (λi _=>n-(TH i).toNat)
 case atStart=>exact⟨0,U,by go_num,e6 _ _⟩
 case round=>
  obtain⟨k,aa,rfl,ag⟩:=hrel;have aS:k<n:=U;have bx:=ag.cell (ek.out k aS) aF;have c1:=ag.cell (f.out k aS) aF;have c2:=ag.cell (g.out k aS) aF;have d:=al ag;clear ag;by_cases h:k<j
  .have au:=hb k h
   have bB:decide (0<=num k/\num k<=most k)=true:=by simp[au.1,au.2]
   go_wp2_with (go_at_call 68;refine(ku _ _ _ _).mono ?_;rintro e w' ⟨rfl,rfl⟩;rw[bB])
   go_roundw
   case rel=>exact⟨k+1,U,by go_num,d.out.trans bT⟩
   case measure=>simp[TH];omega
  .obtain rfl:k=j:=U
   have bB:decide (0<=num k/\num k<=most k)=false:=Ua l;go_wp2_with (go_at_call 68;refine(ku _ _ _ _).mono ?_;rintro e w' ⟨rfl,rfl⟩;rw[bB])
   go_ret;exact⟨S6,d.out.trans bT⟩
def WH[S:Std A](d:dw)(fit:d.fit)(p:gz)(Tl:Int)(w:S7)(h:iZ w d p):
 Calls (ao A) 32 #[.agg (eB d p),ah Tl] w λe w'=>e=.returned (ah (if jY d≠0 then jY d else if 0<=Tl/\Tl<=d.kinds-1 then 0 else 3))/\w.grownBy w' none:=by
 have b8:=dU w (.cells (eB d p) 25) none;have l:=al (S0 (A:=A) d fit p _ (h.keep b8));have j:=al b8;clear h b8;obtain⟨c,f⟩:∃c,c=jY d:=⟨_,S6⟩
 by_cases ar:c=0
 .have aa:=IB (f.symm.trans ar)
  have n:=aa.1.kinds;rw[<-f,Tm U];subst ar;have c8:∀w2:S7,(w.alloc (.cells (eB d p) 25)).grownBy w2 none->w2.cell? (Ti w.heap.size)=Tn d.kinds:=λw2 ag=>ag.cell (a:=(Ti w.heap.size)) (dR S6) aF
  have m:=al c8;have i:=al f;have o:IntKind.i64.wrap (d.kinds-1)=d.kinds-1:=IntWalk.i64_in _ U;clear f aa c8;by_cases I:0<=Tl/\Tl<=d.kinds-1
  .have ax:decide (0<=Tl/\Tl<=d.kinds-1)=true:=Uc I
   rw[Tq I];go_enter (S.f func32),ntmps32;go_wp2_with (first|(go_at_call 57;refine l.out.mono ?_;rintro e w2 ⟨rfl,ag⟩;rw[<-i.out];have ay:=m.out w2 ag;have g:=al ag;clear ag)|(go_at_call 34;refine(nh _ _ _ _).mono ?_;rintro e w' ⟨rfl,rfl⟩;rw[ax]))
   go_ret;exact⟨S6,j.out.trans g.out⟩
  .have ax:decide (0<=Tl/\Tl<=d.kinds-1)=false:=Ua I
   rw[Tm I];go_enter (S.f func32),ntmps32;go_wp2_with (first|(go_at_call 57;refine l.out.mono ?_;rintro e w2 ⟨rfl,ag⟩;rw[<-i.out];have ay:=m.out w2 ag;have g:=al ag;clear ag)|(go_at_call 34;refine(nh _ _ _ _).mono ?_;rintro e w' ⟨rfl,rfl⟩;rw[ax]))
   go_ret;exact⟨S6,j.out.trans g.out⟩
 .have q:(c == 0)=false:=by simpa using ar
  rw[<-f,Tq ar];have i:=al f;clear f;go_enter (S.f func32),ntmps32;go_wp2_with (go_at_call 57;refine l.out.mono ?_;rintro e w2 ⟨rfl,ag⟩;rw[<-i.out];have g:=al ag;clear ag)
  go_ret;exact⟨S6,j.out.trans g.out⟩
def Uv{d:cC}{k day:Nat}:∀n,(∃i,i<n/\d.free i=day)->te d k n day=0
 | 0,⟨i,h,_⟩=>U
 |n+1,⟨i,h,e⟩=>by
  unfold te;by_cases c:d.free n=day
  .rw[Tq c]
  .rw[Tm c]
   refine Uv n ⟨i,?_,e⟩;rcases Nat.lt_succ_iff_lt_or_eq.1 h with y|rfl
   .exact y
   .exact Td e c
def Uw{d:cC}{k day:Nat}:∀n,(¬∃i,i<n/\d.free i=day)->te d k n day=mQ d k d.bk day
 | 0,_=>rfl
 |n+1,h=>by unfold te;rw[Tm (λe=>h ⟨n,U,e⟩)];exact Uw n λ⟨i,ad,e⟩=>h ⟨i,U,e⟩
def Uy[S:Std A](d:cC)(ok:d.ok)(p:eg)(k:Nat)(aa:k<d.kinds)(day:Nat)(w:S7)(h:e' w d p):
 Calls (ao A) 76 #[.agg (dv d p),ah k,ah day] w λe w'=>e=.returned (ah (cX d k day))/\w.grownBy w' none:=by
 have Q:=ok.bk;have R:=ok.b';have b8:=dU w (.cells (dv d p) 25) none;have ek:=al (h.keep b8);have q:=al b8;have second:∀f:(¬∃i,i<d.b'/\d.free i=day),cX d k day=mQ d k d.bk day:=λf=>Uw _ f
 have L:=al second;have F:=al (λh=>show cX d k day=0 from Uv d.b' h);have M:(w.alloc (.cells (dv d p) 25)).cell? (S8 w.heap.size 2)=some (TW p.fV p.gU d.bk p.dq):=dR S6;have B:(w.alloc (.cells (dv d p) 25)).cell? (S8 w.heap.size 3)=some (.slice p.ei d.b' p.dc):=dR S6;obtain⟨E,r⟩:∃E,E=w.alloc (.cells (dv d p) 25):=⟨_,S6⟩
 rw[<-r]at ek q M B;have H:=al r;clear b8 second h r;go_enter (S.f func76),ntmps76;go_wp2;try (rw[<-H.out])
 go_loop [7] (λi=>∃m:Nat,m<=d.b'/\i=ah m/\∀j,j<m->d.free j≠day) (λi=>d.b'-(TH i).toNat)
 case atStart=>exact⟨0,U,by go_num,λj aI=>U⟩
 case round=>
  obtain⟨m,hm,rfl,f⟩:=hrel;have z:=al f;clear f;by_cases aS:m<d.b'
  .let⟨b,o,e,ak⟩:=ek.out.free U
   have I:=ak m aS;rw[e]at B;clear ak e;have P:(m:Int)<(d.b':Int):=U;by_cases g:d.free m=day
   .have u:(d.free m == (day:Int))=true:=by simpa using g
    have D:=F.out ⟨m,aS,g⟩;have K:=al D;clear D g;go_wp2;go_ret;exact⟨hR K.out,q.out⟩
   .have u:(d.free m == (day:Int))=false:=by simpa using g
    go_wp2;go_round
    case rel=>exact⟨m+1,U,by go_num,λj aI=>by
     rcases Ub j m with y|y
     .exact z.out j y
     .rw[show j=m by omega];exact g⟩
    case measure=>simp[TH];omega
  .have C:=L.out (λ⟨i,ad,e⟩=>z.out i U e)
   have G:=al C;clear C;go_wp2;go_loop [8,9] (λout i=>∃m:Nat,m<=d.bk/\i=ah m/\out=ah (mQ d k m day)) (λ_ i=>d.bk-(TH i).toNat)
   case atStart=>exact⟨0,U,by go_num,S6⟩
   case round=>
    obtain⟨m,hm,rfl,rfl⟩:=hrel;by_cases aS:m<d.bk
    .have I:=ek.out.bV m aS
     have J:=ek.out.rows m aS;have ax:=ek.out.cQ m aS k aa;have P:(m:Int)<(d.bk:Int):=U;have T:(k:Int)<(d.kinds:Int):=U;by_cases l:d.bV m<=day
     .have u:decide (d.bV m<=(day:Int))=true:=Uc l
      have c:mQ d k (m+1) day=d.cQ m k:=Tq l;have n:=al c;clear c;go_wp2;go_round
      case rel=>exact⟨m+1,U,by go_num,by rw[n.out]⟩
      case measure=>simp[TH];omega
     .have u:decide (d.bV m<=(day:Int))=false:=Ua l
      have c:mQ d k (m+1) day=mQ d k m day:=Tm l;have n:=al c;clear c;go_wp2;go_round
      case rel=>exact⟨m+1,U,by go_num,by rw[n.out]⟩
      case measure=>simp[TH];omega
    .obtain rfl:m=d.bk:=U
     go_wp2;go_ret;exact⟨hR G.out,q.out⟩
def UQ[S:Std A](d:cC)(ok:d.ok)(p:eg)(k:Nat)(aa:k<d.kinds)(S' aP:Nat)(E:S'<120)(C:aP<120)(w:S7)(h:e' w d p):
 Calls (ao A) 58 #[.agg (dv d p),ah k,ah S',ah aP] w λe w'=>e=.returned (ah (ha (d.first k) (cX d k) S' aP))/\w.grownBy w' none:=by
 have F:(k:Int)<(d.kinds:Int):=U;have D:=ok.first k aa
 have b8:=dU w (.cells (dv d p) 25) none;have ek:=al (h.keep b8);have m:=al b8;have l:=al (show ∀W:S7,(w.alloc (.cells (dv d p) 25)).grownBy W none->W.heap[w.heap.size]?=some (.cells (dv d p) 25)from λW g=>(g.block _ aF aF).trans (fM _ _));have hb:∀j,0<=cX d k j/\cX d k j<=1000000:=λj=>by have:=ql ok aa j;omega
 have n:=al (λj=>ql ok aa j);have r:=al (λ(day:Nat) (w:S7) h=>Uy (A:=A) d ok p k aa day w h);have c1:=(h.keep b8).first k aa
 clear h b8;generalize aA:cX d k=bj at *;clear aA;go_enter (S.f func58),ntmps58;go_wp2;clear c1;go_loopw [9,10] (λs v wr=>∃j:Nat,v=ah j/\S' / 24+1<=j/\(j<=aP / 24+1\/j=S' / 24+1)/\s=ah (d.first k+ks bj (S' / 24+1) (j-(S' / 24+1)))/\(w.alloc (.cells (dv d p) 25)).grownBy wr none) (λ_ v _=>aP / 24+1-(TH v).toNat)
 case atStart=>exact⟨S' / 24+1,aF,bg,.inr S6,by simp[ks],e6 _ _⟩
 case round=>
  obtain⟨j,rfl,I,J,rfl,ag⟩:=hrel;have y:=Gm hb (S' / 24+1) (j-(S' / 24+1));have B:j-(S' / 24+1)<=6:=U;generalize i:ks bj (S' / 24+1) (j-(S' / 24+1))=G at y ⊢;have f:=al i;clear i;have c:=al ag;have e:=l.out _ ag;have H:=(aU (o:=0) e).trans S6;have K:=(aU (o:=1) e).trans S6;have L:=(aU (o:=2) e).trans S6;have M:=(aU (o:=3) e).trans S6;have u:=al (ek.out.keep ag);clear ag e;by_cases aS:j<=aP / 24
  .have z:=n.out j
   go_wp2_with (go_at_call 76;refine(r.out j _ u.out).mono ?_;rintro e w2 ⟨rfl,ag⟩;have q:=al (c.out.trans ag);clear ag)
   go_roundw
   case rel=>
    refine⟨j+1,by go_num,U,U,?_,q.out⟩;have e:j+1-(S' / 24+1)=j-(S' / 24+1)+1:=U;rw[e,ks,f.out,show S' / 24+1+(j-(S' / 24+1))=j by omega];go_num
   case measure=>simp[TH];omega
  .go_wp2
   go_ret;refine⟨?_,m.out.trans c.out⟩;rw[ha,<-f.out,show j-(S' / 24+1)=aP / 24-S' / 24 by omega];rfl
def VS[S:Std A](q g2:TV)(n c bp:Nat)(ak:n<=100000)(f:Ty)(w:S7)(I:kU w q n f)(J:kU w g2 n f):
 Calls (ao A) 24 #[.slice q n c,.slice g2 n bp] w λe w'=>e=.returned (.bool true)/\w.grownBy w' none:=by
 have d:=al I;have g:=al J;clear I J;by_cases aT:n=0
 .subst aT
  go_enter (S.f func24),ntmps24;go_wp2;go_loopw [5] (λi wr=>i=ah 0/\w.grownBy wr none) (λi _=>0)
  case atStart=>exact⟨S6,e6 _ _⟩
  case round=>
   obtain⟨rfl,ag⟩:=hrel;go_wp2;go_ret;exact⟨S6,ag⟩
 .obtain⟨b,o,rfl,k1⟩:=d.out aT
  obtain⟨aE,aV,rfl,cn⟩:=g.out aT;exact DO b o aE aV n c bp ak f w k1 cn
def Wx[S:Std A](d:dw)(p ia:gz)(hF:d.c'<=1000)(c5:d.bk<=1000)(L:d.b'<=1000)(G:∀i,i<d.bk->d.eP i<=1000)(w:S7)(h:iZ w d p)(y:iZ w d ia):
 Calls (ao A) 14 #[.agg (eB d p),.agg (eB d ia)] w λe w'=>e=.returned (.bool true)/\w.grownBy w' none:=by
 have j:=(dU w (.cells (eB d p) 25) none).trans (dU _ (.cells (eB d ia) 25) none);have c:=al (show ∀W:S7,((w.alloc (.cells (eB d p) 25)).alloc (.cells (eB d ia) 25)).grownBy W none->iZ W d p/\iZ W d ia/\W.heap[w.heap.size]?=some (.cells (eB d p) 25)/\W.heap[w.heap.size+1]?=some (.cells (eB d ia) 25)from λW g=>
  ⟨h.keep (j.trans g),y.keep (j.trans g),(g.block _ cH aF).trans ((dm aF).trans (fM _ _)),(g.block _ aF aF).trans (jA _ _ _ aF)⟩)
 have H:=al j;have I:=al G;have z:=al (h.keep j);have B:=al (y.keep j);clear h y j G;go_enter (S.f func14),ntmps14;go_upto_region 3 with(first
  |(go_at_call 24;refine(VS (A:=A) p.ei ia.ei d.b' p.dc ia.dc U d.free _ ((c.out _ f.out).1.free) ((c.out _ f.out).2.1.free)).mono ?_;rintro e w3 ⟨rfl,ag⟩;have n:=al (f.out.trans ag);clear ag q r J z3;have q:=(aU (o:=2) (c.out _ n.out).2.2.1).trans S6;have r:=(aU (o:=2) (c.out _ n.out).2.2.2).trans S6)
  |(go_at_call 24;refine(VS (A:=A) p.eh ia.eh d.c' p.cA ia.cA U d.first _ z.out.first B.out.first).mono ?_;rintro e w2 ⟨rfl,ag⟩;have f:=al ag;clear ag;have q:=(aU (o:=2) (c.out _ f.out).2.2.1).trans S6;have r:=(aU (o:=2) (c.out _ f.out).2.2.2).trans S6;have J:=(aU (o:=3) (c.out _ f.out).2.2.1).trans S6;have z3:=(aU (o:=3) (c.out _ f.out).2.2.2).trans S6))
 clear q r;go_wp2;go_loopw [5] (λi wr=>∃k:Nat,k<=d.bk/\i=ah k/\((w.alloc (.cells (eB d p) 25)).alloc (.cells (eB d ia) 25)).grownBy wr none) (λi _=>d.bk-numOf i)
 case atStart=>exact⟨0,U,by go_num,n.out⟩
 case round=>
  obtain⟨k,aa,rfl,ag⟩:=hrel;have m:=al ag;clear ag f n;have q:=(aU (o:=2) (c.out _ m.out).2.2.1).trans S6;have r:=(aU (o:=2) (c.out _ m.out).2.2.2).trans S6;by_cases aS:k<d.bk
  .have q1:(k:Int)<(d.bk:Int):=U
   have Q:(0:Int)<=k:=U;obtain⟨b,o,ay,-⟩:=z.out.kM U;obtain⟨aE,aV,u,-⟩:=B.out.kM U;have D:=al (show ∀W:S7,((w.alloc (.cells (eB d p) 25)).alloc (.cells (eB d ia) 25)).grownBy W none->W.cell? (S8 w.heap.size 2)=some (.slice (some (S8 b o)) d.bk p.dq)/\W.cell? (S8 (w.heap.size+1) 2)=some (.slice (some (S8 aE aV)) d.bk ia.dq)/\
    W.cell? (S8 b (o+k*2))=some (ah (d.bV k))/\W.cell? (S8 b (o+k*2+1))=some (.slice (p.fh k) (d.eP k) (p.cq k))/\W.cell? (S8 aE (aV+k*2))=some (ah (d.bV k))/\W.cell? (S8 aE (aV+k*2+1))=some (.slice (ia.fh k) (d.eP k) (ia.cq k))from λW g=>by
    let⟨f1,f2,f3,f4⟩:=c.out W g;let⟨bB,M,E,c1⟩:=f1.kM U;let⟨K,P,F,c2⟩:=f2.kM U;rw[ay]at E;rw[u]at F;cases E;cases F;exact⟨(aU f3).trans (by rw[<-ay];rfl),(aU f4).trans (by rw[<-u];rfl),(c1 k aS).1,(c1 k aS).2,(c2 k aS).1,(c2 k aS).2⟩)
   have l:=al (show((w.alloc (.cells (eB d p) 25)).alloc (.cells (eB d ia) 25)).grownBy wr.drew none from gv m.out);clear ay u;go_upto_region 6 with fail
   go_region_held3 (λW=>W.cell? (S8 w.heap.size 2)=some (.slice (some (S8 b o)) d.bk p.dq)/\W.cell? (S8 (w.heap.size+1) 2)=some (.slice (some (S8 aE aV)) d.bk ia.dq)/\
    W.cell? (S8 b (o+k*2))=some (ah (d.bV k))/\W.cell? (S8 b (o+k*2+1))=some (.slice (p.fh k) (d.eP k) (p.cq k))/\W.cell? (S8 aE (aV+k*2))=some (ah (d.bV k))/\W.cell? (S8 aE (aV+k*2+1))=some (.slice (ia.fh k) (d.eP k) (ia.cq k)))
    (first|with_reducible exact D.out _ l.out|with_reducible exact D.out _ C.out)
    (first|(go_at_call 24;refine(VS (A:=A) (p.fh k) (ia.fh k) (d.eP k) (p.cq k) (ia.cq k) (by have:=I.out k aS;omega) (d.cQ k) _ ((c.out _ l.out).1.cQ k aS) ((c.out _ l.out).2.1.cQ k aS)).mono ?_;rintro e R ⟨rfl,ag⟩;have C:=al (l.out.trans ag);clear ag))
   go_wp2;exact⟨⟨k+1,U,by push_cast;rfl,C.out⟩,by simp[numOf];omega⟩
  .go_wp2
   go_ret;exact⟨S6,H.out.trans m.out⟩
end
end Go.aO
namespace Go.aO
open Go.Proofs Go.RowKit
def U'(m x:dY):dY:=if vM x m then x else m
def Vx(a b:dY):vM a b=true↔a.cost<b.cost\/(a.cost=b.cost/\a.eW<b.eW):=by simp[vM]
def VL(m x:dY):(gE.mk m true).take x=⟨U' m x,true⟩:=by unfold gE.take U';by_cases h:vM x m<;>simp[h]
def VA(m x:dY):(gE.mk m false).take x=⟨x,true⟩:=by simp[gE.take]
def VE:∀(l:List dY) (m:dY),l.foldl gE.take ⟨m,true⟩=⟨l.foldl U' m,true⟩
 | [],_=>rfl
 |x::l,m=>by rw[List.foldl_cons,VL,VE l,List.foldl_cons]
def V3(m a x:dY):U' m (U' a x)=U' (U' m a) x:=by
 have I:=Vx x a;have J:=Vx x m;have ax:=Vx a m;unfold U';by_cases q1:vM x a=true
 .rw[if_pos q1]
  by_cases c:vM a m=true
  .rw[if_pos c,if_pos q1,if_pos]
   rw[J];rw[I]at q1;rw[ax]at c;omega
  .rw[if_neg c]
 .rw[if_neg q1]
  by_cases c:vM a m=true
  .rw[if_pos c,if_neg q1]
  .rw[if_neg c,if_neg]
   rw[J];rw[I]at q1;rw[ax]at c;omega
def V5:∀(l:List dY) (m a:dY),U' m (l.foldl U' a)=l.foldl U' (U' m a)
 | [],_,_=>rfl
 |x::l,m,a=>by rw[List.foldl_cons,V5 l,List.foldl_cons,V3]
def WL(c:gE)(x:dY)(l:List dY):c.take ((x::l).foldl gE.take lT).cu=(x::l).foldl gE.take c:=by
 obtain⟨m,s⟩:=c;rw[List.foldl_cons,List.foldl_cons,show lT.take x=⟨x,true⟩from VA _ _,VE];cases s
 .rw[VA,VA,VE]
 .rw[VL,VL,VE,V5]
def Vk(a7:Nat->Nat->Int)(g:Nat->dY)(left f next:Nat):dY:=⟨a7 left f+(g next).cost,(g next).eW+1,left,f,next⟩
def U8(left f:Nat):Nat:=max f (left+1)
def Ve(e carry left f:Nat):Nat:=min (f+carry) e+1-U8 left f
def Vy(a7:Nat->Nat->Int)(g:Nat->dY)(left f n:Nat):List dY:=(List.range n).map λj=>Vk a7 g left f (U8 left f+j)
def V'(a7:Nat->Nat->Int)(g:Nat->dY)(left f n:Nat):Vy a7 g left f (n+1)=Vy a7 g left f n++[Vk a7 g left f (U8 left f+n)]:=by simp[Vy,List.range_succ]
def V7{α β:Type}(f:β->α->β)(b:β)(l:List α)(x:α):(l++[x]).foldl f b=f (l.foldl f b) x:=by simp
def VW{a7:Nat->Nat->Int}{e:Nat}{g:Nat->dY}{left f:Nat}(d:left<=f)(c:f<e):∀j,gR a7 e g left f j=(Vy a7 g left f (j-(U8 left f-f))).foldl gE.take lT
 | 0=>by
  rw[gR,if_neg (by omega),Nat.zero_sub];rfl
 |j+1=>by
  rw[gR,VW d c j];by_cases ar:left=f/\j=0
  .obtain⟨rfl,rfl⟩:=ar
   rw[if_pos ⟨rfl,rfl⟩,show U8 left left-left=1 by unfold U8;omega]
  .rw[if_neg ar]
   have I:U8 left f-f<=j:=by unfold U8;omega
   have J:f<=U8 left f:=by unfold U8;omega
   rw[show j+1-(U8 left f-f)=j-(U8 left f-f)+1 by omega,V',V7,Vk,show U8 left f+(j-(U8 left f-f))=f+j by omega]
def Wf{a7:Nat->Nat->Int}{e carry:Nat}{g:Nat->dY}{left f:Nat}(d:left<=f)(c:f<e):oC a7 e carry g left f=(Vy a7 g left f (Ve e carry left f)).foldl gE.take lT:=by unfold oC;rw[if_pos c,VW d c];congr 2;unfold Ve U8;omega
def Vr(a7:Nat->Nat->Int)(e left:Nat):dY:=⟨a7 left e,1,left,e,-1⟩
def We{a7:Nat->Nat->Int}{e carry:Nat}{g:Nat->dY}{left:Nat}:oC a7 e carry g left e=⟨Vr a7 e left,true⟩:=by unfold oC;rw[if_neg (Nat.lt_irrefl _),gR,if_pos rfl];exact VA _ _
def Vh(a7:Nat->Nat->Int)(e carry:Nat)(g:Nat->dY)(left:Nat):Nat->List dY
 | 0=>[]
 |j+1=>Vh a7 e carry g left j++Vy a7 g left (left+j) (Ve e carry left (left+j))
def V8{a7:Nat->Nat->Int}{e carry:Nat}{g:Nat->dY}{left:Nat}:∀j,left+j<=e->hc a7 e carry g left j=(Vh a7 e carry g left j).foldl gE.take lT
 | 0,_=>rfl
 |j+1,h=>by
  rw[hc,V8 j (by omega),Wf (by omega) (by omega),Vh,List.foldl_append];generalize (Vh a7 e carry g left j).foldl gE.take lT=c;rcases Vy a7 g left (left+j) (Ve e carry left (left+j))with _|⟨x,l⟩
  .rfl
  .rw[if_pos (by rw[List.foldl_cons,show lT.take x=⟨x,true⟩from VA _ _,VE])]
   exact WL c x l
def VX{a7:Nat->Nat->Int}{e carry left:Nat}(c:left<=e):b2 a7 e carry left=((Vh a7 e carry (b2 a7 e carry) left (e-left)).foldl gE.take lT |>.take (Vr a7 e left)).cu:=by rw[yL,show e+1-left=(e-left)+1 by omega,hc,show left+(e-left)=e by omega,We,if_pos rfl,V8 _ (by omega)]
def V4(o:dY):∀(l:List dY) (m:dY),(∀x,x∈l->o.eW<x.eW)->o.eW<m.eW->U' (l.foldl U' m) o=l.foldl U' (U' o m)
 | [],m,_,h=>by
  have I:=Vx o m;have J:=Vx m o;show U' m o=U' o m;unfold U';by_cases q:vM o m=true
  .rw[if_pos q,if_neg]
   rw[J];rw[I]at q;omega
  .rw[if_neg q,if_pos]
   rw[J];rw[I]at q;omega
 |x::l,m,c,h=>by
  rw[List.foldl_cons,List.foldl_cons,V4 o l (U' m x) (λy d=>c y (List.mem_cons_of_mem _ d)),V3];unfold U';split
  .exact c x List.mem_cons_self
  .exact h
def Wi{a7:Nat->Nat->Int}{e carry left:Nat}(c:left<=e)(aA:∀x,x∈Vh a7 e carry (b2 a7 e carry) left (e-left)->1<x.eW):b2 a7 e carry left=(Vh a7 e carry (b2 a7 e carry) left (e-left)).foldl U' (Vr a7 e left):=by
 rw[VX c];revert aA;rcases Vh a7 e carry (b2 a7 e carry) left (e-left)with _|⟨x,l⟩
 .intro _;exact congrArg gE.cu (VA _ _)
 .intro aA
  rw[List.foldl_cons,show lT.take x=⟨x,true⟩from VA _ _,VE,VL];exact V4 _ l x (λy d=>aA y (List.mem_cons_of_mem _ d)) (aA x List.mem_cons_self)
structure Vb where
 eW:List (Nat×Nat)
 cost:Int
def lexB:List (Nat×Nat)->List (Nat×Nat)->Bool
 |x::l,y::m=>if x.1≠y.1 then decide (x.1<y.1)else if x.2≠y.2 then decide (x.2<y.2)else lexB l m
 |_,_=>false
def Vt(a b:Vb):Bool:=if a.cost≠b.cost then decide (a.cost<b.cost)else if a.eW.length≠b.eW.length then decide (a.eW.length<b.eW.length)else lexB a.eW b.eW
def Vf(a7:Nat->Nat->Int)(later:Nat->Vb)(left f next:Nat):Vb:=⟨(left,f)::(later next).eW,a7 left f+(later next).cost⟩
def Vz(a7:Nat->Nat->Int)(later:Nat->Vb)(left f:Nat)(c:Vb)(next:Nat):Vb:=
 if c.cost<(Vf a7 later left f next).cost\/((Vf a7 later left f next).cost=c.cost/\c.eW.length<=(later next).eW.length)then c
 else if Vt (Vf a7 later left f next) c then Vf a7 later left f next else c
def Vp(a7:Nat->Nat->Int)(later:Nat->Vb)(left f:Nat)(c:Vb):Nat->Vb
 | 0=>c
 |j+1=>Vz a7 later left f (Vp a7 later left f c j) (U8 left f+j)
def Vi(a7:Nat->Nat->Int)(e carry:Nat)(later:Nat->Vb)(left:Nat):Nat->Vb
 | 0=>⟨[(left,e)],a7 left e⟩
 |j+1=>Vp a7 later left (left+j) (Vi a7 e carry later left j) (Ve e carry left (left+j))
def Vm(l:List dY):List (Nat×Nat):=l.map λb=>(b.left.toNat,b.aP.toNat)
def U6(a7:Nat->Nat->Int)(e carry left:Nat):Vb:=⟨Vm (r' a7 e carry left),(b2 a7 e carry left).cost⟩
def VT(a7:Nat->Nat->Int)(e carry left:Nat)(c:left<=e):(b2 a7 e carry left).next = -1\/∃l:Nat,(b2 a7 e carry left).next=l/\left<l/\l<=e:=H6 c
def VY(a7:Nat->Nat->Int)(e carry left:Nat)(c:left<=e):∃f,vl a7 e carry (b2 a7 e carry) left f (b2 a7 e carry left):=H5 c
def VZ{a7:Nat->Nat->Int}{e carry:Nat}:∀(n m left:Nat),left<=e->e-left<=n->e-left<=m->pM (b2 a7 e carry) n (b2 a7 e carry left)=pM (b2 a7 e carry) m (b2 a7 e carry left)
 | 0,m,left,c,ak,_=>by
  rcases VT a7 e carry left c with h|⟨l,_,I,J⟩
  .rw[Cg h,Cg h]
  .omega
 |n+1,0,left,c,_,hm=>by
  rcases VT a7 e carry left c with h|⟨l,_,I,J⟩
  .rw[Cg h,Cg h]
  .omega
 |n+1,m+1,left,c,ak,hm=>by
  rcases VT a7 e carry left c with h|⟨l,h,I,J⟩
  .rw[Cg h,Cg h]
  .rw[Ch h,Ch h,VZ n m l J (by omega) (by omega)]
def VP{a7:Nat->Nat->Int}{e carry left:Nat}(h:(b2 a7 e carry left).next = -1):r' a7 e carry left = [b2 a7 e carry left]:=Cg h _
def VQ{a7:Nat->Nat->Int}{e carry left l:Nat}(h:(b2 a7 e carry left).next=l)(c:l<=e):r' a7 e carry left=b2 a7 e carry left::r' a7 e carry l:=by unfold r';rw[Ch h,VZ e (e+1) l c (by omega) (by omega)]
def V1{a7:Nat->Nat->Int}{e carry:Nat}:∀(n left:Nat),left<=e->e-left<=n->((r' a7 e carry left).length:Int)=(b2 a7 e carry left).eW/\∃f r,Vm (r' a7 e carry left)=(left,f)::r
 |n,left,d,ak=>by
  obtain⟨f,c⟩:=VY a7 e carry left d;have aT:(b2 a7 e carry left).left.toNat=left:=by rw[c.aj];rfl
  rcases c.gM with⟨_,I,_,J⟩|⟨l,I,J,ax,_,_,aZ,_,bs⟩
  .rw[VP I,J]
   exact⟨rfl,(b2 a7 e carry left).aP.toNat,[],by simp[Vm,aT]⟩
  .have ar:=c.le
   have aS:left<l:=by omega
   rw[VQ I ax,bs];match n,ak with
   | 0,ak=>omega
   |n+1,ak=>
    have g:=(V1 (a7:=a7) (carry:=carry) n l ax (by omega)).1;exact⟨by rw[List.length_cons];omega,(b2 a7 e carry left).aP.toNat,Vm (r' a7 e carry l),by simp[Vm,aT]⟩
def VC{a7:Nat->Nat->Int}{e carry left:Nat}(c:left<=e):((U6 a7 e carry left).eW.length:Int)=(b2 a7 e carry left).eW/\∃f r,(U6 a7 e carry left).eW=(left,f)::r:=by obtain⟨I,J⟩:=V1 (a7:=a7) (carry:=carry) _ left c (Nat.le_refl _);exact⟨by rw[<-I];simp[U6,Vm],J⟩
structure Beside(a7:Nat->Nat->Int)(e carry left f n:Nat)(b:Vb)(m:dY):Prop where
 cost:b.cost=m.cost
 len:(b.eW.length:Int)=m.eW
 shape:(m.next = -1/\b.eW = [(left,e)]/\m=Vr a7 e left)\/∃g l:Nat,m.next=l/\m.aP=g/\m.left=left/\left<l/\l<=e/\(g<f\/(g=f/\l<n))/\b.eW=(left,g)::(U6 a7 e carry l).eW
def Beside.later{a7:Nat->Nat->Int}{e carry left f n VI c9:Nat}{b:Vb}{m:dY}(h:Beside a7 e carry left f n b m)(c:f<VI\/(f=VI/\n<=c9)):Beside a7 e carry left VI c9 b m:=
 ⟨h.cost,h.len,h.shape.imp id λ⟨g,l,I,J,ax,aZ,bs,cv,cP⟩=>⟨g,l,I,J,ax,aZ,bs,by omega,cP⟩⟩
def Beside.step{a7:Nat->Nat->Int}{e carry left f n:Nat}{b:Vb}{m:dY}(h:Beside a7 e carry left f n b m)(u:left<n)(ak:n<=e):
 Beside a7 e carry left f (n+1) (Vz a7 (U6 a7 e carry) left f b n) (U' m (Vk a7 (b2 a7 e carry) left f n)):=by
 obtain⟨D,f1,r1,r⟩:=VC (a7:=a7) (carry:=carry) ak;have c:(Vf a7 (U6 a7 e carry) left f n).cost=(Vk a7 (b2 a7 e carry) left f n).cost:=rfl;have p:(Vf a7 (U6 a7 e carry) left f n).eW.length=(U6 a7 e carry n).eW.length+1:=rfl;have w:(Vk a7 (b2 a7 e carry) left f n).eW=(b2 a7 e carry n).eW+1:=rfl;have j:=Vx (Vk a7 (b2 a7 e carry) left f n) m;have ar:=h.cost;have hlen:=h.len;have new:Beside a7 e carry left f (n+1) (Vf a7 (U6 a7 e carry) left f n) (Vk a7 (b2 a7 e carry) left f n):=
  ⟨c,by rw[p,w];omega,.inr ⟨f,n,rfl,rfl,rfl,u,ak,.inr ⟨rfl,by omega⟩,rfl⟩⟩
 have old:=h.later (VI:=f) (c9:=n+1) (.inr ⟨rfl,by omega⟩);unfold Vz U';by_cases q:b.cost<(Vf a7 (U6 a7 e carry) left f n).cost\/((Vf a7 (U6 a7 e carry) left f n).cost=b.cost/\b.eW.length<=(U6 a7 e carry n).eW.length)
 .rw[if_pos q,if_neg]
  .exact old
  .rw[j];rw[c]at q;omega
 .rw[if_neg q]
  by_cases d:vM (Vk a7 (b2 a7 e carry) left f n) m=true
  .rw[if_pos d,if_pos]
   .exact new
   .rw[j,<-c,<-ar]at d
    unfold Vt;by_cases z:(Vf a7 (U6 a7 e carry) left f n).cost=b.cost
    .rw[if_neg (by simpa using z),if_pos (by omega)]
     simp only[decide_eq_true_eq];omega
    .rw[if_pos z]
     simp only[decide_eq_true_eq];omega
  .rw[if_neg d,if_neg]
   .exact old
   .rw[j,<-c,<-ar]at d
    have C:(Vf a7 (U6 a7 e carry) left f n).cost=b.cost:=by omega
    have i:(Vf a7 (U6 a7 e carry) left f n).eW.length=b.eW.length:=by omega
    unfold Vt;rw[if_neg (by simpa using C),if_neg (by simpa using i)];rcases h.shape with⟨_,s1,_⟩|⟨g,l,_,_,_,s1,s2,o,B⟩
    .rw[s1]at i
     rw[p,r]at i;simp at i
    .obtain⟨_,f2,r2,y⟩:=VC (a7:=a7) (carry:=carry) s2
     rw[B,y];show ¬lexB ((left,f)::(U6 a7 e carry n).eW) _=true;rw[r];simp only[lexB,ne_eq,not_true_eq_false,if_false];rcases o with o|⟨rfl,o⟩
     .rw[if_pos (by omega)];simp;omega
     .simp only[not_true_eq_false,if_false]
      rw[if_pos (by omega)];simp;omega
def Beside.row{a7:Nat->Nat->Int}{e carry left f:Nat}{b:Vb}{m:dY}(h:Beside a7 e carry left f 0 b m):∀j,j<=Ve e carry left f->Beside a7 e carry left f (U8 left f+j) (Vp a7 (U6 a7 e carry) left f b j) ((Vy a7 (b2 a7 e carry) left f j).foldl U' m)
 | 0,_=>h.later (.inr ⟨rfl,by omega⟩)
 |j+1,aI=>by
  rw[Vp,V',V7];have I:left<U8 left f+j:=by unfold U8;omega
  have J:U8 left f+j<=e:=by unfold Ve at aI;omega
  exact(h.row j (by omega)).step I J
def Beside.rows{a7:Nat->Nat->Int}{e carry left:Nat}:∀j,Beside a7 e carry left (left+j) 0 (Vi a7 e carry (U6 a7 e carry) left j) ((Vh a7 e carry (b2 a7 e carry) left j).foldl U' (Vr a7 e left))
 | 0=>⟨rfl,rfl,.inl ⟨rfl,rfl,rfl⟩⟩
 |j+1=>by rw[Vi,Vh,List.foldl_append];exact((Beside.rows j).row _ (Nat.le_refl _)).later (.inl (by omega))
def Wa{a7:Nat->Nat->Int}{e carry left:Nat}:∀j,∀x,x∈Vh a7 e carry (b2 a7 e carry) left j->1<x.eW
 | 0,x,h=>by cases h
 |j+1,x,h=>by
  rw[Vh]at h;rcases List.mem_append.1 h with h|h
  .exact Wa j x h
  .obtain⟨i,ad,rfl⟩:=List.mem_map.1 h
   have ad:=List.mem_range.1 ad;have J:U8 left (left+j)+i<=e:=by unfold Ve at ad;omega
   obtain⟨c,f1,r1,d⟩:=VC (a7:=a7) (carry:=carry) J;show 1<(b2 a7 e carry (U8 left (left+j)+i)).eW+1;rw[d,List.length_cons]at c;omega
def V6:∀(l:List dY) (m:dY),(l.foldl U' m).cost<m.cost\/((l.foldl U' m).cost=m.cost/\(l.foldl U' m).eW<=m.eW)
 | [],m=>.inr ⟨rfl,Int.le_refl _⟩
 |x::l,m=>by
  have h:=V6 l (U' m x);rw[List.foldl_cons];have J:(U' m x).cost<m.cost\/((U' m x).cost=m.cost/\(U' m x).eW<=m.eW):=by
   unfold U';split
   .rename_i q
    rw[Vx]at q;omega
   .exact .inr ⟨rfl,Int.le_refl _⟩
  omega
def WI{a7:Nat->Nat->Int}{e carry left:Nat}(m:∀l f,0<=a7 l f)(n:left<=e):Vi a7 e carry (U6 a7 e carry) left (e+1-left)=U6 a7 e carry left:=by
 have d:=Wi (a7:=a7) (carry:=carry) n (λx o=>Wa _ x o);have H:=Beside.rows (a7:=a7) (carry:=carry) (left:=left) (e:=e) (e+1-left);have ay:e+1-left=(e-left)+1:=by omega
 rw[ay]at H ⊢;have j:(Vh a7 e carry (b2 a7 e carry) left (e-left+1)).foldl U' (Vr a7 e left)=b2 a7 e carry left:=by
  rw[Vh,List.foldl_append,<-d,show left+(e-left)=e by omega];by_cases hle:left=e
  .have:Ve e carry left e=0:=by unfold Ve U8;omega
   rw[this];rfl
  .have:Ve e carry left e=1:=by unfold Ve U8;omega
   rw[this];show U' _ (Vk a7 (b2 a7 e carry) left e (U8 left e+0))=_;have aT:U8 left e+0=e:=by unfold U8;omega
   have u:(b2 a7 e carry e).cost=a7 e e:=by rw[VX (Nat.le_refl e),Nat.sub_self];exact congrArg (λc:gE=>c.cu.cost) (VA _ _)
   have I:=m e e;have J:=V6 (Vh a7 e carry (b2 a7 e carry) left (e-left)) (Vr a7 e left);rw[<-d]at J;have ax:=(VC (a7:=a7) (carry:=carry) (Nat.le_refl e))
   obtain⟨p,f1,r1,q⟩:=ax;rw[q,List.length_cons]at p;unfold U';rw[if_neg];rw[Vx,aT];have aZ:(Vr a7 e left).cost=a7 left e:=rfl;have bs:(Vr a7 e left).eW=1:=rfl;have cv:(Vk a7 (b2 a7 e carry) left e e).cost=a7 left e+(b2 a7 e carry e).cost:=rfl;have cP:(Vk a7 (b2 a7 e carry) left e e).eW=(b2 a7 e carry e).eW+1:=rfl;omega
 rw[j]at H;have h:=H.cost;have i:(Vi a7 e carry (U6 a7 e carry) left (e-left+1)).eW=(U6 a7 e carry left).eW:=by
  show _=Vm (r' a7 e carry left);rcases H.shape with⟨I,J,ax⟩|⟨g,l,I,J,ax,aZ,bs,_,cv⟩
  .rw[J,VP I,ax]
   simp[Vm,Vr]
  .rw[cv,VQ I bs]
   simp[Vm,U6,J,ax]
 generalize Vi a7 e carry (U6 a7 e carry) left (e-left+1)=r at *;cases r;simp only at h i;subst h i;rfl
def Ww{a b:List (Nat×Nat)}{k:Nat}{x y:Nat×Nat}(ae:a[k]?=some x)(hb:b[k]?=some y):lexB (a.drop k) (b.drop k)=if x.1≠y.1 then decide (x.1<y.1)else if x.2≠y.2 then decide (x.2<y.2)else lexB (a.drop (k+1)) (b.drop (k+1)):=by obtain⟨I,rfl⟩:=List.getElem?_eq_some_iff.1 ae;obtain⟨J,rfl⟩:=List.getElem?_eq_some_iff.1 hb;rw[List.drop_eq_getElem_cons I,List.drop_eq_getElem_cons J,lexB]
def Vw(n:Nat)(r:Vb):Prop:=0<=r.cost/\r.cost<=1000000*n/\r.eW.length<=n
def VU{a7:Nat->Nat->Int}{e carry left:Nat}(c:∀l f,0<=a7 l f/\a7 l f<=1000000)(he:e<120)(d:left<=e):Vw 120 (U6 a7 e carry left):=by
 obtain⟨I,J,ax,aZ⟩:=(show lq 120 (b2 a7 e carry left)from H4 c he left)
 have:=(VC (a7:=a7) (carry:=carry) d).1;exact⟨I,J,by omega⟩
def WK{a7:Nat->Nat->Int}{later:Nat->Vb}{left f next:Nat}{b:Vb}(c:∀l f,0<=a7 l f/\a7 l f<=1000000)(hb:Vw 121 b)(ak:Vw 120 (later next)):Vw 121 (Vz a7 later left f b next):=by
 have ar:Vw 121 (Vf a7 later left f next):=by
  obtain⟨I,J,ax⟩:=ak;have:=c left f;refine⟨?_,?_,?_⟩
  .show 0<=a7 left f+(later next).cost;omega
  .show a7 left f+(later next).cost<=_;omega
  .show(later next).eW.length+1<=_;omega
 unfold Vz;split
 .exact hb
 .split
  .exact ar
  .exact hb
def VV{a7:Nat->Nat->Int}{e carry left f:Nat}{b:Vb}(c:∀l f,0<=a7 l f/\a7 l f<=1000000)(he:e<120)(hb:Vw 121 b):∀j,j<=Ve e carry left f->Vw 121 (Vp a7 (U6 a7 e carry) left f b j)
 | 0,_=>hb
 |j+1,aI=>by rw[Vp];refine WK c (VV c he hb j (by omega)) (VU c he ?_);unfold Ve at aI;omega
def Wb{a7:Nat->Nat->Int}{e carry left:Nat}(c:∀l f,0<=a7 l f/\a7 l f<=1000000)(he:e<120):∀j,Vw 121 (Vi a7 e carry (U6 a7 e carry) left j)
 | 0=>by
  have:=c left e;refine⟨?_,?_,?_⟩
  .show 0<=a7 left e;omega
  .show a7 left e<=_;omega
  .show 1<=121;omega
 |j+1=>by rw[Vi];exact VV c he (Wb c he j) _ (Nat.le_refl _)
end Go.aO
