/- A part of FeeSums: no conditions. -/
import Derived.Test.YtjlbkajlmanedaaGreatDoorP26
import Derived.Test.YtjlbkajlmanedaaGreatDoorP33
import Derived.Test.YtjlbkajlmanedaaGreatDoorP39
set_option maxHeartbeats 8000000
set_option maxRecDepth 100000
set_option linter.all false
namespace Go.aO
open Go.Proofs Tryz Go.RowKit
section
variable{A:TJ}
def V7[S:Std A](b o n c:Nat)(ak:n<=8)(w:S7)(num most bq:Ty)(aT:∀i,i<n->w.cell? (S8 b (o+i*3))=Tn (num i))(I:∀i,i<n->w.cell? (S8 b (o+i*3+1))=Tn (most i))(J:∀i,i<n->w.cell? (S8 b (o+i*3+2))=Tn (bq i))(j:Nat)(aI:j<n)(hb:∀i,i<j->0<=num i/\num i<=most i)(l:¬(0<=num j/\num j<=most j)):
 Calls (ao A) 48 #[TW b o n c] w λe w'=>e=.returned (.iface 161 (.agg #[ah (bq j)]))/\w.grownBy w' none:=by
 have ek:=al aT;have f:=al I;have g:=al J;clear aT I J;go_enter (S.f func48),ntmps48;go_wp2;go_loopw [7] (λi wr=>∃k:Nat,k<=j/\i=ah k/\w.grownBy wr none) (λi _=>n-(TH i).toNat)
 case atStart=>exact⟨0,U,by go_num,e6 _ _⟩
 case round=>
  obtain⟨k,aa,rfl,ag⟩:=hrel;have aS:k<n:=U;have bx:=ag.cell (ek.out k aS) aF;have c1:=ag.cell (f.out k aS) aF;have c2:=ag.cell (g.out k aS) aF;have d:=al ag;clear ag;by_cases h:k<j
  .have au:=hb k h
   have bB:decide (0<=num k/\num k<=most k)=true:=by simp[au.1,au.2]
   go_wp2_with (go_at_call 71;refine(ku _ _ _ _).mono ?_;rintro e w' ⟨rfl,rfl⟩;rw[bB])
   go_roundw
   case rel=>exact⟨k+1,U,by go_num,d.out.trans bT⟩
   case measure=>simp[TH];omega
  .obtain rfl:k=j:=U
   have bB:decide (0<=num k/\num k<=most k)=false:=Ua l;go_wp2_with (go_at_call 71;refine(ku _ _ _ _).mono ?_;rintro e w' ⟨rfl,rfl⟩;rw[bB])
   go_ret;exact⟨S6,d.out.trans bT⟩
def Uv{d:cC}{k day:Nat}:∀n,(∃i,i<n/\d.free i=day)->te d k n day=0
 | 0,⟨i,h,_⟩=>U
 |n+1,⟨i,h,e⟩=>by
  unfold te;by_cases c:d.free n=day
  .rw[Tq c]
  .rw[Tm c]
   refine Uv n ⟨i,?_,e⟩;rcases Nat.lt_succ_iff_lt_or_eq.1 h with y|rfl
   .exact y
   .exact Td e c
def Uw{d:cC}{k day:Nat}:∀n,(¬∃i,i<n/\d.free i=day)->te d k n day=mQ d k d.bk day
 | 0,_=>rfl
 |n+1,h=>by unfold te;rw[Tm (λe=>h ⟨n,U,e⟩)];exact Uw n λ⟨i,ad,e⟩=>h ⟨i,U,e⟩
def Uy[S:Std A](d:cC)(ok:d.ok)(p:eg)(k:Nat)(aa:k<d.kinds)(day:Nat)(w:S7)(h:e' w d p):
 Calls (ao A) 89 #[.agg (dv d p),ah k,ah day] w λe w'=>e=.returned (ah (cX d k day))/\w.grownBy w' none:=by
 have P:=ok.bk;have Q:=ok.b';have b8:=dU w (.cells (dv d p) 25) none;have ek:=al (h.keep b8);have n:=al b8;have second:∀f:(¬∃i,i<d.b'/\d.free i=day),cX d k day=mQ d k d.bk day:=λf=>Uw _ f
 have K:=al second;have E:=al (λh=>show cX d k day=0 from Uv d.b' h);have L:(w.alloc (.cells (dv d p) 25)).cell? (S8 w.heap.size 2)=some (TW p.fV p.gU d.bk p.dq):=dR S6;have z:(w.alloc (.cells (dv d p) 25)).cell? (S8 w.heap.size 3)=some (.slice p.ei d.b' p.dc):=dR S6;obtain⟨D,q⟩:∃D,D=w.alloc (.cells (dv d p) 25):=⟨_,S6⟩
 rw[<-q]at ek n L z;have G:=al q;clear b8 second h q;go_enter (S.f func89),ntmps89;go_wp2;try (rw[<-G.out])
 go_loop [7] (λi=>∃m:Nat,m<=d.b'/\i=ah m/\∀j,j<m->d.free j≠day) (λi=>d.b'-(TH i).toNat)
 case atStart=>exact⟨0,U,by go_num,λj aI=>U⟩
 case round=>
  obtain⟨m,hm,rfl,f⟩:=hrel;have u:=al f;clear f;by_cases aS:m<d.b'
  .let⟨b,o,e,ak⟩:=ek.out.free U
   have I:=ak m aS;rw[e]at z;clear ak e;have M:(m:Int)<(d.b':Int):=U;by_cases g:d.free m=day
   .have r:(d.free m == (day:Int))=true:=by simpa using g
    have C:=E.out ⟨m,aS,g⟩;have H:=al C;clear C g;go_wp2;go_ret;exact⟨hR H.out,n.out⟩
   .have r:(d.free m == (day:Int))=false:=by simpa using g
    go_wp2;go_round
    case rel=>exact⟨m+1,U,by go_num,λj aI=>by
     rcases Ub j m with y|y
     .exact u.out j y
     .rw[show j=m by omega];exact g⟩
    case measure=>simp[TH];omega
  .have B:=K.out (λ⟨i,ad,e⟩=>u.out i U e)
   have F:=al B;clear B;go_wp2;go_loop [8,9] (λout i=>∃m:Nat,m<=d.bk/\i=ah m/\out=ah (mQ d k m day)) (λ_ i=>d.bk-(TH i).toNat)
   case atStart=>exact⟨0,U,by go_num,S6⟩
   case round=>
    obtain⟨m,hm,rfl,rfl⟩:=hrel;by_cases aS:m<d.bk
    .have I:=ek.out.bV m aS
     have J:=ek.out.rows m aS;have ax:=ek.out.cQ m aS k aa;have M:(m:Int)<(d.bk:Int):=U;have R:(k:Int)<(d.kinds:Int):=U;by_cases aD:d.bV m<=day
     .have r:decide (d.bV m<=(day:Int))=true:=Uc aD
      have c:mQ d k (m+1) day=d.cQ m k:=Tq aD;have l:=al c;clear c;go_wp2;go_round
      case rel=>exact⟨m+1,U,by go_num,by rw[l.out]⟩
      case measure=>simp[TH];omega
     .have r:decide (d.bV m<=(day:Int))=false:=Ua aD
      have c:mQ d k (m+1) day=mQ d k m day:=Tm aD;have l:=al c;clear c;go_wp2;go_round
      case rel=>exact⟨m+1,U,by go_num,by rw[l.out]⟩
      case measure=>simp[TH];omega
    .obtain rfl:m=d.bk:=U
     go_wp2;go_ret;exact⟨hR F.out,n.out⟩
def UQ[S:Std A](d:cC)(ok:d.ok)(p:eg)(k:Nat)(aa:k<d.kinds)(S' aP:Nat)(aj:S'<120)(aD:aP<120)(w:S7)(h:e' w d p):
 Calls (ao A) 65 #[.agg (dv d p),ah k,ah S',ah aP] w λe w'=>e=.returned (ah (ha (d.first k) (cX d k) S' aP))/\w.grownBy w' none:=by
 have D:(k:Int)<(d.kinds:Int):=U;have C:=ok.first k aa
 have b8:=dU w (.cells (dv d p) 25) none;have ek:=al (h.keep b8);have m:=al b8;have l:=al (show ∀W:S7,(w.alloc (.cells (dv d p) 25)).grownBy W none->W.heap[w.heap.size]?=some (.cells (dv d p) 25)from λW g=>(g.block _ aF aF).trans (fM _ _));have hb:∀j,0<=cX d k j/\cX d k j<=1000000:=λj=>by have:=ql ok aa j;omega
 have n:=al (λj=>ql ok aa j);have r:=al (λ(day:Nat) (w:S7) h=>Uy (A:=A) d ok p k aa day w h);have c1:=(h.keep b8).first k aa
 clear h b8;generalize aA:cX d k=bj at *;clear aA;go_enter (S.f func65),ntmps65;go_wp2;clear c1;go_loopw [9,10] (λs v wr=>∃j:Nat,v=ah j/\S' / 24+1<=j/\(j<=aP / 24+1\/j=S' / 24+1)/\s=ah (d.first k+ks bj (S' / 24+1) (j-(S' / 24+1)))/\(w.alloc (.cells (dv d p) 25)).grownBy wr none) (λ_ v _=>aP / 24+1-(TH v).toNat)
 case atStart=>exact⟨S' / 24+1,aF,bg,.inr S6,by simp[ks],e6 _ _⟩
 case round=>
  obtain⟨j,rfl,I,J,rfl,ag⟩:=hrel;have y:=Gm hb (S' / 24+1) (j-(S' / 24+1));have B:j-(S' / 24+1)<=6:=U;generalize i:ks bj (S' / 24+1) (j-(S' / 24+1))=E at y ⊢;have f:=al i;clear i;have c:=al ag;have e:=l.out _ ag;have F:=(aU (o:=0) e).trans S6;have G:=(aU (o:=1) e).trans S6;have H:=(aU (o:=2) e).trans S6;have K:=(aU (o:=3) e).trans S6;have u:=al (ek.out.keep ag);clear ag e;by_cases aS:j<=aP / 24
  .have z:=n.out j
   go_wp2_with (go_at_call 89;refine(r.out j _ u.out).mono ?_;rintro e w2 ⟨rfl,ag⟩;have q:=al (c.out.trans ag);clear ag)
   go_roundw
   case rel=>
    refine⟨j+1,by go_num,U,U,?_,q.out⟩;have e:j+1-(S' / 24+1)=j-(S' / 24+1)+1:=U;rw[e,ks,f.out,show S' / 24+1+(j-(S' / 24+1))=j by omega];go_num
   case measure=>simp[TH];omega
  .go_wp2
   go_ret;refine⟨?_,m.out.trans c.out⟩;rw[ha,<-f.out,show j-(S' / 24+1)=aP / 24-S' / 24 by omega];rfl
def Vz[S:Std A](q g2:TV)(n c bp:Nat)(ak:n<=100000)(f:Ty)(w:S7)(I:kU w q n f)(J:kU w g2 n f):
 Calls (ao A) 13 #[.slice q n c,.slice g2 n bp] w λe w'=>e=.returned (.bool true)/\w.grownBy w' none:=by
 have d:=al I;have g:=al J;clear I J;by_cases aT:n=0
 .subst aT
  go_enter (S.f func13),ntmps13;go_wp2;go_loopw [5] (λi wr=>i=ah 0/\w.grownBy wr none) (λi _=>0)
  case atStart=>exact⟨S6,e6 _ _⟩
  case round=>
   obtain⟨rfl,ag⟩:=hrel;go_wp2;go_ret;exact⟨S6,ag⟩
 .obtain⟨b,o,rfl,k1⟩:=d.out aT
  obtain⟨aE,aV,rfl,cn⟩:=g.out aT;exact DO b o aE aV n c bp ak f w k1 cn
def Wk[S:Std A](d:dw)(p ia:gz)(hF:d.c'<=1000)(c5:d.bk<=1000)(L:d.b'<=1000)(G:∀i,i<d.bk->d.eP i<=1000)(w:S7)(h:iZ w d p)(y:iZ w d ia):
 Calls (ao A) 16 #[.agg (eB d p),.agg (eB d ia)] w λe w'=>e=.returned (.bool true)/\w.grownBy w' none:=by
 have j:=(dU w (.cells (eB d p) 25) none).trans (dU _ (.cells (eB d ia) 25) none);have c:=al (show ∀W:S7,((w.alloc (.cells (eB d p) 25)).alloc (.cells (eB d ia) 25)).grownBy W none->iZ W d p/\iZ W d ia/\W.heap[w.heap.size]?=some (.cells (eB d p) 25)/\W.heap[w.heap.size+1]?=some (.cells (eB d ia) 25)from λW g=>
  ⟨h.keep (j.trans g),y.keep (j.trans g),(g.block _ cH aF).trans ((dm aF).trans (fM _ _)),(g.block _ aF aF).trans (jA _ _ _ aF)⟩)
 have H:=al j;have I:=al G;have z:=al (h.keep j);have B:=al (y.keep j);clear h y j G;go_enter (S.f func16),ntmps16;go_upto_region 3 with(first
  |(go_at_call 13;refine(Vz (A:=A) p.ei ia.ei d.b' p.dc ia.dc U d.free _ ((c.out _ f.out).1.free) ((c.out _ f.out).2.1.free)).mono ?_;rintro e w3 ⟨rfl,ag⟩;have n:=al (f.out.trans ag);clear ag q r J z3;have q:=(aU (o:=2) (c.out _ n.out).2.2.1).trans S6;have r:=(aU (o:=2) (c.out _ n.out).2.2.2).trans S6)
  |(go_at_call 13;refine(Vz (A:=A) p.eh ia.eh d.c' p.cA ia.cA U d.first _ z.out.first B.out.first).mono ?_;rintro e w2 ⟨rfl,ag⟩;have f:=al ag;clear ag;have q:=(aU (o:=2) (c.out _ f.out).2.2.1).trans S6;have r:=(aU (o:=2) (c.out _ f.out).2.2.2).trans S6;have J:=(aU (o:=3) (c.out _ f.out).2.2.1).trans S6;have z3:=(aU (o:=3) (c.out _ f.out).2.2.2).trans S6))
 clear q r;go_wp2;go_loopw [5] (λi wr=>∃k:Nat,k<=d.bk/\i=ah k/\((w.alloc (.cells (eB d p) 25)).alloc (.cells (eB d ia) 25)).grownBy wr none) (λi _=>d.bk-numOf i)
 case atStart=>exact⟨0,U,by go_num,n.out⟩
 case round=>
  obtain⟨k,aa,rfl,ag⟩:=hrel;have m:=al ag;clear ag f n;have q:=(aU (o:=2) (c.out _ m.out).2.2.1).trans S6;have r:=(aU (o:=2) (c.out _ m.out).2.2.2).trans S6;by_cases aS:k<d.bk
  .have q1:(k:Int)<(d.bk:Int):=U
   have Q:(0:Int)<=k:=U;obtain⟨b,o,ay,-⟩:=z.out.kM U;obtain⟨aE,aV,u,-⟩:=B.out.kM U;have D:=al (show ∀W:S7,((w.alloc (.cells (eB d p) 25)).alloc (.cells (eB d ia) 25)).grownBy W none->W.cell? (S8 w.heap.size 2)=some (.slice (some (S8 b o)) d.bk p.dq)/\W.cell? (S8 (w.heap.size+1) 2)=some (.slice (some (S8 aE aV)) d.bk ia.dq)/\
    W.cell? (S8 b (o+k*2))=some (ah (d.bV k))/\W.cell? (S8 b (o+k*2+1))=some (.slice (p.fh k) (d.eP k) (p.cq k))/\W.cell? (S8 aE (aV+k*2))=some (ah (d.bV k))/\W.cell? (S8 aE (aV+k*2+1))=some (.slice (ia.fh k) (d.eP k) (ia.cq k))from λW g=>by
    let⟨f1,f2,f3,f4⟩:=c.out W g;let⟨bB,M,E,c1⟩:=f1.kM U;let⟨K,P,F,c2⟩:=f2.kM U;rw[ay]at E;rw[u]at F;cases E;cases F;exact⟨(aU f3).trans (by rw[<-ay];rfl),(aU f4).trans (by rw[<-u];rfl),(c1 k aS).1,(c1 k aS).2,(c2 k aS).1,(c2 k aS).2⟩)
   have l:=al (show((w.alloc (.cells (eB d p) 25)).alloc (.cells (eB d ia) 25)).grownBy wr.drew none from gv m.out);clear ay u;go_upto_region 6 with fail
   go_region_held3 (λW=>W.cell? (S8 w.heap.size 2)=some (.slice (some (S8 b o)) d.bk p.dq)/\W.cell? (S8 (w.heap.size+1) 2)=some (.slice (some (S8 aE aV)) d.bk ia.dq)/\
    W.cell? (S8 b (o+k*2))=some (ah (d.bV k))/\W.cell? (S8 b (o+k*2+1))=some (.slice (p.fh k) (d.eP k) (p.cq k))/\W.cell? (S8 aE (aV+k*2))=some (ah (d.bV k))/\W.cell? (S8 aE (aV+k*2+1))=some (.slice (ia.fh k) (d.eP k) (ia.cq k)))
    (first|with_reducible exact D.out _ l.out|with_reducible exact D.out _ C.out)
    (first|(go_at_call 13;refine(Vz (A:=A) (p.fh k) (ia.fh k) (d.eP k) (p.cq k) (ia.cq k) (by have:=I.out k aS;omega) (d.cQ k) _ ((c.out _ l.out).1.cQ k aS) ((c.out _ l.out).2.1.cQ k aS)).mono ?_;rintro e R ⟨rfl,ag⟩;have C:=al (l.out.trans ag);clear ag))
   go_wp2;exact⟨⟨k+1,U,by push_cast;rfl,C.out⟩,by simp[numOf];omega⟩
  .go_wp2
   go_ret;exact⟨S6,H.out.trans m.out⟩
structure U1 where
 k:Int
 a:Int
 b:Int
 c:Int
 e:Int
abbrev U1.v(s:U1):Te:=#[ah s.k,ah s.a,ah s.b,ah s.c,ah s.e]
def U9(a b:Int):Int:=if (decide (0<=a/\a<=119) && decide (0<=b/\b<=119))=true then(if decide (a>b)=true then 5 else 0)else 1
def Vg(m:Int)(s:U1):Int:=if decide (0<=s.k/\s.k<=m-1)=true then(if U9 s.a s.b=0 then(if U9 s.c s.e=0 then(if decide (s.e<s.a)=true then 9 else 0)else U9 s.c s.e)else U9 s.a s.b)else 3
def U5(d:dw)(s:U1):Int:=if jY d=0 then Vg d.kinds s else jY d
def Vy[S:Std A](a b:Int)(w:S7):Calls (ao A) 82 #[.agg #[ah a,ah b]] w λe w'=>e=.returned (ah (U9 a b))/\w.grownBy w' none:=by
 unfold U9;cases c:decide (0<=a/\a<=119)<;>cases d:decide (0<=b/\b<=119)<;>cases f:decide (a>b)
 all_goals (
  go_enter (S.f func82),ntmps82;go_wp2_with (first|(go_at_call_of 71 (ah a);refine(ku _ _ _ _).mono ?_;rintro e w' ⟨rfl,rfl⟩;rw[c])|(go_at_call_of 71 (ah b);refine(ku _ _ _ _).mono ?_;rintro e w' ⟨rfl,rfl⟩;rw[d]))
  go_ret;exact⟨S6,bT⟩)
def VQ[S:Std A](a b:Int)(w:S7):Calls (ao A) 88 #[.agg #[ah a,ah b]] w λe w'=>e=.returned (ah (U9 a b))/\w.grownBy w' none:=by
 unfold U9;cases c:decide (0<=a/\a<=119)<;>cases d:decide (0<=b/\b<=119)<;>cases f:decide (a>b)
 all_goals (
  go_enter (S.f func88),ntmps88;go_wp2_with (first|(go_at_call_of 68 (ah a);refine(nh _ _ _ _).mono ?_;rintro e w' ⟨rfl,rfl⟩;rw[c])|(go_at_call_of 68 (ah b);refine(nh _ _ _ _).mono ?_;rintro e w' ⟨rfl,rfl⟩;rw[d]))
  go_ret;exact⟨S6,bT⟩)
def U1.cells{w:S7}{b:Nat}{s:U1}(h:w.heap[b]?=some (.cells s.v 31)):w.cell? (Ti b)=Tn s.k/\w.cell? (S8 b 1)=Tn s.a/\w.cell? (S8 b 2)=Tn s.b/\w.cell? (S8 b 3)=Tn s.c/\w.cell? (S8 b 4)=Tn s.e:=
 ⟨(aU (o:=0) h).trans S6,(aU (o:=1) h).trans S6,(aU (o:=2) h).trans S6,(aU (o:=3) h).trans S6,(aU (o:=4) h).trans S6⟩
def U8(w:S7)(o aV:Obj):((w.alloc o).alloc aV).heap[w.heap.size]?=some o/\((w.alloc o).alloc aV).heap[w.heap.size+1]?=some aV/\w.grownBy ((w.alloc o).alloc aV) none:=by refine⟨(dm aF).trans (fM _ _),?_,bT.trans bT⟩;have:=fM (w.alloc o) aV;rwa [cV]at this
def WJ[S:Std A](d:dw)(hm:1<=d.kinds/\d.kinds<=3)(p:gz)(s:U1)(w:S7):
 Calls (ao A) 59 #[.agg (eB d p),.agg s.v] w λe w'=>e=.returned (ah (Vg d.kinds s))/\w.grownBy w' none:=by
 have M:IntKind.i64.wrap (d.kinds-1)=d.kinds-1:=IntWalk.i64_in _ U;obtain⟨r,au⟩:∃r,Vg d.kinds s=r:=⟨_,S6⟩
 rw[au];unfold Vg at au;have m:=al au;clear au;cases bB:decide (0<=s.k/\s.k<=d.kinds-1)
 .go_enter (S.f func59),ntmps59
  go_wp2_with (go_at_call 71;refine(ku _ _ _ _).mono ?_;rintro e w' ⟨rfl,rfl⟩;rw[bB])
  go_ret;exact⟨hR (by rw[<-m.out,bB];rfl),(U8 _ _ _).2.2⟩
 obtain⟨x,z⟩:∃x,U9 s.a s.b=x:=⟨_,S6⟩
 obtain⟨y,B⟩:∃y,U9 s.c s.e=y:=⟨_,S6⟩
 have m:=al (show(if x=0 then(if y=0 then(if decide (s.e<s.a)=true then 9 else 0)else y)else x)=r by rw[<-m.out,bB,z,B];rfl);have E:=al z;have F:=al B;clear z B;let⟨q1,G,H⟩:=U8 w (.cells (eB d p) 25) (.cells s.v 31);obtain⟨W,hW⟩:∃W,((w.alloc (.cells (eB d p) 25)).alloc (.cells s.v 31)).alloc (.cells #[ah s.a,ah s.b,ah s.c,ah s.e] 29)=W:=⟨_,S6⟩
 have n:=al (show w.grownBy W none/\∀V:S7,W.grownBy V none->V.heap[w.heap.size+1]?=some (.cells s.v 31)/\V.heap[w.heap.size+1+1]?=some (.cells #[ah s.a,ah s.b,ah s.c,ah s.e] 29)from by rw[<-hW];refine⟨H.trans bT,λV g=>⟨(g.block _ aF aF).trans ((dm aF).trans G),(g.block _ aF aF).trans ?_⟩⟩;have:=fM ((w.alloc (.cells (eB d p) 25)).alloc (.cells s.v 31)) (.cells #[ah s.a,ah s.b,ah s.c,ah s.e] 29);rwa [cV,cV]at this)
 have K:=al hW;clear q1 G H hW;go_enter (S.f func59),ntmps59;go_wp2_with (go_at_call 71;refine(ku _ _ _ _).mono ?_;rintro e w' ⟨rfl,rfl⟩;rw[bB])
 have u:=K.out;dsimp only[eB,U1.v]at u;rw[u];clear u;go_loopw [21] (λi wr=>∃j:Nat,j<=2/\i=ah j/\W.grownBy wr none/\(0<j->x=0)/\(1<j->y=0)) (λi _=>2-(TH i).toNat)
 case atStart=>exact⟨0,U,by go_num,e6 _ _,λh=>Td h U,λh=>Td h U⟩
 case round=>
  obtain⟨j,aI,rfl,ag,aT,I⟩:=hrel;have q:=(n.out.2 wr ag).2;have bx:=(aU (o:=0) q).trans S6;have c1:=(aU (o:=1) q).trans S6;have c2:=(aU (o:=2) q).trans S6;have c3:=(aU (o:=3) q).trans S6;have l:=al ag;have ek:=al aT;clear ag q aT;rcases j with _|_|_|j
  .rcases Classical.em (x=0)with hx0|hx0
   .have D:(x == 0)=true:=by simpa using hx0
    have Z:=al hx0;clear hx0;go_wp2_with (go_at_call 82;refine(Vy _ _ _).mono ?_;rintro e C ⟨rfl,c⟩;rw[E.out];have f:=al ((l.out.trans bT).trans c);clear c)
    go_roundw
    case rel=>exact⟨1,U,by go_num,f.out,λ_=>Z.out,λh=>Td h U⟩
    case measure=>simp[TH]
   .have D:(x == 0)=false:=by simpa using hx0
    have Z:=al hx0;clear hx0;go_wp2_with (go_at_call 82;refine(Vy _ _ _).mono ?_;rintro e C ⟨rfl,c⟩;rw[E.out];have f:=al ((l.out.trans bT).trans c);clear c)
    go_ret;exact⟨hR (by rw[<-m.out,Tm Z.out]),n.out.1.trans f.out⟩
  .rcases Classical.em (y=0)with hx0|hx0
   .have D:(y == 0)=true:=by simpa using hx0
    have Z:=al hx0;clear hx0;go_wp2_with (go_at_call 82;refine(Vy _ _ _).mono ?_;rintro e C ⟨rfl,c⟩;rw[F.out];have f:=al ((l.out.trans bT).trans c);clear c)
    go_roundw
    case rel=>exact⟨2,U,by go_num,f.out,λ_=>ek.out U,λ_=>Z.out⟩
    case measure=>simp[TH]
   .have D:(y == 0)=false:=by simpa using hx0
    have Z:=al hx0;clear hx0;go_wp2_with (go_at_call 82;refine(Vy _ _ _).mono ?_;rintro e C ⟨rfl,c⟩;rw[F.out];have f:=al ((l.out.trans bT).trans c);clear c)
    go_ret;exact⟨hR (by rw[<-m.out,Tq (ek.out U),Tm Z.out]),n.out.1.trans f.out⟩
  .let⟨P,Q,R,T,X⟩:=U1.cells (n.out.2 wr l.out).1
   have J:=al I;clear I;cases L:decide (s.e<s.a);all_goals (
    go_wp2;go_ret;exact⟨hR (by rw[<-m.out,Tq (ek.out U),Tq (J.out U),L];rfl),n.out.1.trans l.out⟩)
  .omega
def Ww[S:Std A](d:dw)(hm:1<=d.kinds/\d.kinds<=3)(p:gz)(s:U1)(w:S7):
 Calls (ao A) 63 #[.agg (eB d p),.agg s.v] w λe w'=>e=.returned (ah (Vg d.kinds s))/\w.grownBy w' none:=by
 have C:IntKind.i64.wrap (d.kinds-1)=d.kinds-1:=IntWalk.i64_in _ U;obtain⟨r,au⟩:∃r,Vg d.kinds s=r:=⟨_,S6⟩
 rw[au];unfold Vg at au;have c:=al au;clear au;cases bB:decide (0<=s.k/\s.k<=d.kinds-1)
 .go_enter (S.f func63),ntmps63
  go_wp2_with (go_at_call 68;refine(nh _ _ _ _).mono ?_;rintro e w' ⟨rfl,rfl⟩;rw[bB])
  go_ret;exact⟨hR (by rw[<-c.out,bB];rfl),(U8 _ _ _).2.2⟩
 obtain⟨x,f⟩:∃x,U9 s.a s.b=x:=⟨_,S6⟩
 obtain⟨y,g⟩:∃y,U9 s.c s.e=y:=⟨_,S6⟩
 have c:=al (show(if x=0 then(if y=0 then(if decide (s.e<s.a)=true then 9 else 0)else y)else x)=r by rw[<-c.out,bB,f,g];rfl);have l:=al f;have m:=al g;clear f g;have Q:=al (U8 w (.cells (eB d p) 25) (.cells s.v 31));cases n:decide (s.e<s.a)<;>cases i:(x == 0)<;>cases z3:(y == 0)
 all_goals (
  go_enter (S.f func63),ntmps63;go_wp2_with (first
   |(go_at_call 68;refine(nh _ _ _ _).mono ?_;rintro e w' ⟨rfl,rfl⟩;rw[bB])
   |(go_at_call 88;refine(VQ s.a s.b _).mono ?_;rintro e D ⟨rfl,ag⟩;rw[l.out];let⟨o,q,u,z,B⟩:=U1.cells ((ag.block _ aF aF).trans Q.out.2.1);have h:=al ag;clear ag)
   |(go_at_call 88;refine(VQ s.c s.e _).mono ?_;rintro e w2 ⟨rfl,ag⟩;rw[m.out];have ag:=h.out.trans ag;let⟨o,q,u,z,B⟩:=U1.cells ((ag.block _ aF aF).trans Q.out.2.1);have j:=al ag;clear ag))
  go_ret;simp only[beq_iff_eq,beq_eq_false_iff_ne]at i z3;refine⟨hR ?_,Q.out.2.2.trans ?_⟩
  .rw[<-c.out];simp[i,z3,n]
  .first|exact j.out|exact h.out)
def VC[S:Std A](d:dw)(fit:d.fit)(p:gz)(s:U1)(w:S7)(h:iZ w d p):
 Calls (ao A) 35 #[.agg (eB d p),.agg s.v] w λe w'=>e=.returned (ah (U5 d s))/\w.grownBy w' none:=by
 have Q:=U8 w (.cells (eB d p) 25) (.cells s.v 31);have l:=al (S0 (A:=A) d fit p _ (h.keep Q.2.2));have r:=al λ(V:S7) (g:((w.alloc (.cells (eB d p) 25)).alloc (.cells s.v 31)).grownBy V none)=>Ud (g.block _ (by simp only[cV];omega) aF |>.trans Q.1) (U1.cells ((g.block _ aF aF).trans Q.2.1))
 have j:=al Q.2.2;clear Q h;unfold U5;rcases Classical.em (jY d=0)with ar|ar
 .have q:=al λw=>Ww (A:=A) d (by have:=IB ar;have I:=this.1.kinds;omega) p s w
  have z:=al ar;rw[Tq ar];clear ar;go_enter (S.f func35),ntmps35;go_wp2_with (first
   |(go_at_call 62;refine l.out.mono ?_;rintro e m ⟨rfl,ag⟩;rw[z.out];let⟨f,D,E,F,G,H⟩:=r.out m ag;have u:=(aU (o:=0) f).trans S6;have y:=(aU (o:=1) f).trans S6;have B:=(aU (o:=2) f).trans S6;have C:=(aU (o:=3) f).trans S6;have i:=al (j.out.trans ag);clear ag f)
   |(go_at_call 63;refine(q.out _).mono ?_;rintro e w2 ⟨rfl,ag⟩;have n:=al (i.out.trans ag);clear ag))
  go_ret;exact⟨S6,n.out⟩
 .rw[Tm ar]
  generalize jY d=c at *;have J:(c == 0)=false:=by simpa using ar
  go_enter (S.f func35),ntmps35;go_wp2_with (go_at_call 62;refine l.out.mono ?_;rintro e m ⟨rfl,ag⟩;have i:=al (j.out.trans ag);clear ag)
  go_ret;exact⟨S6,i.out⟩
end
end Go.aO
namespace Go.aO
open Go.Proofs Tryz Go.RowKit Go.Maps Go.Shelf
def VU{H:Type}(x:Lit×DataW H):∀l:Tb (Lit×DataW H),(DataW.insert x l).Perm (x::l)
 | []=>.refl _
 |y::l=>by
  unfold DataW.insert;split
  .exact .refl _
  .exact((VU x l).cons y).trans (.swap x y l)
structure Vs{H:Type}(es:Tb (Lit×DataW H))(s:Int->Prop):Prop where
 keys:∀p∈es,∃x,p.1=.int .i64 x
 bZ:(es.map λp=>intOf p.1).Nodup
 mem:∀v,v∈(es.map λp=>intOf p.1)↔s v
def Vs.put{H:Type}{es:Tb (Lit×DataW H)}{s:Int->Prop}(h:Vs es s)(v:Int)(d:DataW H):Vs (DataW.insert (.int .i64 v,d) (es.filter λp=>!p.1.sameKey (.int .i64 v))) λy=>y=v\/s y:=by
 have hp:=VU ((.int .i64 v,d):Lit×DataW H) (es.filter λp=>!p.1.sameKey (.int .i64 v));have af:∀p∈es,(p.1.sameKey (.int .i64 v)=true↔intOf p.1=v):=by intro p hp;let⟨x,f⟩:=h.keys p hp;rw[f];simp[Lit.sameKey,intOf]
 have hm:=hp.map λp=>intOf p.1
 rw[List.map_cons]at hm;have ez:∀y,y∈((es.filter λp=>!p.1.sameKey (.int .i64 v)).map λp=>intOf p.1)↔(s y/\y≠v):=by
  intro y;rw[List.mem_map,<-h.mem y,List.mem_map];constructor
  .rintro⟨p,hp,rfl⟩
   let⟨I,J⟩:=List.mem_filter.1 hp;refine⟨⟨p,I,S6⟩,λe=>?_⟩;rw[(af p I).2 e]at J;cases J
  .rintro⟨⟨p,hp,rfl⟩,c⟩
   refine⟨p,List.mem_filter.2 ⟨hp,?_⟩,S6⟩;cases ar:p.1.sameKey (.int .i64 v)
   .rfl
   .exact Td ((af p hp).1 ar) c
 refine⟨?_,?_,?_⟩
 .intro p I
  rcases List.mem_cons.1 (hp.mem_iff.1 I)with rfl|I
  .exact⟨v,S6⟩
  .exact h.keys p (List.mem_filter.1 I).1
 .refine hm.nodup_iff.2 (List.nodup_cons.2 ⟨λar=>((ez v).1 ar).2 S6,?_⟩)
  exact h.bZ.sublist ((List.filter_sublist).map _)
 .intro y
  rw[hm.mem_iff,T7,ez];show y=v\/(s y/\y≠v)↔y=v\/s y;constructor
  .rintro(h|⟨h,_⟩)
   .exact .inl h
   .exact .inr h
  .rintro(h|h)
   .exact .inl h
   .by_cases e:y=v
    .exact .inl e
    .exact .inr ⟨h,e⟩
def VI(f:Int)(t:Ty)(pre:Tb fT):(intKeys (mG f t pre)).Nodup/\∀v,v∈intKeys (mG f t pre)↔∃x,x∈pre/\k0 f t x=v:=by
 suffices H:∀(pre:Tb fT) (es:Tb (Lit×DataW Unit)) (s:Int->Prop),Vs es s->∃fg,pre.foldl (λ(D:Hh) x=>D.put (.int .i64 (k0 f t x)) (.lit (.bool true))) (.map es)=.map fg/\Vs fg λv=>s v\/∃x,x∈pre/\k0 f t x=v by let⟨fg,I,J⟩:=H pre [] (λ_=>False) ⟨λp hp=>Td hp aF,aF,aF⟩;unfold mG;rw[I];exact⟨J.bZ,λv=>(J.mem v).trans aF⟩
 intro pre;induction pre with
 |nil=>intro es s h;exact⟨es,S6,h.keys,h.bZ,λv=>by rw[h.mem v];simp⟩
 |cons x pre c=>
  intro es s h;let⟨fg,I,J⟩:=c _ _ (h.put (k0 f t x) (.lit (.bool true)));refine⟨fg,I,J.keys,J.bZ,λv=>(J.mem v).trans ?_⟩;constructor
  .rintro((rfl|h)|⟨y,hy,rfl⟩)
   .exact .inr ⟨x,aF,S6⟩
   .exact .inl h
   .exact .inr ⟨y,by simp[hy],S6⟩
  .rintro(h|⟨y,hy,rfl⟩)
   .exact .inl (.inr h)
   .rcases List.mem_cons.1 hy with rfl|hy
    .exact .inl (.inl S6)
    .exact .inr ⟨y,hy,S6⟩
def mem_row{x:fT}{fm S' k:Nat}(aj:S'<120)(aa:∀j,j<k->max S' fm+j<120):x∈nu fm S' k↔(x.1.1=S'/\max S' fm<=x.1.2/\x.1.2<max S' fm+k):=by
 unfold nu;rw[List.mem_map];constructor
 .rintro⟨j,aI,rfl⟩
  have aI:=List.mem_range.1 aI;unfold uz;rw[dif_pos ⟨aj,aa j aI⟩];exact⟨S6,by show max S' fm<=max S' fm+j;omega,by show max S' fm+j<_;omega⟩
 .rintro⟨I,J,ax⟩
  refine⟨x.1.2-max S' fm,List.mem_range.2 U,?_⟩;unfold uz;rw[dif_pos ⟨aj,by have:=x.2.2;omega⟩];apply Subtype.ext;refine Prod.ext I.symm ?_;show max S' fm+(x.1.2-max S' fm)=x.1.2;omega
def VV{x:fT}{lm fm c:Nat}(hF:c<120):∀n,lm+n<=120->(x∈hN lm fm c n↔(lm<=x.1.1/\x.1.1<lm+n/\x.1.1<=x.1.2/\fm<=x.1.2/\x.1.2<=c))
 | 0,_=>by
  simp only[hN,iN,false_iff];omega
 |n+1,ak=>by rw[hN,UW,VV hF n U,mem_row U (λj aI=>U)];omega
end Go.aO
namespace Go.aO
open Go.Proofs Tryz Go.RowKit
section
variable{A:TJ}
structure U'(w W:S7)(T g B:Nat)(L:S9)(c:Te):Prop where
 rD:fS W T L g
 blk:W.heap[B]?=some (.cells c 31)
 res:W.heap[w.heap.size+1]?=some (.cells #[ah 0,ah 0,ah 0,ah 0,ah 0] 31)
 fY:w.grownBy W (some T)
 a':T<w.heap.size
 Vb:w.heap.size+2<=B
 off:tz L B
def U'.call{w W d':S7}{T g g' B:Nat}{L:S9}{c:Te}(h:U' w W T g B L c)(t:fS d' T L g')(k:W.grownBy d' (some T)):U' w d' T g' B L c:=by have I:=h.a';have J:=h.Vb;have s:=bu h.blk;exact⟨t,(k.block B s (λe=>by have:=bD e;omega)).trans h.blk,(k.block _ U (λe=>by have:=bD e;omega)).trans h.res,h.fY.trans k,h.a',h.Vb,h.off⟩
def U'.drew{w W:S7}{T g B:Nat}{L:S9}{c:Te}(h:U' w W T g B L c):U' w W.drew T g B L c:=
 ⟨h.rD.of rfl,h.blk,h.res,gv h.fY,h.a',h.Vb,h.off⟩
def U'.alloc{w W:S7}{T g B:Nat}{L:S9}{c:Te}(h:U' w W T g B L c)(o:Obj):U' w (W.alloc o) T g B L c:=by have s:=bu h.blk;have J:=h.Vb;exact⟨h.rD.alloc o,(dm s).trans h.blk,(dm U).trans h.res,h.fY.trans bT,h.a',h.Vb,h.off⟩
def Vr{W:S7}{T g B o:Nat}{L v:S9}(h:fS W T L g)(c:T≠B)(off:tz L B):fS (W.setCell (S8 B o) v) T L g:=by obtain⟨⟨s,hb,af⟩,ak⟩:=h;exact⟨⟨s,(e1 (by show T≠B;exact c)).trans hb,af⟩,ak.oV off ⟨S6,S6,S6,aF,λi ad d=>e1 (by show i≠B;exact λe=>d (.inr e))⟩⟩
def U'.set{w W:S7}{T g B:Nat}{L:S9}{c:Te}(h:U' w W T g B L c)(o:Nat)(v:S9):U' w (W.setCell (S8 B o) v) T g B L (c.setIfInBounds o v):=by have I:=h.a';have J:=h.Vb;exact⟨Vr h.rD U h.off,cU h.blk,(e1 (by show w.heap.size+1≠B;omega)).trans h.res,⟨h.fY.os,h.fY.tape,h.fY.output,by have:=h.fY.size;simpa using this,λi ad d=>(e1 (by show i≠B;omega)).trans (h.fY.block i ad d)⟩,h.a',h.Vb,h.off⟩
def WC{X:S7}{r:Nat}{v0 v1 v2 v3 v4:S9}{t:Tg}{c d f nE g:S9}(h:X.heap[r]?=some (.cells #[c,d,f,nE,g] t)):(((((X.setCell (Ti r) v0).setCell (S8 r 1) v1).setCell (S8 r 2) v2).setCell (S8 r 3) v3).setCell (S8 r 4) v4).heap[r]?=some (.cells #[v0,v1,v2,v3,v4] t):=
 cU (cU (cU (cU (cU h))))
def Vt{w W:S7}{T r o:Nat}{v:S9}(h:w.grownBy W (some T))(au:w.heap.size<=r):w.grownBy (W.setCell (S8 r o) v) (some T):=
 ⟨h.os,h.tape,h.output,by have:=h.size;simpa using this,λi ad c=>(e1 (by show i≠r;omega)).trans (h.block i ad c)⟩
def Vq(j:Nat):Int:=match j with|0=>30|_=>119
def Wt(w:S7)(t:Tg):gn (w.alloc (.cells #[ah 30,ah 119] t)) w.heap.size 0 2 Vq:=by
 intro j aI;have:=aU (o:=0+j) (fM w (.cells #[ah 30,ah 119] t));rcases j with _|_|j
 .exact this
 .exact this
 .omega
def VX(j:Nat):0<=Vq j/\Vq j<=119:=by unfold Vq;split<;>omega
def Vk(j:Nat):Int:=match j with|0=>10|1=>60|_=>100
def Wr(w:S7)(t:Tg):gn (w.alloc (.cells #[ah 10,ah 60,ah 100] t)) w.heap.size 0 3 Vk:=by
 intro j aI;have:=aU (o:=0+j) (fM w (.cells #[ah 10,ah 60,ah 100] t));rcases j with _|_|_|j
 .exact this
 .exact this
 .exact this
 .omega
def Ws(j:Nat):0<=Vk j/\Vk j<=100:=by unfold Vk;split<;>omega
def WH[S:Std A](T g:Nat)(L:S9)(ag:g<2000)(d:cC)(ok:d.ok)(p:eg)(n:Nat)(ak:n<=100)(w:S7)(h:fS w T L g):
 Calls (ao A) 9 #[Tj T,.agg (dv d p),ah n] w λe w'=>∃s:h3,e=.returned (.agg s.a)/\s.ok d/\fS w' T L (g+7)/\w.grownBy w' (some T):=by
 have aW:=h.lt;have aa:=ok.kinds;obtain⟨l,u⟩:∃l,(w.alloc (.cells (dv d p) 25)).alloc (.cells #[ah 0,ah 0,ah 0,ah 0,ah 0] 31)=l:=⟨_,S6⟩
 have t1:fS l T L g:=by rw[<-u];exact(h.alloc _).alloc _
 have aM:w.grownBy l (some T):=by rw[<-u];exact bT.trans bT
 have aw:l.heap.size=w.heap.size+1+1:=by rw[<-u];simp
 have bB:l.heap[w.heap.size]?=some (.cells (dv d p) 25):=by rw[<-u];exact(dm aF).trans (fM _ _)
 have r1:l.heap[w.heap.size+1]?=some (.cells #[ah 0,ah 0,ah 0,ah 0,ah 0] 31):=by rw[<-u,show w.heap.size+1=(w.alloc (.cells (dv d p) 25)).heap.size by simp];exact fM _ _
 have off:∀B,w.heap.size<=B->tz L B:=λB aN=>h.nm.off aN
 have a4:(some (w.heap.size+1):TN)≠some T:=λe=>by have:=bD e;omega
 have aH:=al t1;have ay:=al aM;have aG:=al r1;have ax:=al u;have aK:=al aw;have aE:=al off;have G:=al (off (w.heap.size+1) U);have a9:l.cell? (Ti w.heap.size)=Tn d.kinds:=aU bB;clear h t1 aM bB r1 u aw off;go_enter (S.f func9),ntmps9;go_upto_region 1 with fail
 have aq:=ax.out;dsimp only[dv]at aq;rw[aq];clear aq;go_upto_region 2 with(go_at_call 30;refine(PG (A:=A) T g L U ((d.kinds:Int)-1) U l aH.out).mono ?_;rintro e w2 ⟨k,rfl,a1,aA,c⟩;have aJ:=al aA;have J:=al c;clear aA c)
 clear a9;have a2:k<d.kinds:=U;have a7:=J.out.size;have a8:=aK.out;have z:U' w (w2.alloc (.cells #[ah k,ah 0,ah 0,ah 0,ah 0] 31)) T (g+1) w2.heap.size L #[ah k,ah 0,ah 0,ah 0,ah 0]:=
  ⟨aJ.out.alloc _,fM _ _,(dm U).trans ((J.out.block _ U a4).trans aG.out),(ay.out.trans J.out).trans bT,aW,U,aE.out _ U⟩
 generalize w2.alloc _=w3 at z ⊢;generalize w2.heap.size=B at z a7 ⊢;have aN:=z.Vb;have bg:=bu z.blk;have Z:=al z;clear z aH ay aG ax aK aE aJ J a8 a1;go_upto_region 3 with(first
  |(go_at_call 31;refine(CQ (A:=A) T (g+1) L U w3.heap.size 0 2 2 Vq U _ (Z.out.alloc _).rD U (Wt _ _)).mono ?_;rintro e bc ⟨j,aI,rfl,aA,c⟩;have ad:=al ((Z.out.alloc _).call aA c);clear aA c)
  |(go_at_call 30;refine(PG (A:=A) T (g+2) L U (Vq j) (by have:=VX j;omega) bc ad.out.rD).mono ?_;rintro e bd ⟨lm,rfl,a3,aA,c⟩;have P:=ad.out.call aA c;have R:=aU (o:=1) P.blk;have f1:=b3 (o:=1) P.blk;have aC:=al P;clear aA c P))
 have bi:lm<=119:=by have:=VX j;omega
 have aj:=aC.out.set 1 (ah lm);clear Z ad aC R f1 a3 aI;generalize bd.setCell _ _=bf at aj ⊢;have am:=aj.drew;have aS:bf.drew.cell? (S8 B 1)=Tn lm:=(aU (o:=1) am.blk).trans S6;have ae:=al am;clear aj am;go_region_held3 (λW=>W.cell? (S8 B 1)=Tn lm)
  (first|with_reducible exact aS|with_reducible exact jT|with_reducible exact H.out _)
  (first|(go_at_call 30;refine(PG (A:=A) T (g+2+1) L U n U _ (by exact ae.out.rD)).mono ?_;rintro e av ⟨r,rfl,au,aA,c⟩;have C:=ae.out.call aA c;have jT:av.cell? (S8 B 1)=Tn lm:=(aU (o:=1) C.blk).trans S6;have H:=al (show ∀v,(av.setCell (S8 B 2) v).cell? (S8 B 1)=Tn lm from λv=>(aU (o:=1) (C.set 2 v).blk).trans S6);have aV:=aU (o:=2) C.blk;have f2:=b3 (o:=2) C.blk;have v2:IntKind.i64.wrap ((lm:Int)+r)=lm+r:=IntWalk.i64_in _ U;have aD:=al C;clear aA c C))
 obtain⟨i,c6⟩:∃i:Nat,min 119 ((lm:Int)+r)=(i:Int):=⟨min 119 (lm+r),U⟩
 have I:lm<=i/\i<=119:=U;have D:=aD.out.set 2 (ah i);rw[c6];clear ae aD aS jT H aV f2 v2 c6 au;generalize av.setCell _ _=Q at D ⊢;have aL:=D.drew;have bj:=bu D.blk;have H:Q.drew.cell? (S8 B 1)=Tn lm:=(aU (o:=1) aL.blk).trans S6;have aT:=al (show ∀o:Obj,(Q.alloc o).drew.cell? (S8 B 1)=Tn lm from λo=>(aU (o:=1) (D.alloc o).drew.blk).trans S6);have af:=al D;have v0:IntKind.i64.wrap ((lm:Int)-3)=lm-3:=IntWalk.i64_in _ U;clear D aL;go_wp2;go_region_held3 (λW=>W.cell? (S8 B 1)=Tn lm)
  (first|with_reducible exact H|with_reducible exact aT.out _|with_reducible exact aP|with_reducible exact aQ|with_reducible exact aR.out _)
  (first
   |(go_at_call 31;refine(CQ (A:=A) T (g+2+1+1) L U Q.heap.size 0 3 3 Vk U _ (by exact(af.out.alloc _).drew.rD) U (by exact Wr Q 3)).mono ?_;rintro e aO ⟨q,a6,rfl,aA,c⟩;have ap:=(af.out.alloc _).drew.call aA c;have aP:aO.cell? (S8 B 1)=Tn lm:=(aU (o:=1) ap.blk).trans S6;have hb:=Ws q;have v3:IntKind.i64.wrap ((lm:Int)+Vk q)=lm+Vk q:=IntWalk.i64_in _ U;have ai:=al ap;clear aA c ap)
   |(go_at_call 32;refine(Bc (A:=A) T (g+2+1+1+1) L U (max 0 ((lm:Int)-3)) (min 119 ((lm:Int)+Vk q)) U aO ai.out.rD).mono ?_;rintro e ar ⟨fm,rfl,aX,aY,aA,c⟩;have y:=ai.out.call aA c;have aQ:ar.cell? (S8 B 1)=Tn lm:=(aU (o:=1) y.blk).trans S6;have aR:=al (show ∀v,(ar.setCell (S8 B 3) v).cell? (S8 B 1)=Tn lm from λv=>(aU (o:=1) (y.set 3 v).blk).trans S6);have V:=aU (o:=3) y.blk;have f3:=b3 (o:=3) y.blk;have az:=al y;clear aA c y))
 all_goals (
  have E:=az.out.set 3 (ah fm);have bh:fm<=119:=U;clear af ai az H aT aP aQ aR V f3 v0 v3 aX aY a6 hb;generalize ar.setCell _ _=ba at E ⊢;have R:=aU (o:=1) E.blk;have V:=aU (o:=3) E.blk;obtain⟨M,fG⟩:∃M:Nat,max (lm:Int) fm=(M:Int):=⟨max lm fm,U⟩
  obtain⟨N,gK⟩:∃N:Nat,min 119 ((M:Int)+n)=(N:Int):=⟨min 119 (M+n),U⟩
  have X:=al E;clear E;go_upto_region 6 with(go_at_call 32;refine(Bc (A:=A) T (g+2+1+1+1+1) L U M N U ba X.out.rD).mono ?_;rintro e bb ⟨m,rfl,aZ,a0,aA,c⟩;have K:=X.out.call aA c;have z4:=aU (o:=4) K.blk;have f4:=b3 (o:=4) K.blk;have aB:=al K;clear aA c K)
  clear R V;have f:=aB.out.set 4 (ah m);have a5:(⟨k,lm,i,fm,m⟩:h3).ok d:=⟨a2,I.1,by show i<120;omega,by show fm<=m;omega,by show m<120;omega,by show lm<=m;omega⟩
  clear X aB z4 f4 aZ a0 fG gK;generalize bb.setCell _ _=bk at f ⊢;have bl:=aU (o:=0) f.blk;have R:=aU (o:=1) f.blk;have aV:=aU (o:=2) f.blk;have V:=aU (o:=3) f.blk;have bm:=aU (o:=4) f.blk;have z0:=aU (o:=0) f.res;have aw:=aU (o:=1) f.res;have bn:=aU (o:=2) f.res;have z3:=aU (o:=3) f.res;have z4:=aU (o:=4) f.res;have f0:=b3 (o:=0) f.res;have f1:=b3 (o:=1) f.res;have f2:=b3 (o:=2) f.res;have f3:=b3 (o:=3) f.res;have f4:=b3 (o:=4) f.res;have Y:=al f;clear f;go_wp2;have F:T≠w.heap.size+1:=U;refine bodyPost_ret (results_cell_row S6 _ _ (w.heap.size+1) 31 (⟨k,lm,i,fm,m⟩:h3).a (0,0) _ S6 (WC Y.out.res) (ao.underlying54 A) S6 UR) S6 ?_;exact⟨⟨k,lm,i,fm,m⟩,S6,a5,Vr (Vr (Vr (Vr (Vr Y.out.rD F G.out) F G.out) F G.out) F G.out) F G.out,Vt (Vt (Vt (Vt (Vt Y.out.fY U) U) U) U) U⟩)
end
end Go.aO
namespace Go.aO
open Go.Proofs Tryz Go.RowKit Go.Maps Go.Shelf
def Vu(s:h3):Tb fT:=hN s.lm s.fm s.b5 (s.cj-s.lm+1)
def Wl{d:cC}{s:h3}(af:s.ok d){c:fT}:c∈Vu s↔(s.lm<=c.1.1/\c.1.1<=s.cj/\c.1.1<=c.1.2/\s.fm<=c.1.2/\c.1.2<=s.b5):=by have aj:=af.l;have f:=af.bE;unfold Vu;rw[VV af.hF _ U];omega
def WG{d:cC}{s:h3}(af:s.ok d):∃c,c∈Vu s:=by have aj:=af.l;have g:=af.bE;have hF:=af.hF;have aD:=af.f;have f:=af.x;refine⟨⟨(s.lm,s.b5),by show s.lm<120;omega,hF⟩,(Wl af).2 ?_⟩;exact⟨bg,aj,f,aD,bg⟩
def VA{d:cC}{s:h3}(v:Int):v∈qk d s↔∃c,c∈Vu s/\k0 (d.first s.k) (cX d s.k) c=v:=(VI _ _ _).2 v
def WN(d:cC)(s:h3):(qk d s).Nodup:=(VI _ _ _).1
def WO{d:cC}{s:h3}(af:s.ok d):qk d s≠[]:=by let⟨c,ar⟩:=WG af;exact List.ne_nil_of_mem ((VA _).2 ⟨c,ar,S6⟩)
noncomputable def Vh(d:cC)(s:h3)(n:Int):Int:=
 if n∈qk d s then(if ∃v,v∈qk d s/\v≠n then 3 else 1)else 2
end Go.aO
namespace Go.aO
open Go.Proofs Tryz Go.RowKit Go.Shelf
section
variable{A:TJ}
def VS{lm fm d:Nat}{c:fT}:∀{n i},i<=n->c∈hN lm fm d i->c∈hN lm fm d n
 | 0,i,h,ar=>by
  obtain rfl:i=0:=U;exact ar
 |n+1,i,h,ar=>by
  by_cases e:i=n+1
  .rw[<-e];exact ar
  .rw[hN,UW]
   exact .inl (VS U ar)
def WA{fm S' k n:Nat}(h:k<=n){c:fT}(ar:c∈nu fm S' k):c∈nu fm S' n:=by unfold nu at *;obtain⟨j,aI,rfl⟩:=List.mem_map.1 ar;exact List.mem_map.2 ⟨j,List.mem_range.2 (by have:=List.mem_range.1 aI;omega),S6⟩
def Wa{lm f fm d i s k:Nat}(ad:i<f-lm+1)(aa:s+k<=d)(af:s=max (lm+i) fm):∀c,c∈hN lm fm d i++nu fm (lm+i) k++[uz (lm+i) (s+k)]->c∈hN lm fm d (f-lm+1):=by
 intro c ar;refine VS (i:=i+1) U ?_;rw[hN,UW];rw[List.append_assoc,UW]at ar;rcases ar with h|h
 .exact .inl h
 .refine .inr (WA (k:=k+1) U ?_)
  rw[Ob,<-af];exact h
def V9[S:Std A](F:Fence)(n:Nat)(B:F.fn 66)(J:F.round=none)(ak:1<=n)(l fy lm f fm d:Nat)(aj:lm<=f)(L:f<120)(aD:d<120)(hm:fm<120){p:S7->S7->Prop}(E:∀W d',p W d'->m6 W fy lm f fm d->m6 d' fy lm f fm d)(bf o:Tb fT->S7->Prop)
 (H:∀pre x W,bf pre W->pre.length<14400->YieldAt F (n-1) (ao A) l (v7 x) W λe d'=>
  (e=.returned (.bool true)/\bf (pre++[x]) d'/\p W d')\/(e=.returned (.bool false)/\o (pre++[x]) d'))
 (W:S7) (u:m6 W fy lm f fm d) (aT:bf [] W) :
 CallsIn F n (ao A) 66 #[.func (.yield l) #[] #[],Tj fy] W λe d'=>(∃v,e=.returned v)/\
  ((∃ys,ys=hN lm fm d (f-lm+1)/\bf ys d')\/(∃pre,(∀c,c∈pre->c∈hN lm fm d (f-lm+1))/\o pre d')):=by
 refine callsIn_of_wp (S.f func66) S6 B ?_ J;simp only[ntmps66,List.size_toArray,List.length_cons,List.length_nil,Nat.reduceAdd,Nat.reduceSub,Array.replicate_succ,Array.replicate_zero,List.push_toArray,List.append_toArray,List.nil_append,List.cons_append];let⟨c1,c2,c3,c4⟩:=u;gi_wp2
 gi_loopw [14] (λv wr=>∃i:Nat,v=ah i/\i<=f-lm+1/\m6 wr fy lm f fm d/\bf (hN lm fm d i) wr/\(hN lm fm d i).length<=i*120)
  (λv _=>f-lm+1-(wM v).toNat)
 case atStart=>exact⟨0,S6,T' _,u,aT,T' _⟩
 case round=>
  obtain⟨i,rfl,ad,w,r,hlen⟩:=hrel;let⟨c1,c2,c3,c4⟩:=w;by_cases aS:i<=f-lm
  .have y:∀k,(nu fm (lm+i) k).length=k:=λk=>by simp[nu]
   obtain⟨s,af⟩:∃s:Nat,s=max (lm+i) fm:=⟨_,S6⟩
   have g:=al af;have m:=al y;clear af y;have M:decide ((i:Int)<(f:Int)-lm+1)=true:=by rw[decide_eq_true_eq];omega
   rcases Ub (lm+i) fm with hq|hq
   all_goals
    gi_wp2
    gi_loopw [5] (λv wr=>∃k:Nat,v=ah ((s:Int)+k)/\k<=d+1-s/\m6 wr fy lm f fm d/\bf (hN lm fm d i++nu fm (lm+i) k) wr)
     (λv _=>d+1-(wM v).toNat)
    case atStart=>exact⟨0,by have:=g.out;congr 1;omega,T' _,w,by simpa [nu]using r⟩
    case round=>
     obtain⟨k,rfl,aa,j,q⟩:=hrel;let⟨d1,d2,d3,d4⟩:=j;have P:lm+i<=s/\fm<=s/\s<120:=by have:=g.out;omega
     by_cases ez:s+k<=d
     .let⟨fn,tmps,assign,body,z,c5⟩:=H (hN lm fm d i++nu fm (lm+i) k) (uz (lm+i) (s+k)) _ q (by rw[Ug,m.out];omega)
      rw[Jy U U]at z;simp only[Int.natCast_add]at z;gi_wp2
      refine c5.mono ?_;rintro e K (⟨rfl,C,I⟩|⟨rfl,D⟩)
      .have G:=E _ _ I j
       gi_wp2
       go_roundw
       case rel=>
        have h:=g.out;exact⟨k+1,by go_num,U,G,by rw[Ob,<-h,<-List.append_assoc];exact C⟩
       case measure=>simp[wM];omega
      .gi_wp2
       refine bodyPost_ret (results_none S6 _ _ _) S6 ?_;have h:=g.out;exact⟨⟨_,S6⟩,.inr ⟨_,Wa U U (by rw[h]),D⟩⟩
     .gi_wp2
      go_roundw
      case rel=>
       have h:=g.out;refine⟨i+1,by go_num,U,j,?_,?_⟩
       .rw[hN,<-h,show d+1-s=k by omega];exact q
       .rw[hN,Ug,m.out];omega
      case measure=>simp[wM];omega
  .gi_wp2
   go_end0;have e:i=f-lm+1:=U;exact⟨⟨_,S6⟩,.inl ⟨_,S6,by rw[<-e];exact r⟩⟩
def V'[S:Std A](F:Fence)(n:Nat)(i:F.fn 66)(o:F.round=none)(ak:1<=n)(fy lm d fm f:Nat)(aj:lm<=d)(j:d<120)(aD:f<120)(hm:fm<120)(w:S7)(aS:fy<w.heap.size)(g:m6 w fy lm d fm f):
 SeqStopsK F n (ao A) 66 #[Tj fy] v7 (gP fy) (λys=>ys=hN lm fm f (d-lm+1)) (λpre=>∀c,c∈pre->c∈hN lm fm f (d-lm+1)) 14400 w:=λl bf h W hW _ _ m aT=>
 V9 F n i o ak l fy lm d fm f aj j aD hm (gP.stay (fy:=fy)) bf h m W
  ⟨(hW.cell (p:=(S8 fy 1)) aS).trans g.1,(hW.cell (p:=(S8 fy 2)) aS).trans g.2.1,(hW.cell (p:=(S8 fy 3)) aS).trans g.2.2.1,(hW.cell (p:=(S8 fy 4)) aS).trans g.2.2.2⟩ aT
end
end Go.aO
