/- A part of FeeChecks: no conditions. -/
import Derived.Test.YtejkocoljbaioaaGreatDoorP26
import Derived.Test.YtejkocoljbaioaaGreatDoorP33
import Derived.Test.YtejkocoljbaioaaGreatDoorP39
set_option maxHeartbeats 8000000
set_option maxRecDepth 100000
set_option linter.all false
namespace Go.aO
open Go.Proofs Go.RowKit
section
variable{A:Array Func}
def TW[S:Std A](d:dw)(fit:d.fit)(p:gz)(w:World)(h:iZ w d p)(ar:jY d≠0):
 Calls (ao A) 39 #[.agg (eB d p),.slice none 0 0] w λe w'=>e=.returned (.tuple #[.pointer none,ah (jY d)])/\w.grownBy w' none:=by
 have b8:=dU w (.cells (eB d p) 25) none;have i:=al (ID (A:=A) d fit p _ (h.keep b8));have g:=al b8;obtain⟨c,f⟩:∃c,c=jY d:=⟨_,rfl⟩
 have o:(c == 0)=false:=by rw[f];simpa using ar
 have j:=al f;rw[<-f];clear h b8 f ar;go_enter (S.f Tryz.func39),Tryz.ntmps39;go_wp2_with (go_at_call 18;refine i.out.mono ?_;rintro e w2 ⟨rfl,ag⟩;rw[<-j.out];have l:=al ag;clear ag)
 go_ret2
 exact⟨rfl,g.out.trans l.out⟩
def TR[S:Std A](b o n c:Nat)(ak:n<=8)(w:World)(num most bq:Nat->Int)(aT:∀i,i<n->w.cell? ⟨b,o+i*3,none⟩=some (ah (num i)))(I:∀i,i<n->w.cell? ⟨b,o+i*3+1,none⟩=some (ah (most i)))(J:∀i,i<n->w.cell? ⟨b,o+i*3+2,none⟩=some (ah (bq i)))(j:Nat)(aI:j<n)(hb:∀i,i<j->0<=num i/\num i<=most i)(l:¬(0<=num j/\num j<=most j)):
 Calls (ao A) 41 #[.slice (some ⟨b,o,none⟩) n c] w λe w'=>e=.returned (.iface 152 (.agg #[ah (bq j)]))/\w.grownBy w' none:=by
 have ek:=al aT;have f:=al I;have g:=al J;clear aT I J;go_enter (S.f Tryz.func41),Tryz.ntmps41;go_wp2;go_loopw [7] (λi wr=>∃k:Nat,k<=j/\i=ah k/\w.grownBy wr none) (λi _=>n-(TH i).toNat)
 case atStart=>exact⟨0,U,by go_num,e6 _ _⟩
 case round=>
  obtain⟨k,aa,rfl,ag⟩:=hrel;have aS:k<n:=U;have bx:=ag.cell (ek.out k aS) aF;have c1:=ag.cell (f.out k aS) aF;have c2:=ag.cell (g.out k aS) aF;have d:=al ag;clear ag;by_cases h:k<j
  .have au:=hb k h
   have bB:decide (0<=num k/\num k<=most k)=true:=by simp[au.1,au.2]
   go_wp2_with (go_at_call 51;refine(ku _ _ _ _).mono ?_;rintro e w' ⟨rfl,rfl⟩;rw[bB])
   go_roundw
   case rel=>exact⟨k+1,U,by go_num,d.out.trans bT⟩
   case measure=>simp[TH];omega
  .obtain rfl:k=j:=U
   have bB:decide (0<=num k/\num k<=most k)=false:=decide_eq_false l;go_wp2_with (go_at_call 51;refine(ku _ _ _ _).mono ?_;rintro e w' ⟨rfl,rfl⟩;rw[bB])
   go_ret;exact⟨rfl,d.out.trans bT⟩
def T6[S:Std A](w:World)(cT dx f0 d fG f1 g gK f2:Int)(b c:Nat)(hb:w.heap[b]?=some (.cells #[ah cT,ah dx,ah f0,ah d,ah fG,ah f1,ah g,ah gK,ah f2] 103))(f:Int)(l:(¬(0<=cT/\cT<=dx)/\f=f0)\/((0<=cT/\cT<=dx)/\¬(0<=d/\d<=fG)/\f=f1)\/((0<=cT/\cT<=dx)/\(0<=d/\d<=fG)/\¬(0<=g/\g<=gK)/\f=f2)):
 Calls (ao A) 41 #[.slice (some ⟨b,0,none⟩) 3 c] w λe w'=>e=.returned (.iface 152 (.agg #[ah f]))/\w.grownBy w' none:=by
 have H:=λj aI dk o=>TR (A:=A) b 0 3 c U w (λi=>match i with|0=>cT|1=>d|_=>g) (λi=>match i with|0=>dx|1=>fG|_=>gK) (λi=>match i with|0=>f0|1=>f1|_=>f2)
  (λi ad=>by rw[aU hb];rcases i with _|_|_|i<;>first|rfl|omega) (λi ad=>by rw[aU hb];rcases i with _|_|_|i<;>first|rfl|omega) (λi ad=>by rw[aU hb];rcases i with _|_|_|i<;>first|rfl|omega) j aI dk o
 rcases l with⟨h,rfl⟩|⟨aT,h,rfl⟩|⟨aT,I,h,rfl⟩
 .exact H 0 U (λi ad=>U) h
 .exact H 1 U (λi ad=>by obtain rfl:i=0:=U;exact aT) h
 .refine H 2 U (λi ad=>?_) h
  rcases i with _|_|i
  .exact aT
  .exact I
  .omega
def TZ[S:Std A](d:dw)(fit:d.fit)(p:gz)(kind:Int)(w:World)(h:iZ w d p):
 Calls (ao A) 43 #[.agg (eB d p),ah kind] w λe w'=>e=.returned (ah (if jY d≠0 then jY d else if 0<=kind/\kind<=d.kinds-1 then 0 else 3))/\w.grownBy w' none:=by
 have b8:=dU w (.cells (eB d p) 25) none;have l:=al (S0 (A:=A) d fit p _ (h.keep b8));have j:=al b8;clear h b8;obtain⟨c,f⟩:∃c,c=jY d:=⟨_,rfl⟩
 by_cases ar:c=0
 .have aa:=IB (f.symm.trans ar)
  have q:=aa.1.kinds;rw[<-f,if_neg U];subst ar;have c8:∀w2:World,(w.alloc (.cells (eB d p) 25)).grownBy w2 none->w2.cell? ⟨w.heap.size,0,none⟩=some (ah d.kinds):=λw2 ag=>ag.cell (a:=⟨w.heap.size,0,none⟩) (dR rfl) aF
  have o:=al c8;have i:=al f;have r:IntKind.i64.wrap (d.kinds-1)=d.kinds-1:=IntWalk.i64_in _ U;clear f aa c8;by_cases I:0<=kind/\kind<=d.kinds-1
  .have ax:decide (0<=kind/\kind<=d.kinds-1)=true:=decide_eq_true I
   rw[if_pos I];go_enter (S.f Tryz.func43),Tryz.ntmps43;go_wp2_with (first|(go_at_call 19;refine l.out.mono ?_;rintro e w2 ⟨rfl,ag⟩;rw[<-i.out];have ay:=o.out w2 ag;have g:=al ag;clear ag)|(go_at_call 44;refine(nh _ _ _ _).mono ?_;rintro e w' ⟨rfl,rfl⟩;rw[ax]))
   go_ret;exact⟨rfl,j.out.trans g.out⟩
  .have ax:decide (0<=kind/\kind<=d.kinds-1)=false:=decide_eq_false I
   rw[if_neg I];go_enter (S.f Tryz.func43),Tryz.ntmps43;go_wp2_with (first|(go_at_call 19;refine l.out.mono ?_;rintro e w2 ⟨rfl,ag⟩;rw[<-i.out];have ay:=o.out w2 ag;have g:=al ag;clear ag)|(go_at_call 44;refine(nh _ _ _ _).mono ?_;rintro e w' ⟨rfl,rfl⟩;rw[ax]))
   go_ret;exact⟨rfl,j.out.trans g.out⟩
 .have u:(c == 0)=false:=by simpa using ar
  rw[<-f,if_pos ar];have i:=al f;clear f;go_enter (S.f Tryz.func43),Tryz.ntmps43;go_wp2_with (go_at_call 19;refine l.out.mono ?_;rintro e w2 ⟨rfl,ag⟩;rw[<-i.out];have g:=al ag;clear ag)
  go_ret;exact⟨rfl,j.out.trans g.out⟩
def T1{d:cC}{k day:Nat}:∀n,(∃i,i<n/\d.free i=day)->te d k n day=0
 | 0,⟨i,h,_⟩=>U
 |n+1,⟨i,h,e⟩=>by
  unfold te;by_cases c:d.free n=day
  .rw[if_pos c]
  .rw[if_neg c]
   refine T1 n ⟨i,?_,e⟩;rcases Nat.lt_succ_iff_lt_or_eq.1 h with y|rfl
   .exact y
   .exact absurd e c
def T2{d:cC}{k day:Nat}:∀n,(¬∃i,i<n/\d.free i=day)->te d k n day=mQ d k d.bk day
 | 0,_=>rfl
 |n+1,h=>by unfold te;rw[if_neg (λe=>h ⟨n,U,e⟩)];exact T2 n λ⟨i,ad,e⟩=>h ⟨i,U,e⟩
def T0[S:Std A](d:cC)(ok:d.ok)(p:eg)(k:Nat)(aa:k<d.kinds)(day:Nat)(w:World)(h:e' w d p):
 Calls (ao A) 45 #[.agg (dv d p),ah k,ah day] w λe w'=>e=.returned (ah (cX d k day))/\w.grownBy w' none:=by
 have Q:=ok.bk;have R:=ok.b';have b8:=dU w (.cells (dv d p) 25) none;have ek:=al (h.keep b8);have q:=al b8;have second:∀f:(¬∃i,i<d.b'/\d.free i=day),cX d k day=mQ d k d.bk day:=λf=>T2 _ f
 have L:=al second;have F:=al (λh=>show cX d k day=0 from T1 d.b' h);have M:(w.alloc (.cells (dv d p) 25)).cell? ⟨w.heap.size,2,none⟩=some (.slice (some ⟨p.fV,p.gU,none⟩) d.bk p.dq):=dR rfl;have B:(w.alloc (.cells (dv d p) 25)).cell? ⟨w.heap.size,3,none⟩=some (.slice p.ei d.b' p.dc):=dR rfl;obtain⟨E,r⟩:∃E,E=w.alloc (.cells (dv d p) 25):=⟨_,rfl⟩
 rw[<-r]at ek q M B;have H:=al r;clear b8 second h r;go_enter (S.f Tryz.func45),Tryz.ntmps45;go_wp2;try (rw[<-H.out])
 go_loop [7] (λi=>∃m:Nat,m<=d.b'/\i=ah m/\∀j,j<m->d.free j≠day) (λi=>d.b'-(TH i).toNat)
 case atStart=>exact⟨0,U,by go_num,λj aI=>U⟩
 case round=>
  obtain⟨m,hm,rfl,f⟩:=hrel;have z:=al f;clear f;by_cases aS:m<d.b'
  .obtain⟨b,o,e,ak⟩:=ek.out.free U
   have I:=ak m aS;rw[e]at B;clear ak e;have P:(m:Int)<(d.b':Int):=U;by_cases g:d.free m=day
   .have u:(d.free m == (day:Int))=true:=by simpa using g
    have D:=F.out ⟨m,aS,g⟩;have K:=al D;clear D g;go_wp2;go_ret;exact⟨hR K.out,q.out⟩
   .have u:(d.free m == (day:Int))=false:=by simpa using g
    go_wp2;go_round
    case rel=>exact⟨m+1,U,by go_num,λj aI=>by
     rcases Nat.lt_or_ge j m with y|y
     .exact z.out j y
     .rw[show j=m by omega];exact g⟩
    case measure=>simp[TH];omega
  .have C:=L.out (λ⟨i,ad,e⟩=>z.out i U e)
   have G:=al C;clear C;go_wp2;go_loop [8,9] (λout i=>∃m:Nat,m<=d.bk/\i=ah m/\out=ah (mQ d k m day)) (λ_ i=>d.bk-(TH i).toNat)
   case atStart=>exact⟨0,U,by go_num,rfl⟩
   case round=>
    obtain⟨m,hm,rfl,rfl⟩:=hrel;by_cases aS:m<d.bk
    .have I:=ek.out.bV m aS
     have J:=ek.out.rows m aS;have ax:=ek.out.cQ m aS k aa;have P:(m:Int)<(d.bk:Int):=U;have T:(k:Int)<(d.kinds:Int):=U;by_cases aD:d.bV m<=day
     .have u:decide (d.bV m<=(day:Int))=true:=decide_eq_true aD
      have c:mQ d k (m+1) day=d.cQ m k:=if_pos aD;have l:=al c;clear c;go_wp2;go_round
      case rel=>exact⟨m+1,U,by go_num,by rw[l.out]⟩
      case measure=>simp[TH];omega
     .have u:decide (d.bV m<=(day:Int))=false:=decide_eq_false aD
      have c:mQ d k (m+1) day=mQ d k m day:=if_neg aD;have l:=al c;clear c;go_wp2;go_round
      case rel=>exact⟨m+1,U,by go_num,by rw[l.out]⟩
      case measure=>simp[TH];omega
    .obtain rfl:m=d.bk:=U
     go_wp2;go_ret;exact⟨hR G.out,q.out⟩
def Um[S:Std A](d:cC)(ok:d.ok)(p:eg)(k:Nat)(aa:k<d.kinds)(left aP:Nat)(aj:left<120)(aD:aP<120)(w:World)(h:e' w d p):
 Calls (ao A) 50 #[.agg (dv d p),ah k,ah left,ah aP] w λe w'=>e=.returned (ah (ha (d.first k) (cX d k) left aP))/\w.grownBy w' none:=by
 have G:(k:Int)<(d.kinds:Int):=U;have F:=ok.first k aa
 have b8:=dU w (.cells (dv d p) 25) none;have ek:=al (h.keep b8);have q:=al b8;have l:=al (show ∀W:World,(w.alloc (.cells (dv d p) 25)).grownBy W none->W.heap[w.heap.size]?=some (.cells (dv d p) 25)from λW g=>(g.block _ aF aF).trans (fM _ _));have hb:∀j,0<=cX d k j/\cX d k j<=1000000:=λj=>by have:=ql ok aa j;omega
 have r:=al (λj=>ql ok aa j);have z:=al (λ(day:Nat) (w:World) h=>T0 (A:=A) d ok p k aa day w h);have c1:=(h.keep b8).first k aa
 clear h b8;generalize aA:cX d k=bj at *;clear aA;go_enter (S.f Tryz.func50),Tryz.ntmps50;go_wp2;clear c1;go_loopw [9,10] (λs v wr=>∃j:Nat,v=ah j/\left / 24+1<=j/\(j<=aP / 24+1\/j=left / 24+1)/\s=ah (d.first k+ks bj (left / 24+1) (j-(left / 24+1)))/\(w.alloc (.cells (dv d p) 25)).grownBy wr none) (λ_ v _=>aP / 24+1-(TH v).toNat)
 case atStart=>exact⟨left / 24+1,aF,bg,.inr rfl,by simp[ks],e6 _ _⟩
 case round=>
  obtain⟨j,rfl,I,J,rfl,ag⟩:=hrel;have C:=Gm hb (left / 24+1) (j-(left / 24+1));have E:j-(left / 24+1)<=6:=U;generalize i:ks bj (left / 24+1) (j-(left / 24+1))=H at C ⊢;have f:=al i;clear i;have c:=al ag;have e:=l.out _ ag;have K:=(aU (o:=0) e).trans rfl;have L:=(aU (o:=1) e).trans rfl;have M:=(aU (o:=2) e).trans rfl;have P:=(aU (o:=3) e).trans rfl;have B:=al (ek.out.keep ag);clear ag e;by_cases aS:j<=aP / 24
  .have D:=r.out j
   go_wp2_with (go_at_call 45;refine(z.out j _ B.out).mono ?_;rintro e w2 ⟨rfl,ag⟩;have u:=al (c.out.trans ag);clear ag)
   go_roundw
   case rel=>
    refine⟨j+1,by go_num,U,U,?_,u.out⟩;have e:j+1-(left / 24+1)=j-(left / 24+1)+1:=U;rw[e,ks,f.out,show left / 24+1+(j-(left / 24+1))=j by omega];go_num
   case measure=>simp[TH];omega
  .go_wp2
   go_ret;refine⟨?_,q.out.trans c.out⟩;rw[ha,<-f.out,show j-(left / 24+1)=aP / 24-left / 24 by omega];rfl
def TQ[S:Std A](q g2:Option Addr)(n c bp:Nat)(ak:n<=100000)(f:Nat->Int)(w:World)(I:kU w q n f)(J:kU w g2 n f):
 Calls (ao A) 30 #[.slice q n c,.slice g2 n bp] w λe w'=>e=.returned (.bool true)/\w.grownBy w' none:=by
 have d:=al I;have g:=al J;clear I J;by_cases aT:n=0
 .subst aT
  go_enter (S.f Tryz.func30),Tryz.ntmps30;go_wp2;go_loopw [5] (λi wr=>i=ah 0/\w.grownBy wr none) (λi _=>0)
  case atStart=>exact⟨rfl,e6 _ _⟩
  case round=>
   obtain⟨rfl,ag⟩:=hrel;go_wp2;go_ret;exact⟨rfl,ag⟩
 .obtain⟨b,o,rfl,k1⟩:=d.out aT
  obtain⟨aE,aV,rfl,cn⟩:=g.out aT;exact DO b o aE aV n c bp ak f w k1 cn
def Ue[S:Std A](d:dw)(p ia:gz)(hF:d.c'<=1000)(c5:d.bk<=1000)(Q:d.b'<=1000)(J:∀i,i<d.bk->d.eP i<=1000)(w:World)(h:iZ w d p)(C:iZ w d ia):
 Calls (ao A) 20 #[.agg (eB d p),.agg (eB d ia)] w λe w'=>e=.returned (.bool true)/\w.grownBy w' none:=by
 have j:=(dU w (.cells (eB d p) 25) none).trans (dU _ (.cells (eB d ia) 25) none);have c:=al (show ∀W:World,((w.alloc (.cells (eB d p) 25)).alloc (.cells (eB d ia) 25)).grownBy W none->iZ W d p/\iZ W d ia/\W.heap[w.heap.size]?=some (.cells (eB d p) 25)/\W.heap[w.heap.size+1]?=some (.cells (eB d ia) 25)from λW g=>
  ⟨h.keep (j.trans g),C.keep (j.trans g),(g.block _ cH aF).trans ((dm aF).trans (fM _ _)),(g.block _ aF aF).trans (jA _ _ _ aF)⟩)
 have K:=al j;have L:=al J;have D:=al (h.keep j);have E:=al (C.keep j);clear h C j J;go_enter (S.f Tryz.func20),Tryz.ntmps20;go_upto_region 3 with(first
  |(go_at_call 30;refine(TQ (A:=A) p.ei ia.ei d.b' p.dc ia.dc U d.free _ ((c.out _ f.out).1.free) ((c.out _ f.out).2.1.free)).mono ?_;rintro e w3 ⟨rfl,ag⟩;have r:=al (f.out.trans ag);clear ag u z M z3;have u:=(aU (o:=2) (c.out _ r.out).2.2.1).trans rfl;have z:=(aU (o:=2) (c.out _ r.out).2.2.2).trans rfl)
  |(go_at_call 30;refine(TQ (A:=A) p.eh ia.eh d.c' p.cA ia.cA U d.first _ D.out.first E.out.first).mono ?_;rintro e w2 ⟨rfl,ag⟩;have f:=al ag;clear ag;have u:=(aU (o:=2) (c.out _ f.out).2.2.1).trans rfl;have z:=(aU (o:=2) (c.out _ f.out).2.2.2).trans rfl;have M:=(aU (o:=3) (c.out _ f.out).2.2.1).trans rfl;have z3:=(aU (o:=3) (c.out _ f.out).2.2.2).trans rfl))
 clear u z;go_wp2;go_loopw [5] (λi wr=>∃k:Nat,k<=d.bk/\i=ah k/\((w.alloc (.cells (eB d p) 25)).alloc (.cells (eB d ia) 25)).grownBy wr none) (λi _=>d.bk-numOf i)
 case atStart=>exact⟨0,U,by go_num,r.out⟩
 case round=>
  obtain⟨k,aa,rfl,ag⟩:=hrel;have q:=al ag;clear ag f r;have u:=(aU (o:=2) (c.out _ q.out).2.2.1).trans rfl;have z:=(aU (o:=2) (c.out _ q.out).2.2.2).trans rfl;by_cases aS:k<d.bk
  .have q1:(k:Int)<(d.bk:Int):=U
   have V:(0:Int)<=k:=U;obtain⟨b,o,ay,-⟩:=D.out.kM U;obtain⟨aE,aV,B,-⟩:=E.out.kM U;have G:=al (show ∀W:World,((w.alloc (.cells (eB d p) 25)).alloc (.cells (eB d ia) 25)).grownBy W none->W.cell? ⟨w.heap.size,2,none⟩=some (.slice (some ⟨b,o,none⟩) d.bk p.dq)/\W.cell? ⟨w.heap.size+1,2,none⟩=some (.slice (some ⟨aE,aV,none⟩) d.bk ia.dq)/\
    W.cell? ⟨b,o+k*2,none⟩=some (ah (d.bV k))/\W.cell? ⟨b,o+k*2+1,none⟩=some (.slice (p.fh k) (d.eP k) (p.cq k))/\W.cell? ⟨aE,aV+k*2,none⟩=some (ah (d.bV k))/\W.cell? ⟨aE,aV+k*2+1,none⟩=some (.slice (ia.fh k) (d.eP k) (ia.cq k))from λW g=>by
    obtain⟨f1,f2,f3,f4⟩:=c.out W g;obtain⟨bB,R,H,c1⟩:=f1.kM U;obtain⟨P,T,I,c2⟩:=f2.kM U;rw[ay]at H;rw[B]at I;cases H;cases I;exact⟨(aU f3).trans (by rw[<-ay];rfl),(aU f4).trans (by rw[<-B];rfl),(c1 k aS).1,(c1 k aS).2,(c2 k aS).1,(c2 k aS).2⟩)
   have l:=al (show((w.alloc (.cells (eB d p) 25)).alloc (.cells (eB d ia) 25)).grownBy wr.drew none from gv q.out);clear ay B;go_upto_region 6 with fail
   go_region_held3 (λW=>W.cell? ⟨w.heap.size,2,none⟩=some (.slice (some ⟨b,o,none⟩) d.bk p.dq)/\W.cell? ⟨w.heap.size+1,2,none⟩=some (.slice (some ⟨aE,aV,none⟩) d.bk ia.dq)/\
    W.cell? ⟨b,o+k*2,none⟩=some (ah (d.bV k))/\W.cell? ⟨b,o+k*2+1,none⟩=some (.slice (p.fh k) (d.eP k) (p.cq k))/\W.cell? ⟨aE,aV+k*2,none⟩=some (ah (d.bV k))/\W.cell? ⟨aE,aV+k*2+1,none⟩=some (.slice (ia.fh k) (d.eP k) (ia.cq k)))
    (first|with_reducible exact G.out _ l.out|with_reducible exact G.out _ F.out)
    (first|(go_at_call 30;refine(TQ (A:=A) (p.fh k) (ia.fh k) (d.eP k) (p.cq k) (ia.cq k) (by have:=L.out k aS;omega) (d.cQ k) _ ((c.out _ l.out).1.cQ k aS) ((c.out _ l.out).2.1.cQ k aS)).mono ?_;rintro e X ⟨rfl,ag⟩;have F:=al (l.out.trans ag);clear ag))
   go_wp2;exact⟨⟨k+1,U,by push_cast;rfl,F.out⟩,by simp[numOf];omega⟩
  .go_wp2
   go_ret;exact⟨rfl,K.out.trans q.out⟩
structure Tr where
 k:Int
 a:Int
 b:Int
 c:Int
 e:Int
abbrev Tr.v(s:Tr):Array Value:=#[ah s.k,ah s.a,ah s.b,ah s.c,ah s.e]
def Tv(a b:Int):Int:=if (decide (0<=a/\a<=119) && decide (0<=b/\b<=119))=true then(if decide (a>b)=true then 5 else 0)else 1
def TB(m:Int)(s:Tr):Int:=if decide (0<=s.k/\s.k<=m-1)=true then(if Tv s.a s.b=0 then(if Tv s.c s.e=0 then(if decide (s.e<s.a)=true then 9 else 0)else Tv s.c s.e)else Tv s.a s.b)else 3
def TG(d:dw)(s:Tr):Int:=if jY d=0 then TB d.kinds s else jY d
def TL[S:Std A](a b:Int)(w:World):Calls (ao A) 69 #[.agg #[ah a,ah b]] w λe w'=>e=.returned (ah (Tv a b))/\w.grownBy w' none:=by
 unfold Tv;cases c:decide (0<=a/\a<=119)<;>cases d:decide (0<=b/\b<=119)<;>cases f:decide (a>b)
 all_goals (
  go_enter (S.f Tryz.func69),Tryz.ntmps69;go_wp2_with (first|(go_at_call_of 51 (ah a);refine(ku _ _ _ _).mono ?_;rintro e w' ⟨rfl,rfl⟩;rw[c])|(go_at_call_of 51 (ah b);refine(ku _ _ _ _).mono ?_;rintro e w' ⟨rfl,rfl⟩;rw[d]))
  go_ret;exact⟨rfl,bT⟩)
def TT[S:Std A](a b:Int)(w:World):Calls (ao A) 70 #[.agg #[ah a,ah b]] w λe w'=>e=.returned (ah (Tv a b))/\w.grownBy w' none:=by
 unfold Tv;cases c:decide (0<=a/\a<=119)<;>cases d:decide (0<=b/\b<=119)<;>cases f:decide (a>b)
 all_goals (
  go_enter (S.f Tryz.func70),Tryz.ntmps70;go_wp2_with (first|(go_at_call_of 44 (ah a);refine(nh _ _ _ _).mono ?_;rintro e w' ⟨rfl,rfl⟩;rw[c])|(go_at_call_of 44 (ah b);refine(nh _ _ _ _).mono ?_;rintro e w' ⟨rfl,rfl⟩;rw[d]))
  go_ret;exact⟨rfl,bT⟩)
def Tr.cells{w:World}{b:Nat}{s:Tr}(h:w.heap[b]?=some (.cells s.v 31)):w.cell? ⟨b,0,none⟩=some (ah s.k)/\w.cell? ⟨b,1,none⟩=some (ah s.a)/\w.cell? ⟨b,2,none⟩=some (ah s.b)/\w.cell? ⟨b,3,none⟩=some (ah s.c)/\w.cell? ⟨b,4,none⟩=some (ah s.e):=
 ⟨(aU (o:=0) h).trans rfl,(aU (o:=1) h).trans rfl,(aU (o:=2) h).trans rfl,(aU (o:=3) h).trans rfl,(aU (o:=4) h).trans rfl⟩
def Tw(w:World)(o aV:Obj):((w.alloc o).alloc aV).heap[w.heap.size]?=some o/\((w.alloc o).alloc aV).heap[w.heap.size+1]?=some aV/\w.grownBy ((w.alloc o).alloc aV) none:=by refine⟨(dm aF).trans (fM _ _),?_,bT.trans bT⟩;have:=fM (w.alloc o) aV;rwa [cV]at this
def Uu[S:Std A](d:dw)(hm:1<=d.kinds/\d.kinds<=3)(p:gz)(s:Tr)(w:World):
 Calls (ao A) 36 #[.agg (eB d p),.agg s.v] w λe w'=>e=.returned (ah (TB d.kinds s))/\w.grownBy w' none:=by
 have Q:IntKind.i64.wrap (d.kinds-1)=d.kinds-1:=IntWalk.i64_in _ U;obtain⟨r,au⟩:∃r,TB d.kinds s=r:=⟨_,rfl⟩
 rw[au];unfold TB at au;have q:=al au;clear au;cases bB:decide (0<=s.k/\s.k<=d.kinds-1)
 .go_enter (S.f Tryz.func36),Tryz.ntmps36
  go_wp2_with (go_at_call 51;refine(ku _ _ _ _).mono ?_;rintro e w' ⟨rfl,rfl⟩;rw[bB])
  go_ret;exact⟨hR (by rw[<-q.out,bB];rfl),(Tw _ _ _).2.2⟩
 obtain⟨x,C⟩:∃x,Tv s.a s.b=x:=⟨_,rfl⟩
 obtain⟨y,D⟩:∃y,Tv s.c s.e=y:=⟨_,rfl⟩
 have q:=al (show(if x=0 then(if y=0 then(if decide (s.e<s.a)=true then 9 else 0)else y)else x)=r by rw[<-q.out,bB,C,D];rfl);have G:=al C;have H:=al D;clear C D;obtain⟨q1,J,K⟩:=Tw w (.cells (eB d p) 25) (.cells s.v 31);obtain⟨W,hW⟩:∃W,((w.alloc (.cells (eB d p) 25)).alloc (.cells s.v 31)).alloc (.cells #[ah s.a,ah s.b,ah s.c,ah s.e] 29)=W:=⟨_,rfl⟩
 have u:=al (show w.grownBy W none/\∀V:World,W.grownBy V none->V.heap[w.heap.size+1]?=some (.cells s.v 31)/\V.heap[w.heap.size+1+1]?=some (.cells #[ah s.a,ah s.b,ah s.c,ah s.e] 29)from by rw[<-hW];refine⟨K.trans bT,λV g=>⟨(g.block _ aF aF).trans ((dm aF).trans J),(g.block _ aF aF).trans ?_⟩⟩;have:=fM ((w.alloc (.cells (eB d p) 25)).alloc (.cells s.v 31)) (.cells #[ah s.a,ah s.b,ah s.c,ah s.e] 29);rwa [cV,cV]at this)
 have M:=al hW;clear q1 J K hW;go_enter (S.f Tryz.func36),Tryz.ntmps36;go_wp2_with (go_at_call 51;refine(ku _ _ _ _).mono ?_;rintro e w' ⟨rfl,rfl⟩;rw[bB])
 have B:=M.out;dsimp only[eB,Tr.v]at B;rw[B];clear B;go_loopw [21] (λi wr=>∃j:Nat,j<=2/\i=ah j/\W.grownBy wr none/\(0<j->x=0)/\(1<j->y=0)) (λi _=>2-(TH i).toNat)
 case atStart=>exact⟨0,U,by go_num,e6 _ _,λh=>absurd h U,λh=>absurd h U⟩
 case round=>
  obtain⟨j,aI,rfl,ag,aT,I⟩:=hrel;have z:=(u.out.2 wr ag).2;have bx:=(aU (o:=0) z).trans rfl;have c1:=(aU (o:=1) z).trans rfl;have c2:=(aU (o:=2) z).trans rfl;have c3:=(aU (o:=3) z).trans rfl;have l:=al ag;have ek:=al aT;clear ag z aT;rcases j with _|_|_|j
  .rcases Classical.em (x=0)with hx0|hx0
   .have F:(x == 0)=true:=by simpa using hx0
    have Z:=al hx0;clear hx0;go_wp2_with (go_at_call 69;refine(TL _ _ _).mono ?_;rintro e E ⟨rfl,c⟩;rw[G.out];have f:=al ((l.out.trans bT).trans c);clear c)
    go_roundw
    case rel=>exact⟨1,U,by go_num,f.out,λ_=>Z.out,λh=>absurd h U⟩
    case measure=>simp[TH]
   .have F:(x == 0)=false:=by simpa using hx0
    have Z:=al hx0;clear hx0;go_wp2_with (go_at_call 69;refine(TL _ _ _).mono ?_;rintro e E ⟨rfl,c⟩;rw[G.out];have f:=al ((l.out.trans bT).trans c);clear c)
    go_ret;exact⟨hR (by rw[<-q.out,if_neg Z.out]),u.out.1.trans f.out⟩
  .rcases Classical.em (y=0)with hx0|hx0
   .have F:(y == 0)=true:=by simpa using hx0
    have Z:=al hx0;clear hx0;go_wp2_with (go_at_call 69;refine(TL _ _ _).mono ?_;rintro e E ⟨rfl,c⟩;rw[H.out];have f:=al ((l.out.trans bT).trans c);clear c)
    go_roundw
    case rel=>exact⟨2,U,by go_num,f.out,λ_=>ek.out U,λ_=>Z.out⟩
    case measure=>simp[TH]
   .have F:(y == 0)=false:=by simpa using hx0
    have Z:=al hx0;clear hx0;go_wp2_with (go_at_call 69;refine(TL _ _ _).mono ?_;rintro e E ⟨rfl,c⟩;rw[H.out];have f:=al ((l.out.trans bT).trans c);clear c)
    go_ret;exact⟨hR (by rw[<-q.out,if_pos (ek.out U),if_neg Z.out]),u.out.1.trans f.out⟩
  .obtain⟨R,T,X,Y,aa⟩:=Tr.cells (u.out.2 wr l.out).1
   have L:=al I;clear I;cases P:decide (s.e<s.a);all_goals (
    go_wp2;go_ret;exact⟨hR (by rw[<-q.out,if_pos (ek.out U),if_pos (L.out U),P];rfl),u.out.1.trans l.out⟩)
  .omega
def Uq[S:Std A](d:dw)(hm:1<=d.kinds/\d.kinds<=3)(p:gz)(s:Tr)(w:World):
 Calls (ao A) 37 #[.agg (eB d p),.agg s.v] w λe w'=>e=.returned (ah (TB d.kinds s))/\w.grownBy w' none:=by
 have E:IntKind.i64.wrap (d.kinds-1)=d.kinds-1:=IntWalk.i64_in _ U;obtain⟨r,au⟩:∃r,TB d.kinds s=r:=⟨_,rfl⟩
 rw[au];unfold TB at au;have c:=al au;clear au;cases bB:decide (0<=s.k/\s.k<=d.kinds-1)
 .go_enter (S.f Tryz.func37),Tryz.ntmps37
  go_wp2_with (go_at_call 44;refine(nh _ _ _ _).mono ?_;rintro e w' ⟨rfl,rfl⟩;rw[bB])
  go_ret;exact⟨hR (by rw[<-c.out,bB];rfl),(Tw _ _ _).2.2⟩
 obtain⟨x,f⟩:∃x,Tv s.a s.b=x:=⟨_,rfl⟩
 obtain⟨y,g⟩:∃y,Tv s.c s.e=y:=⟨_,rfl⟩
 have c:=al (show(if x=0 then(if y=0 then(if decide (s.e<s.a)=true then 9 else 0)else y)else x)=r by rw[<-c.out,bB,f,g];rfl);have l:=al f;have o:=al g;clear f g;have Q:=al (Tw w (.cells (eB d p) 25) (.cells s.v 31));cases q:decide (s.e<s.a)<;>cases i:(x == 0)<;>cases z3:(y == 0)
 all_goals (
  go_enter (S.f Tryz.func37),Tryz.ntmps37;go_wp2_with (first
   |(go_at_call 44;refine(nh _ _ _ _).mono ?_;rintro e w' ⟨rfl,rfl⟩;rw[bB])
   |(go_at_call 70;refine(TT s.a s.b _).mono ?_;rintro e F ⟨rfl,ag⟩;rw[l.out];obtain⟨u,z,B,C,D⟩:=Tr.cells ((ag.block _ aF aF).trans Q.out.2.1);have h:=al ag;clear ag)
   |(go_at_call 70;refine(TT s.c s.e _).mono ?_;rintro e w2 ⟨rfl,ag⟩;rw[o.out];have ag:=h.out.trans ag;obtain⟨u,z,B,C,D⟩:=Tr.cells ((ag.block _ aF aF).trans Q.out.2.1);have j:=al ag;clear ag))
  go_ret;simp only[beq_iff_eq,beq_eq_false_iff_ne]at i z3;refine⟨hR ?_,Q.out.2.2.trans ?_⟩
  .rw[<-c.out];simp[i,z3,q]
  .first|exact j.out|exact h.out)
def T7[S:Std A](d:dw)(fit:d.fit)(p:gz)(s:Tr)(w:World)(h:iZ w d p):
 Calls (ao A) 10 #[.agg (eB d p),.agg s.v] w λe w'=>e=.returned (ah (TG d s))/\w.grownBy w' none:=by
 have Q:=Tw w (.cells (eB d p) 25) (.cells s.v 31);have l:=al (ID (A:=A) d fit p _ (h.keep Q.2.2));have B:=al λ(V:World) (g:((w.alloc (.cells (eB d p) 25)).alloc (.cells s.v 31)).grownBy V none)=>And.intro (g.block _ (by simp only[cV];omega) aF |>.trans Q.1) (Tr.cells ((g.block _ aF aF).trans Q.2.1))
 have j:=al Q.2.2;clear Q h;unfold TG;rcases Classical.em (jY d=0)with ar|ar
 .have u:=al λw=>Uu (A:=A) d (by have:=IB ar;have I:=this.1.kinds;omega) p s w
  have z:=al ar;rw[if_pos ar];clear ar;go_enter (S.f Tryz.func10),Tryz.ntmps10;go_wp2_with (first
   |(go_at_call 18;refine l.out.mono ?_;rintro e q ⟨rfl,ag⟩;rw[z.out];obtain⟨f,G,H,J,K,L⟩:=B.out q ag;have C:=(aU (o:=0) f).trans rfl;have D:=(aU (o:=1) f).trans rfl;have E:=(aU (o:=2) f).trans rfl;have F:=(aU (o:=3) f).trans rfl;have i:=al (j.out.trans ag);clear ag f)
   |(go_at_call 36;refine(u.out _).mono ?_;rintro e w2 ⟨rfl,ag⟩;have r:=al (i.out.trans ag);clear ag))
  go_ret;exact⟨rfl,r.out⟩
 .rw[if_neg ar]
  generalize jY d=c at *;have M:(c == 0)=false:=by simpa using ar
  go_enter (S.f Tryz.func10),Tryz.ntmps10;go_wp2_with (go_at_call 18;refine l.out.mono ?_;rintro e q ⟨rfl,ag⟩;have i:=al (j.out.trans ag);clear ag)
  go_ret;exact⟨rfl,i.out⟩
def Ul[S:Std A](d:dw)(fit:d.fit)(p:gz)(s:Tr)(w:World)(h:iZ w d p):
 Calls (ao A) 11 #[.agg (eB d p),.agg s.v] w λe w'=>e=.returned (ah (TG d s))/\w.grownBy w' none:=by
 have Q:=Tw w (.cells (eB d p) 25) (.cells s.v 31);have l:=al (S0 (A:=A) d fit p _ (h.keep Q.2.2));have B:=al λ(V:World) (g:((w.alloc (.cells (eB d p) 25)).alloc (.cells s.v 31)).grownBy V none)=>And.intro (g.block _ (by simp only[cV];omega) aF |>.trans Q.1) (Tr.cells ((g.block _ aF aF).trans Q.2.1))
 have j:=al Q.2.2;clear Q h;unfold TG;rcases Classical.em (jY d=0)with ar|ar
 .have u:=al λw=>Uq (A:=A) d (by have:=IB ar;have I:=this.1.kinds;omega) p s w
  have z:=al ar;rw[if_pos ar];clear ar;go_enter (S.f Tryz.func11),Tryz.ntmps11;go_wp2_with (first
   |(go_at_call 19;refine l.out.mono ?_;rintro e q ⟨rfl,ag⟩;rw[z.out];obtain⟨f,G,H,J,K,L⟩:=B.out q ag;have C:=(aU (o:=0) f).trans rfl;have D:=(aU (o:=1) f).trans rfl;have E:=(aU (o:=2) f).trans rfl;have F:=(aU (o:=3) f).trans rfl;have i:=al (j.out.trans ag);clear ag f)
   |(go_at_call 37;refine(u.out _).mono ?_;rintro e w2 ⟨rfl,ag⟩;have r:=al (i.out.trans ag);clear ag))
  go_ret;exact⟨rfl,r.out⟩
 .rw[if_neg ar]
  generalize jY d=c at *;have M:(c == 0)=false:=by simpa using ar
  go_enter (S.f Tryz.func11),Tryz.ntmps11;go_wp2_with (go_at_call 19;refine l.out.mono ?_;rintro e q ⟨rfl,ag⟩;have i:=al (j.out.trans ag);clear ag)
  go_ret;exact⟨rfl,i.out⟩
structure Tt(w W:World)(T g B:Nat)(L:Value)(c:Array Value):Prop where
 rD:fS W T L g
 blk:W.heap[B]?=some (.cells c 31)
 res:W.heap[w.heap.size+1]?=some (.cells #[ah 0,ah 0,ah 0,ah 0,ah 0] 31)
 fY:w.grownBy W (some T)
 a':T<w.heap.size
 Tu:w.heap.size+2<=B
 off:tz L B
def Tt.call{w W d':World}{T g g' B:Nat}{L:Value}{c:Array Value}(h:Tt w W T g B L c)(t:fS d' T L g')(k:W.grownBy d' (some T)):Tt w d' T g' B L c:=by have I:=h.a';have J:=h.Tu;have s:=bu h.blk;exact⟨t,(k.block B s (λe=>by have:=bD e;omega)).trans h.blk,(k.block _ U (λe=>by have:=bD e;omega)).trans h.res,h.fY.trans k,h.a',h.Tu,h.off⟩
def Tt.drew{w W:World}{T g B:Nat}{L:Value}{c:Array Value}(h:Tt w W T g B L c):Tt w W.drew T g B L c:=
 ⟨h.rD.of rfl,h.blk,h.res,gv h.fY,h.a',h.Tu,h.off⟩
def Tt.alloc{w W:World}{T g B:Nat}{L:Value}{c:Array Value}(h:Tt w W T g B L c)(o:Obj):Tt w (W.alloc o) T g B L c:=by have s:=bu h.blk;have J:=h.Tu;exact⟨h.rD.alloc o,(dm s).trans h.blk,(dm U).trans h.res,h.fY.trans bT,h.a',h.Tu,h.off⟩
def TE{W:World}{T g B o:Nat}{L v:Value}(h:fS W T L g)(c:T≠B)(off:tz L B):fS (W.setCell ⟨B,o,none⟩ v) T L g:=by obtain⟨⟨s,hb,af⟩,ak⟩:=h;exact⟨⟨s,(e1 (by show T≠B;exact c)).trans hb,af⟩,ak.oV off ⟨rfl,rfl,rfl,aF,λi ad d=>e1 (by show i≠B;exact λe=>d (.inr e))⟩⟩
def Tt.set{w W:World}{T g B:Nat}{L:Value}{c:Array Value}(h:Tt w W T g B L c)(o:Nat)(v:Value):Tt w (W.setCell ⟨B,o,none⟩ v) T g B L (c.setIfInBounds o v):=by have I:=h.a';have J:=h.Tu;exact⟨TE h.rD U h.off,cU h.blk,(e1 (by show w.heap.size+1≠B;omega)).trans h.res,⟨h.fY.os,h.fY.tape,h.fY.output,by have:=h.fY.size;simpa using this,λi ad d=>(e1 (by show i≠B;omega)).trans (h.fY.block i ad d)⟩,h.a',h.Tu,h.off⟩
def Ur{X:World}{r:Nat}{v0 v1 v2 v3 v4:Value}{t:TypeId}{c d f nE g:Value}(h:X.heap[r]?=some (.cells #[c,d,f,nE,g] t)):(((((X.setCell ⟨r,0,none⟩ v0).setCell ⟨r,1,none⟩ v1).setCell ⟨r,2,none⟩ v2).setCell ⟨r,3,none⟩ v3).setCell ⟨r,4,none⟩ v4).heap[r]?=some (.cells #[v0,v1,v2,v3,v4] t):=
 cU (cU (cU (cU (cU h))))
def TI{w W:World}{T r o:Nat}{v:Value}(h:w.grownBy W (some T))(au:w.heap.size<=r):w.grownBy (W.setCell ⟨r,o,none⟩ v) (some T):=
 ⟨h.os,h.tape,h.output,by have:=h.size;simpa using this,λi ad c=>(e1 (by show i≠r;omega)).trans (h.block i ad c)⟩
def TD(j:Nat):Int:=match j with|0=>30|_=>119
def Uh(w:World)(t:TypeId):gn (w.alloc (.cells #[ah 30,ah 119] t)) w.heap.size 0 2 TD:=by
 intro j aI;have:=aU (o:=0+j) (fM w (.cells #[ah 30,ah 119] t));rcases j with _|_|j
 .exact this
 .exact this
 .omega
def TX(j:Nat):0<=TD j/\TD j<=119:=by unfold TD;split<;>omega
def Ty(j:Nat):Int:=match j with|0=>10|1=>60|_=>100
def Uf(w:World)(t:TypeId):gn (w.alloc (.cells #[ah 10,ah 60,ah 100] t)) w.heap.size 0 3 Ty:=by
 intro j aI;have:=aU (o:=0+j) (fM w (.cells #[ah 10,ah 60,ah 100] t));rcases j with _|_|_|j
 .exact this
 .exact this
 .exact this
 .omega
def Ug(j:Nat):0<=Ty j/\Ty j<=100:=by unfold Ty;split<;>omega
def Us[S:Std A](T g:Nat)(L:Value)(ag:g<2000)(d:cC)(ok:d.ok)(p:eg)(n:Nat)(ak:n<=100)(w:World)(h:fS w T L g):
 Calls (ao A) 8 #[.pointer (some ⟨T,0,none⟩),.agg (dv d p),ah n] w λe w'=>∃s:h3,e=.returned (.agg s.a)/\s.ok d/\fS w' T L (g+7)/\w.grownBy w' (some T):=by
 have aY:=h.lt;have aa:=ok.kinds;obtain⟨l,z⟩:∃l,(w.alloc (.cells (dv d p) 25)).alloc (.cells #[ah 0,ah 0,ah 0,ah 0,ah 0] 31)=l:=⟨_,rfl⟩
 have t1:fS l T L g:=by rw[<-z];exact(h.alloc _).alloc _
 have aO:w.grownBy l (some T):=by rw[<-z];exact bT.trans bT
 have ay:l.heap.size=w.heap.size+1+1:=by rw[<-z];simp
 have bB:l.heap[w.heap.size]?=some (.cells (dv d p) 25):=by rw[<-z];exact(dm aF).trans (fM _ _)
 have r1:l.heap[w.heap.size+1]?=some (.cells #[ah 0,ah 0,ah 0,ah 0,ah 0] 31):=by rw[<-z,show w.heap.size+1=(w.alloc (.cells (dv d p) 25)).heap.size by simp];exact fM _ _
 have off:∀B,w.heap.size<=B->tz L B:=λB aP=>h.nm.off aP
 have a6:(some (w.heap.size+1):Option Nat)≠some T:=λe=>by have:=bD e;omega
 have aK:=al t1;have aB:=al aO;have aJ:=al r1;have az:=al z;have aM:=al ay;have aH:=al off;have J:=al (off (w.heap.size+1) U);have bb:l.cell? ⟨w.heap.size,0,none⟩=some (ah d.kinds):=aU bB;clear h t1 aO bB r1 z ay off;go_enter (S.f Tryz.func8),Tryz.ntmps8;go_upto_region 1 with fail
 have av:=az.out;dsimp only[dv]at av;rw[av];clear av;go_upto_region 2 with(go_at_call 12;refine(PG (A:=A) T g L U ((d.kinds:Int)-1) U l aK.out).mono ?_;rintro e w2 ⟨k,rfl,a3,aA,c⟩;have aL:=al aA;have P:=al c;clear aA c)
 clear bb;have a4:k<d.kinds:=U;have a9:=P.out.size;have ba:=aM.out;have D:Tt w (w2.alloc (.cells #[ah k,ah 0,ah 0,ah 0,ah 0] 31)) T (g+1) w2.heap.size L #[ah k,ah 0,ah 0,ah 0,ah 0]:=
  ⟨aL.out.alloc _,fM _ _,(dm U).trans ((P.out.block _ U a6).trans aJ.out),(aB.out.trans P.out).trans bT,aY,U,aH.out _ U⟩
 generalize w2.alloc _=w3 at D ⊢;generalize w2.heap.size=B at D a9 ⊢;have aP:=D.Tu;have bi:=bu D.blk;have ae:=al D;clear D aK aB aJ az aM aH aL P ba a3;go_upto_region 3 with(first
  |(go_at_call 35;refine(CQ (A:=A) T (g+1) L U w3.heap.size 0 2 2 TD U _ (ae.out.alloc _).rD U (Uh _ _)).mono ?_;rintro e bf ⟨j,aI,rfl,aA,c⟩;have af:=al ((ae.out.alloc _).call aA c);clear aA c)
  |(go_at_call 12;refine(PG (A:=A) T (g+2) L U (TD j) (by have:=TX j;omega) bf af.out.rD).mono ?_;rintro e bg ⟨lm,rfl,a5,aA,c⟩;have R:=af.out.call aA c;have X:=aU (o:=1) R.blk;have f1:=b3 (o:=1) R.blk;have aE:=al R;clear aA c R))
 have bk:lm<=119:=by have:=TX j;omega
 have ap:=aE.out.set 1 (ah lm);clear ae af aE X f1 a5 aI;generalize bg.setCell _ _=bh at ap ⊢;have aq:=ap.drew;have aV:bh.drew.cell? ⟨B,1,none⟩=some (ah lm):=(aU (o:=1) aq.blk).trans rfl;have ai:=al aq;clear ap aq;go_region_held3 (λW=>W.cell? ⟨B,1,none⟩=some (ah lm))
  (first|with_reducible exact aV|with_reducible exact jT|with_reducible exact K.out _)
  (first|(go_at_call 12;refine(PG (A:=A) T (g+2+1) L U n U _ (by exact ai.out.rD)).mono ?_;rintro e ax ⟨r,rfl,au,aA,c⟩;have E:=ai.out.call aA c;have jT:ax.cell? ⟨B,1,none⟩=some (ah lm):=(aU (o:=1) E.blk).trans rfl;have K:=al (show ∀v,(ax.setCell ⟨B,2,none⟩ v).cell? ⟨B,1,none⟩=some (ah lm)from λv=>(aU (o:=1) (E.set 2 v).blk).trans rfl);have aX:=aU (o:=2) E.blk;have f2:=b3 (o:=2) E.blk;have v2:IntKind.i64.wrap ((lm:Int)+r)=lm+r:=IntWalk.i64_in _ U;have aG:=al E;clear aA c E))
 obtain⟨i,c6⟩:∃i:Nat,min 119 ((lm:Int)+r)=(i:Int):=⟨min 119 (lm+r),U⟩
 have I:lm<=i/\i<=119:=U;have F:=aG.out.set 2 (ah i);rw[c6];clear ai aG aV jT K aX f2 v2 c6 au;generalize ax.setCell _ _=V at F ⊢;have aN:=F.drew;have bl:=bu F.blk;have K:V.drew.cell? ⟨B,1,none⟩=some (ah lm):=(aU (o:=1) aN.blk).trans rfl;have aW:=al (show ∀o:Obj,(V.alloc o).drew.cell? ⟨B,1,none⟩=some (ah lm)from λo=>(aU (o:=1) (F.alloc o).drew.blk).trans rfl);have aj:=al F;have v0:IntKind.i64.wrap ((lm:Int)-3)=lm-3:=IntWalk.i64_in _ U;clear F aN;go_wp2;go_region_held3 (λW=>W.cell? ⟨B,1,none⟩=some (ah lm))
  (first|with_reducible exact K|with_reducible exact aW.out _|with_reducible exact aR|with_reducible exact aS|with_reducible exact aT.out _)
  (first
   |(go_at_call 35;refine(CQ (A:=A) T (g+2+1+1) L U V.heap.size 0 3 3 Ty U _ (by exact(aj.out.alloc _).drew.rD) U (by exact Uf V 3)).mono ?_;rintro e aQ ⟨q,a8,rfl,aA,c⟩;have ar:=(aj.out.alloc _).drew.call aA c;have aR:aQ.cell? ⟨B,1,none⟩=some (ah lm):=(aU (o:=1) ar.blk).trans rfl;have hb:=Ug q;have v3:IntKind.i64.wrap ((lm:Int)+Ty q)=lm+Ty q:=IntWalk.i64_in _ U;have am:=al ar;clear aA c ar)
   |(go_at_call 13;refine(Bc (A:=A) T (g+2+1+1+1) L U (max 0 ((lm:Int)-3)) (min 119 ((lm:Int)+Ty q)) U aQ am.out.rD).mono ?_;rintro e aw ⟨fm,rfl,aZ,a0,aA,c⟩;have C:=am.out.call aA c;have aS:aw.cell? ⟨B,1,none⟩=some (ah lm):=(aU (o:=1) C.blk).trans rfl;have aT:=al (show ∀v,(aw.setCell ⟨B,3,none⟩ v).cell? ⟨B,1,none⟩=some (ah lm)from λv=>(aU (o:=1) (C.set 3 v).blk).trans rfl);have Y:=aU (o:=3) C.blk;have f3:=b3 (o:=3) C.blk;have aC:=al C;clear aA c C))
 all_goals (
  have G:=aC.out.set 3 (ah fm);have bj:fm<=119:=U;clear aj am aC K aW aR aS aT Y f3 v0 v3 aZ a0 a8 hb;generalize aw.setCell _ _=bc at G ⊢;have X:=aU (o:=1) G.blk;have Y:=aU (o:=3) G.blk;obtain⟨M,fG⟩:∃M:Nat,max (lm:Int) fm=(M:Int):=⟨max lm fm,U⟩
  obtain⟨N,gK⟩:∃N:Nat,min 119 ((M:Int)+n)=(N:Int):=⟨min 119 (M+n),U⟩
  have Z:=al G;clear G;go_upto_region 6 with(go_at_call 13;refine(Bc (A:=A) T (g+2+1+1+1+1) L U M N U bc Z.out.rD).mono ?_;rintro e bd ⟨u,rfl,a1,a2,aA,c⟩;have Q:=Z.out.call aA c;have z4:=aU (o:=4) Q.blk;have f4:=b3 (o:=4) Q.blk;have aD:=al Q;clear aA c Q)
  clear X Y;have f:=aD.out.set 4 (ah u);have a7:(⟨k,lm,i,fm,u⟩:h3).ok d:=⟨a4,I.1,by show i<120;omega,by show fm<=u;omega,by show u<120;omega,by show lm<=u;omega⟩
  clear Z aD z4 f4 a1 a2 fG gK;generalize bd.setCell _ _=bm at f ⊢;have bn:=aU (o:=0) f.blk;have X:=aU (o:=1) f.blk;have aX:=aU (o:=2) f.blk;have Y:=aU (o:=3) f.blk;have bo:=aU (o:=4) f.blk;have z0:=aU (o:=0) f.res;have ay:=aU (o:=1) f.res;have bp:=aU (o:=2) f.res;have z3:=aU (o:=3) f.res;have z4:=aU (o:=4) f.res;have f0:=b3 (o:=0) f.res;have f1:=b3 (o:=1) f.res;have f2:=b3 (o:=2) f.res;have f3:=b3 (o:=3) f.res;have f4:=b3 (o:=4) f.res;have ad:=al f;clear f;go_wp2;have H:T≠w.heap.size+1:=U;refine bodyPost_ret (results_cell_row rfl _ _ (w.heap.size+1) 31 (⟨k,lm,i,fm,u⟩:h3).a (0,0) _ rfl (Ur ad.out.res) (ao.underlying54 A) rfl To) rfl ?_;exact⟨⟨k,lm,i,fm,u⟩,rfl,a7,TE (TE (TE (TE (TE ad.out.rD H J.out) H J.out) H J.out) H J.out) H J.out,TI (TI (TI (TI (TI ad.out.fY U) U) U) U) U⟩)
end
end Go.aO
