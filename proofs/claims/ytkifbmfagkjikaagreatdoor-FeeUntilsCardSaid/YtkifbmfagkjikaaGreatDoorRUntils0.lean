/- A part of FeeUntils: no conditions. -/
import Derived.Test.YtkifbmfagkjikaaGreatDoorP31
import Derived.Test.YtkifbmfagkjikaaGreatDoorP39
import Derived.Test.YtkifbmfagkjikaaGreatDoorP46
set_option maxHeartbeats 8000000
set_option maxRecDepth 100000
set_option linter.all false
namespace Go.aO
open Go.Proofs Go.RowKit
section
variable{A:Array Func}
def Tx[S:Std A](d:dw)(fit:d.fit)(p:gz)(w:World)(h:iZ w d p)(ar:jY d≠0):
 Calls (ao A) 28 #[.agg (eB d p),.slice none 0 0] w λe w'=>e=.returned (.tuple #[.pointer none,.int .i64 (jY d)])/\w.grownBy w' none:=by
 have b8:=dU w (.cells (eB d p) 25) none;have i:=al (ID (A:=A) d fit p _ (h.keep b8));have g:=al b8;obtain⟨c,f⟩:∃c,c=jY d:=⟨_,rfl⟩
 have m:(c == 0)=false:=by rw[f];simpa using ar
 have n:decide (c=0)=false:=by rw[f];simpa using ar
 have j:=al f;rw[<-f];clear h b8 f ar;go_enter (S.f Tryz.func28),Tryz.ntmps28;go_wp2_with (go_at_call 53;refine i.out.mono ?_;rintro e w2 ⟨rfl,ag⟩;rw[<-j.out];have l:=al ag;clear ag)
 go_ret2
 exact⟨rfl,g.out.trans l.out⟩
def Tp[S:Std A](b o n c:Nat)(ak:n<=8)(w:World)(num most bq:Nat->Int)(aT:∀i,i<n->w.cell? ⟨b,o+i*3,none⟩=some (.int .i64 (num i)))(I:∀i,i<n->w.cell? ⟨b,o+i*3+1,none⟩=some (.int .i64 (most i)))(J:∀i,i<n->w.cell? ⟨b,o+i*3+2,none⟩=some (.int .i64 (bq i)))(j:Nat)(aI:j<n)(hb:∀i,i<j->0<=num i/\num i<=most i)(l:¬(0<=num j/\num j<=most j)):
 Calls (ao A) 30 #[.slice (some ⟨b,o,none⟩) n c] w λe w'=>e=.returned (.iface 143 (.agg #[.int .i64 (bq j)]))/\w.grownBy w' none:=by
 have ek:=al aT;have f:=al I;have g:=al J;clear aT I J;go_enter (S.f Tryz.func30),Tryz.ntmps30;go_wp2;go_loopw [7] (λi wr=>∃k:Nat,k<=j/\i=.int .i64 k/\w.grownBy wr none) (λi _=>n-(TH i).toNat)
 case atStart=>exact⟨0,U,by go_num,e6 _ _⟩
 case round=>
  obtain⟨k,aa,rfl,ag⟩:=hrel;have aS:k<n:=U;have bx:=ag.cell (ek.out k aS) aF;have c1:=ag.cell (f.out k aS) aF;have c2:=ag.cell (g.out k aS) aF;have d:=al ag;clear ag;by_cases h:k<j
  .have au:=hb k h
   have bB:decide (0<=num k/\num k<=most k)=true:=by simp[au.1,au.2]
   go_wp2_with (go_at_call 57;refine(ku _ _ _ _).mono ?_;rintro e w' ⟨rfl,rfl⟩;rw[bB])
   go_roundw
   case rel=>exact⟨k+1,U,by go_num,d.out.trans bT⟩
   case measure=>simp[TH];omega
  .obtain rfl:k=j:=U
   have bB:decide (0<=num k/\num k<=most k)=false:=decide_eq_false l;go_wp2_with (go_at_call 57;refine(ku _ _ _ _).mono ?_;rintro e w' ⟨rfl,rfl⟩;rw[bB])
   go_ret;exact⟨rfl,d.out.trans bT⟩
def To[S:Std A](w:World)(cT dx f0 d fG f1 g gK f2:Int)(b c:Nat)(hb:w.heap[b]?=some (.cells #[.int .i64 cT,.int .i64 dx,.int .i64 f0,.int .i64 d,.int .i64 fG,.int .i64 f1,.int .i64 g,.int .i64 gK,.int .i64 f2] 97))(f:Int)(l:(¬(0<=cT/\cT<=dx)/\f=f0)\/((0<=cT/\cT<=dx)/\¬(0<=d/\d<=fG)/\f=f1)\/((0<=cT/\cT<=dx)/\(0<=d/\d<=fG)/\¬(0<=g/\g<=gK)/\f=f2)):
 Calls (ao A) 30 #[.slice (some ⟨b,0,none⟩) 3 c] w λe w'=>e=.returned (.iface 143 (.agg #[.int .i64 f]))/\w.grownBy w' none:=by
 have H:=λj aI dk m=>Tp (A:=A) b 0 3 c U w (λi=>match i with|0=>cT|1=>d|_=>g) (λi=>match i with|0=>dx|1=>fG|_=>gK) (λi=>match i with|0=>f0|1=>f1|_=>f2)
  (λi ad=>by rw[aU hb];rcases i with _|_|_|i<;>first|rfl|omega) (λi ad=>by rw[aU hb];rcases i with _|_|_|i<;>first|rfl|omega) (λi ad=>by rw[aU hb];rcases i with _|_|_|i<;>first|rfl|omega) j aI dk m
 rcases l with⟨h,rfl⟩|⟨aT,h,rfl⟩|⟨aT,I,h,rfl⟩
 .exact H 0 U (λi ad=>U) h
 .exact H 1 U (λi ad=>by obtain rfl:i=0:=U;exact aT) h
 .refine H 2 U (λi ad=>?_) h
  rcases i with _|_|i
  .exact aT
  .exact I
  .omega
def S9(d:dw)(kind left cm:Int):Int×Int:=
 if jY d≠0 then(0,jY d)else if ¬(0<=kind/\kind<=d.kinds-1)then(0,3)else if ¬(0<=left/\left<=119)\/¬(0<=cm/\cm<=999)then(0,1)else if d.first kind.toNat>cm then(0,11)
 else((l' (λf=>ha (d.first kind.toNat) (cX d.nC kind.toNat) left.toNat f) cm.toNat 120 left.toNat:Nat),0)
def TF[S:Std A][P:hA A][N:Hi A](d:dw)(fit:d.fit)(p:gz)(kind left cm:Int)(w:World)(h:iZ w d p)(ar:jY d≠0):
 Calls (ao A) 10 #[.agg (eB d p),.int .i64 kind,.int .i64 left,.int .i64 cm] w λe w'=>e=.returned (.tuple #[.int .i64 0,.int .i64 (jY d)])/\w.grownBy w' none:=by
 have b8:=dU w (.cells (eB d p) 25) none;have l:=al (Tx (A:=A) d fit p _ (h.keep b8) ar);have g:=al b8;obtain⟨c,f⟩:∃c,c=jY d:=⟨_,rfl⟩
 have m:(c == 0)=false:=by rw[f];simpa using ar
 have n:decide (c=0)=false:=by rw[f];simpa using ar
 have i:=al f;rw[<-f];clear h b8 f ar;go_enter (S.f Tryz.func10),Tryz.ntmps10;go_wp2;refine wp_scope_jumps 0 (λ_ _=>False) (λ_ _=>0) rfl ?_ ?_
 .go_wp2_with (go_at_call 28;refine l.out.mono ?_;rintro e w2 ⟨rfl,ag⟩;rw[<-i.out];have j:=al ag;clear ag)
  simp only[Exit.jump];go_ret2
  exact⟨rfl,g.out.trans j.out⟩
 .intro bd w' aI
  exact aI.elim
def Te[S:Std A][P:hA A][N:Hi A](d:cC)(ok:d.ok)(p:eg)(kind left cm:Int)(w:World)(h:e' w d p)(f c:Int)(z:(f,c)∈pQ)(ar:c≠0)(l:(¬(0<=kind/\kind<=(d.kinds:Int)-1)/\f=0)\/((0<=kind/\kind<=(d.kinds:Int)-1)/\¬(0<=left/\left<=119)/\f=2)\/((0<=kind/\kind<=(d.kinds:Int)-1)/\(0<=left/\left<=119)/\¬(0<=cm/\cm<=999)/\f=3)):
 Calls (ao A) 10 #[.agg (dv d p),.int .i64 kind,.int .i64 left,.int .i64 cm] w λe w'=>e=.returned (.tuple #[.int .i64 0,.int .i64 c])/\w.grownBy w' none:=by
 have ax:=ok.kinds;have g:w.grownBy (w.alloc (.cells (dv d p) 25)) none:=bT;have y:=al (Ab (A:=A) d ok p _ (h.keep g));have m:=al g;have o:=al λ(w:World) (b c:Nat) hb=>To (A:=A) w kind (d.kinds-1) 0 left 119 2 cm 999 3 b c hb f l
 have u:=al λ(w:World)=>N.iy f c w z
 have D:(c == 0)=false:=by simpa using ar
 have E:decide (c=0)=false:=by simpa using ar
 clear g h l;go_enter (S.f Tryz.func10),Tryz.ntmps10;go_wp2;refine wp_scope_jumps 0 (λ_ _=>False) (λ_ _=>0) rfl ?_ ?_
 .go_wp2_with (first|(go_at_call 28;refine y.out.mono ?_;rintro e w3 ⟨T,rfl,a',hb,ag⟩;have t0:w3.cell? ⟨T,0,none⟩=some (.int .i64 d.kinds):=(aU hb).trans rfl;have q:=al ag;clear hb ag a')|(go_at_call 30;refine(o.out _ _ _ (fM _ _)).mono ?_;rintro e B ⟨rfl,i⟩;have r:=al i;clear i)|(go_at_call 29;refine(u.out _).mono ?_;rintro e C ⟨rfl,j⟩;clear t0;have n:=al (((dU w3 _ _).trans r.out).trans j);clear j))
  simp only[Exit.jump];go_ret2
  exact⟨rfl,m.out.trans (q.out.trans n.out)⟩
 .intro bd w' aI
  exact aI.elim
def TD[S:Std A][P:hA A](d:cC)(ok:d.ok)(p:eg)(k:Nat)(aa:k<d.kinds)(left:Nat)(aj:left<120)(cm:Nat)(hp:cm<=999)(D:(cm:Int)<d.first k)(w:World)(h:e' w d p):
 Calls (ao A) 10 #[.agg (dv d p),.int .i64 k,.int .i64 left,.int .i64 cm] w λe w'=>e=.returned (.tuple #[.int .i64 0,.int .i64 11])/\w.grownBy w' none:=by
 have ax:=ok.kinds;have i:w.grownBy (w.alloc (.cells (dv d p) 25)) none:=bT;have z:=al (Ab (A:=A) d ok p _ (h.keep i));have l:=al i;have H:=al h;clear i h;have B:=al λ(T:Nat) (w3:World) (a':(w.alloc (.cells (dv d p) 25)).heap.size<=T) (hb:w3.heap[T]?=some (.cells (nD d p) 94)) (ag:(w.alloc (.cells (dv d p) 25)).grownBy w3 none)=>
  sO ok (H.out.keep l.out) a' hb ag
 have y:=al (v' (A:=A));have q:=al λ(w:World) (b c:Nat) hb=>HH (A:=A) w k (d.kinds-1) 0 left 119 2 cm 999 3 U U U b c hb
 have E:decide (d.first k>(cm:Int))=true:=cH;go_enter (S.f Tryz.func10),Tryz.ntmps10;go_wp2;refine wp_scope_jumps 0 (λ_ _=>False) (λ_ _=>0) rfl ?_ ?_
 .go_wp2_with (first|(go_at_call 28;refine z.out.mono ?_;rintro e w3 ⟨T,rfl,a',hb,ag⟩;have t0:w3.cell? ⟨T,0,none⟩=some (.int .i64 d.kinds):=(aU hb).trans rfl;have g:=al (B.out T w3 a' hb ag);have r:=al ag;clear hb ag a')|(go_at_call 30;refine(q.out _ _ _ (fM _ _)).mono ?_;rintro e F ⟨rfl,m⟩;have u:=al m;clear m)|(go_at_call 29;refine(y.out _).mono ?_;rintro e G ⟨rfl,n⟩;clear t0;have j:=((dU w3 _ _).trans u.out).trans n;have f:=g.out.1.more ok g.out.2.2.1 g.out.2.2.2 j;have t1:=f.k5;have t2:=f.tf.first k aa;have C:=al f;have o:=al j;clear f j n))
  simp only[Exit.jump];go_ret2
  exact⟨rfl,l.out.trans (r.out.trans o.out)⟩
 .intro bd w' aI
  exact aI.elim
def TG[S:Std A][P:hA A][N:Hi A](d:dw)(fit:d.fit)(p:gz)(kind left cm:Int)(w:World)(h:iZ w d p):
 Calls (ao A) 10 #[.agg (eB d p),.int .i64 kind,.int .i64 left,.int .i64 cm] w λe w'=>e=.returned (.tuple #[.int .i64 (S9 d kind left cm).1,.int .i64 (S9 d kind left cm).2])/\w.grownBy w' none:=by
 by_cases ar:jY d=0;rotate_left
 .have e:S9 d kind left cm=(0,jY d):=if_pos ar
  rw[e];exact TF d fit p kind left cm w h ar
 obtain⟨ok,_,g,_⟩:=IB ar;obtain⟨c,f,a'⟩:=h.tf ar;rw[f];have c8:S9 d kind left cm=_:=if_neg U;rw[c8];have i:=ok.kinds;by_cases I:0<=kind/\kind<=d.kinds-1;rotate_left
 .rw[if_pos I]
  exact Te d.nC ok c kind left cm w a' 0 3 a6 U (.inl ⟨U,rfl⟩)
 rw[if_neg U];by_cases J:0<=left/\left<=119;rotate_left
 .rw[if_pos (.inl J)]
  exact Te d.nC ok c kind left cm w a' 2 1 a6 U (.inr (.inl ⟨U,J,rfl⟩))
 by_cases ax:0<=cm/\cm<=999;rotate_left
 .rw[if_pos (.inr ax)]
  exact Te d.nC ok c kind left cm w a' 3 1 a6 U (.inr (.inr ⟨U,J,ax,rfl⟩))
 rw[if_neg U];obtain⟨k,rfl⟩:∃k:Nat,kind=k:=⟨kind.toNat,U⟩
 obtain⟨l,rfl⟩:∃k:Nat,left=k:=⟨left.toNat,U⟩
 obtain⟨m,rfl⟩:∃k:Nat,cm=k:=⟨cm.toNat,U⟩
 simp only[Int.toNat_natCast];by_cases aZ:d.first k>m
 .rw[if_pos aZ]
  exact TD d.nC ok c k U l U m U aZ w a'
 .rw[if_neg aZ]
  exact RJ d.nC ok c k U l U m U (by show d.first k<=m;omega) w a'
def Tk[S:Std A](d:dw)(fit:d.fit)(p:gz)(kind:Int)(w:World)(h:iZ w d p):
 Calls (ao A) 34 #[.agg (eB d p),.int .i64 kind] w λe w'=>e=.returned (.int .i64 (if jY d≠0 then jY d else if 0<=kind/\kind<=d.kinds-1 then 0 else 3))/\w.grownBy w' none:=by
 have b8:=dU w (.cells (eB d p) 25) none;have l:=al (S0 (A:=A) d fit p _ (h.keep b8));have j:=al b8;clear h b8;obtain⟨c,f⟩:∃c,c=jY d:=⟨_,rfl⟩
 by_cases ar:c=0
 .have aa:=IB (f.symm.trans ar)
  have o:=aa.1.kinds;have n:=aa.2.2.1;rw[<-f,if_neg U];subst ar;have c8:∀w2:World,(w.alloc (.cells (eB d p) 25)).grownBy w2 none->w2.cell? ⟨w.heap.size,0,none⟩=some (.int .i64 d.kinds):=λw2 ag=>ag.cell (a:=⟨w.heap.size,0,none⟩) (dR rfl) aF
  have m:=al c8;have i:=al f;have q:IntKind.i64.wrap (d.kinds-1)=d.kinds-1:=IntWalk.i64_in _ U;clear f aa c8 n;by_cases I:0<=kind/\kind<=d.kinds-1
  .have ax:decide (0<=kind/\kind<=d.kinds-1)=true:=decide_eq_true I
   rw[if_pos I];go_enter (S.f Tryz.func34),Tryz.ntmps34;go_wp2_with (first|(go_at_call 61;refine l.out.mono ?_;rintro e w2 ⟨rfl,ag⟩;rw[<-i.out];have ay:=m.out w2 ag;have g:=al ag;clear ag)|(go_at_call 35;refine(nh _ _ _ _).mono ?_;rintro e w' ⟨rfl,rfl⟩;rw[ax]))
   go_ret;exact⟨rfl,j.out.trans g.out⟩
  .have ax:decide (0<=kind/\kind<=d.kinds-1)=false:=decide_eq_false I
   rw[if_neg I];go_enter (S.f Tryz.func34),Tryz.ntmps34;go_wp2_with (first|(go_at_call 61;refine l.out.mono ?_;rintro e w2 ⟨rfl,ag⟩;rw[<-i.out];have ay:=m.out w2 ag;have g:=al ag;clear ag)|(go_at_call 35;refine(nh _ _ _ _).mono ?_;rintro e w' ⟨rfl,rfl⟩;rw[ax]))
   go_ret;exact⟨rfl,j.out.trans g.out⟩
 .have r:(c == 0)=false:=by simpa using ar
  have u:decide (c=0)=false:=by simpa using ar
  rw[<-f,if_pos ar];have i:=al f;clear f;go_enter (S.f Tryz.func34),Tryz.ntmps34;go_wp2_with (go_at_call 61;refine l.out.mono ?_;rintro e w2 ⟨rfl,ag⟩;rw[<-i.out];have g:=al ag;clear ag)
  go_ret;exact⟨rfl,j.out.trans g.out⟩
def Tl{d:cC}{k day:Nat}:∀n,(∃i,i<n/\d.free i=day)->te d k n day=0
 | 0,⟨i,h,_⟩=>U
 |n+1,⟨i,h,e⟩=>by
  unfold te;by_cases c:d.free n=day
  .rw[if_pos c]
  .rw[if_neg c]
   refine Tl n ⟨i,?_,e⟩;rcases Nat.lt_succ_iff_lt_or_eq.1 h with y|rfl
   .exact y
   .exact absurd e c
def Tm{d:cC}{k day:Nat}:∀n,(¬∃i,i<n/\d.free i=day)->te d k n day=mQ d k d.bk day
 | 0,_=>rfl
 |n+1,h=>by unfold te;rw[if_neg (λe=>h ⟨n,U,e⟩)];exact Tm n λ⟨i,ad,e⟩=>h ⟨i,U,e⟩
def Tz[S:Std A](d:cC)(ok:d.ok)(p:eg)(k:Nat)(aa:k<d.kinds)(day:Nat)(w:World)(h:e' w d p):
 Calls (ao A) 62 #[.agg (dv d p),.int .i64 k,.int .i64 day] w λe w'=>e=.returned (.int .i64 (cX d k day))/\w.grownBy w' none:=by
 have R:=ok.bk;have T:=ok.b';have Q:=ok.kinds;have b8:=dU w (.cells (dv d p) 25) none;have ek:=al (h.keep b8);have q:=al b8;have second:∀f:(¬∃i,i<d.b'/\d.free i=day),cX d k day=mQ d k d.bk day:=λf=>Tm _ f
 have L:=al second;have F:=al (λh=>show cX d k day=0 from Tl d.b' h);have M:(w.alloc (.cells (dv d p) 25)).cell? ⟨w.heap.size,2,none⟩=some (.slice (some ⟨p.fV,p.gU,none⟩) d.bk p.dq):=dR rfl;have B:(w.alloc (.cells (dv d p) 25)).cell? ⟨w.heap.size,3,none⟩=some (.slice p.ei d.b' p.dc):=dR rfl;obtain⟨E,r⟩:∃E,E=w.alloc (.cells (dv d p) 25):=⟨_,rfl⟩
 rw[<-r]at ek q M B;have H:=al r;clear b8 second h r;go_enter (S.f Tryz.func62),Tryz.ntmps62;go_wp2;try (rw[<-H.out])
 go_loop [7] (λi=>∃m:Nat,m<=d.b'/\i=.int .i64 m/\∀j,j<m->d.free j≠day) (λi=>d.b'-(TH i).toNat)
 case atStart=>exact⟨0,U,by go_num,λj aI=>U⟩
 case round=>
  obtain⟨m,hm,rfl,f⟩:=hrel;have z:=al f;clear f;by_cases aS:m<d.b'
  .have l:decide ((m:Int)<d.b')=true:=by simpa using aS
   obtain⟨b,o,e,ak⟩:=ek.out.free U;have I:=ak m aS;rw[e]at B;clear ak e;have P:(m:Int)<(d.b':Int):=U;by_cases g:d.free m=day
   .have u:(d.free m == (day:Int))=true:=by simpa using g
    have D:=F.out ⟨m,aS,g⟩;have K:=al D;clear D g;go_wp2;go_ret;exact⟨hR K.out,q.out⟩
   .have u:(d.free m == (day:Int))=false:=by simpa using g
    go_wp2;go_round
    case rel=>exact⟨m+1,U,by go_num,λj aI=>by
     rcases Nat.lt_or_ge j m with y|y
     .exact z.out j y
     .rw[show j=m by omega];exact g⟩
    case measure=>simp[TH];omega
  .have l:decide ((m:Int)<d.b')=false:=by simpa using aS
   have C:=L.out (λ⟨i,ad,e⟩=>z.out i U e);have G:=al C;clear C;go_wp2;clear l;go_loop [8,9] (λout i=>∃m:Nat,m<=d.bk/\i=.int .i64 m/\out=.int .i64 (mQ d k m day)) (λ_ i=>d.bk-(TH i).toNat)
   case atStart=>exact⟨0,U,by go_num,rfl⟩
   case round=>
    obtain⟨m,hm,rfl,rfl⟩:=hrel;by_cases aS:m<d.bk
    .have l:decide ((m:Int)<d.bk)=true:=by simpa using aS
     have I:=ek.out.bV m aS;have J:=ek.out.rows m aS;have ax:=ek.out.cQ m aS k aa;have P:(m:Int)<(d.bk:Int):=U;have V:(k:Int)<(d.kinds:Int):=U;by_cases aD:d.bV m<=day
     .have u:decide (d.bV m<=(day:Int))=true:=decide_eq_true aD
      have c:mQ d k (m+1) day=d.cQ m k:=if_pos aD;have n:=al c;clear c;go_wp2;go_round
      case rel=>exact⟨m+1,U,by go_num,by rw[n.out]⟩
      case measure=>simp[TH];omega
     .have u:decide (d.bV m<=(day:Int))=false:=decide_eq_false aD
      have c:mQ d k (m+1) day=mQ d k m day:=if_neg aD;have n:=al c;clear c;go_wp2;go_round
      case rel=>exact⟨m+1,U,by go_num,by rw[n.out]⟩
      case measure=>simp[TH];omega
    .obtain rfl:m=d.bk:=U
     have l:decide ((d.bk:Int)<d.bk)=false:=aF;go_wp2;go_ret;exact⟨hR G.out,q.out⟩
def Ty[S:Std A](d:cC)(ok:d.ok)(p:eg)(k:Nat)(aa:k<d.kinds)(left aP:Nat)(aj:left<120)(aD:aP<120)(w:World)(h:e' w d p):
 Calls (ao A) 36 #[.agg (dv d p),.int .i64 k,.int .i64 left,.int .i64 aP] w λe w'=>e=.returned (.int .i64 (ha (d.first k) (cX d k) left aP))/\w.grownBy w' none:=by
 have D:=ok.kinds;have E:(k:Int)<(d.kinds:Int):=U;have C:=ok.first k aa
 have b8:=dU w (.cells (dv d p) 25) none;have ek:=al (h.keep b8);have m:=al b8;have l:=al (show ∀W:World,(w.alloc (.cells (dv d p) 25)).grownBy W none->W.heap[w.heap.size]?=some (.cells (dv d p) 25)from λW g=>(g.block _ aF aF).trans (fM _ _));have hb:∀j,0<=cX d k j/\cX d k j<=1000000:=λj=>by have:=ql ok aa j;omega
 have n:=al (λj=>ql ok aa j);have r:=al (λ(day:Nat) (w:World) h=>Tz (A:=A) d ok p k aa day w h);have c1:=(h.keep b8).first k aa
 clear h b8;generalize aA:cX d k=bj at *;clear aA;go_enter (S.f Tryz.func36),Tryz.ntmps36;go_wp2;clear c1;go_loopw [9,10] (λs v wr=>∃j:Nat,v=.int .i64 j/\left / 24+1<=j/\(j<=aP / 24+1\/j=left / 24+1)/\s=.int .i64 (d.first k+ks bj (left / 24+1) (j-(left / 24+1)))/\(w.alloc (.cells (dv d p) 25)).grownBy wr none) (λ_ v _=>aP / 24+1-(TH v).toNat)
 case atStart=>exact⟨left / 24+1,aF,bg,.inr rfl,by simp[ks],e6 _ _⟩
 case round=>
  obtain⟨j,rfl,I,J,rfl,ag⟩:=hrel;have y:=Gm hb (left / 24+1) (j-(left / 24+1));have B:j-(left / 24+1)<=6:=U;generalize i:ks bj (left / 24+1) (j-(left / 24+1))=F at y ⊢;have f:=al i;clear i;have c:=al ag;have e:=l.out _ ag;have G:=(aU (o:=0) e).trans rfl;have H:=(aU (o:=1) e).trans rfl;have K:=(aU (o:=2) e).trans rfl;have L:=(aU (o:=3) e).trans rfl;have u:=al (ek.out.keep ag);clear ag e;by_cases aS:j<=aP / 24
  .have z:=n.out j
   go_wp2_with (go_at_call 62;refine(r.out j _ u.out).mono ?_;rintro e w2 ⟨rfl,ag⟩;have q:=al (c.out.trans ag);clear ag)
   go_roundw
   case rel=>
    refine⟨j+1,by go_num,U,U,?_,q.out⟩;have e:j+1-(left / 24+1)=j-(left / 24+1)+1:=U;rw[e,ks,f.out,show left / 24+1+(j-(left / 24+1))=j by omega];go_num
   case measure=>simp[TH];omega
  .go_wp2
   go_ret;refine⟨?_,m.out.trans c.out⟩;rw[ha,<-f.out,show j-(left / 24+1)=aP / 24-left / 24 by omega];rfl
def S8(g:Nat->Int)(cm:Int)(left:Nat):Nat->Int
 | 0=>-1
 |n+1=>if g (left+n)<=cm then((left+n:Nat):Int)else S8 g cm left n
def Tg{g:Nat->Int}{cm:Int}{left:Nat}:∀n,-1<=S8 g cm left n/\S8 g cm left n<left+n
 | 0=>by simp only[S8];omega
 |n+1=>by
  rw[S8];split
  .omega
  .have:=Tg (g:=g) (cm:=cm) (left:=left) n;omega
def Ti{g:Nat->Int}{cm:Int}{left r:Nat}(I:left<=r)(J:g r<=cm):∀n,r<left+n->(∀f,r<f->f<left+n->cm<g f)->S8 g cm left n=r
 | 0,h,_=>U
 |n+1,h,ax=>by
  rw[S8];rcases Nat.lt_or_ge r (left+n)with x|x
  .rw[if_neg (by have:=ax (left+n) x U;omega)]
   exact Ti I J n x λf a b=>ax f a U
  .have:r=left+n:=U
   rw[<-this,if_pos J]
def Tj{g:Nat->Int}{cm:Int}{left:Nat}:∀n,(∀f,left<=f->f<left+n->cm<g f)->S8 g cm left n = -1
 | 0,_=>rfl
 |n+1,h=>by rw[S8,if_neg (by have:=h (left+n) U U;omega)];exact Tj n λf a b=>h f a U
def Tn(g:Nat->Int)(cm:Int):∀n h:Nat,h<120->120<=n+h->g h<=cm->h<=l' g cm n h/\l' g cm n h<120/\g (l' g cm n h)<=cm/\(l' g cm n h<119->cm<g (l' g cm n h+1))
 | 0,h,c,ak,_=>U
 |n+1,h,c,ak,ag=>by
  unfold l';by_cases af:h+1<120/\g (h+1)<=cm
  .rw[if_pos af]
   have:=Tn g cm n (h+1) af.1 U af.2;exact⟨U,this.2.1,this.2.2.1,this.2.2.2⟩
  .rw[if_neg af]
   exact⟨bg,c,ag,λeo=>by
    rcases Int.lt_or_le cm (g (h+1))with x|x
    .exact x
    .exact absurd ⟨U,x⟩ af⟩
def Tc{g:Nat->Int}{left:Nat}(hm:∀f,left<=f->g f<=g (f+1)){a:Nat}(ae:left<=a):∀n,g a<=g (a+n)
 | 0=>Int.le_refl _
 |n+1=>Int.le_trans (Tc hm ae n) (hm (a+n) U)
def TE{g:Nat->Int}{cm:Int}{left:Nat}(aj:left<120)(hm:∀f,left<=f->g f<=g (f+1))(h:g left<=cm):S8 g cm left (120-left)=(l' g cm 120 left:Nat):=by
 obtain⟨I,J,ax,aZ⟩:=Tn g cm 120 left aj U h;refine Ti I ax _ U λf a b=>?_
 have bs:=aZ U;have:=Tc hm (show left<=l' g cm 120 left+1 by omega) (f-(l' g cm 120 left+1));rw[show l' g cm 120 left+1+(f-(l' g cm 120 left+1))=f by omega]at this;omega
def Tq{d:cC}(ok:d.ok){k:Nat}(aa:k<d.kinds){left:Nat}:∀f,left<=f->ha (d.first k) (cX d k) left f<=ha (d.first k) (cX d k) left (f+1):=λf aD=>by
 unfold ha;rcases Nat.lt_or_ge (f / 24) ((f+1) / 24)with x|x
 .rw[show(f+1) / 24-left / 24=(f / 24-left / 24)+1 by omega]
  simp only[ks];have:=ql ok aa (left / 24+1+(f / 24-left / 24));omega
 .rw[show(f+1) / 24=f / 24 by omega]
  exact Int.le_refl _
def Tf{f:Int}{t:Nat->Int}{left:Nat}:ha f t left left=f:=by unfold ha;rw[Nat.sub_self];simp[ks]
def TC{d:dw}(ar:jY d=0){k left cm:Nat}(aa:(k:Int)<=d.kinds-1)(aj:left<120)(hp:cm<=999):
 S9 d k left cm=(if S8 (λf=>ha (d.first k) (cX d.nC k) left f) cm left (120-left)<0 then(0,11)else(S8 (λf=>ha (d.first k) (cX d.nC k) left f) cm left (120-left),0)):=by
 obtain⟨ok,_,j,_⟩:=IB ar;have i:k<d.nC.kinds:=U;unfold S9;rw[if_neg U,if_neg U,if_neg U];simp only[Int.toNat_natCast];have c:=Tq ok i (left:=left);by_cases h:d.first k>cm
 .rw[if_pos h,Tj (120-left) λf a b=>?_]
  .rfl
  .have:=Tc (g:=λf=>ha (d.first k) (cX d.nC k) left f) c (Nat.le_refl left) (f-left)
   rw[show left+(f-left)=f by omega]at this;have e:ha (d.first k) (cX d.nC k) left left=d.first k:=Tf
   have this:ha (d.first k) (cX d.nC k) left left<=ha (d.first k) (cX d.nC k) left f:=this;rw[e]at this;show(cm:Int)<ha (d.first k) (cX d.nC k) left f;omega
 .rw[if_neg h,TE (g:=λf=>ha (d.first k) (cX d.nC k) left f) aj c (by show ha (d.first k) (cX d.nC k) left left<=cm;rw[Tf];omega),if_neg U]
def TA[S:Std A](d:dw)(fit:d.fit)(p:gz)(ar:jY d=0)(k left cm:Nat)(aa:(k:Int)<=d.kinds-1)(aj:left<120)(hp:cm<=999)(w:World)(h:iZ w d p):
 Calls (ao A) 11 #[.agg (eB d p),.int .i64 k,.int .i64 left,.int .i64 cm] w λe w'=>e=.returned (.tuple #[.int .i64 (S9 d k left cm).1,.int .i64 (S9 d k left cm).2])/\w.grownBy w' none:=by
 obtain⟨ok,_,P,_⟩:=IB ar;have M:k<d.nC.kinds:=U;have L:=al (TC ar aa aj hp);have b8:=dU w (.cells (eB d p) 25) none;have I:=al (Tk (A:=A) d fit p k _ (h.keep b8));have F:(if jY d≠0 then jY d else if (0:Int)<=k/\(k:Int)<=d.kinds-1 then 0 else 3)=0:=by rw[if_neg U,if_pos U]
 have J:=al F;obtain⟨D,l,a'⟩:=(h.keep b8).tf ar;have q:=al b8;have K:=al a';have G:=al (show ∀W:World,(w.alloc (.cells (eB d p) 25)).grownBy W none->W.heap[w.heap.size]?=some (.cells (dv d.nC D) 25)from λW g=>by rw[<-l];exact(g.block _ aF aF).trans (fM _ _));have Q:=al l;have r:=al (λ(f:Nat) (aD:f<120) (w:World) h=>Ty (A:=A) d.nC ok D k M left f aj aD w h);have ax:decide ((0:Int)<=left/\(left:Int)<=119)=true:=cH;have aZ:decide ((0:Int)<=cm/\(cm:Int)<=999)=true:=cH;obtain⟨g,ag⟩:∃g:Nat->Int,g=λf=>ha (d.first k) (cX d.nC k) left f:=⟨_,rfl⟩
 have u:=al ag;clear h b8 F l a' ag P;go_enter (S.f Tryz.func11),Tryz.ntmps11;go_upto_region 7 with(first|(go_at_call 34;refine I.out.mono ?_;rintro e w2 ⟨rfl,ag⟩;rw[J.out];have H:=al ag;clear ag)|(go_at_call 35;refine(nh _ _ _ _).mono ?_;rintro e w' ⟨rfl,rfl⟩;(first|rw[ax]|rw[aZ])))
 go_wp2;go_loopw [11,12] (λout i wr=>∃f:Nat,left<=f/\f<=120/\i=.int .i64 f/\out=.int .i64 (S8 g cm left (f-left))/\(w.alloc (.cells (eB d p) 25)).grownBy wr none) (λ_ i _=>120-(TH i).toNat)
 case atStart=>exact⟨left,bg,U,by go_num,by rw[Nat.sub_self];rfl,H.out⟩
 case round=>
  obtain⟨f,T,aD,rfl,rfl,ag⟩:=hrel;have c:=al ag;by_cases aS:f<120
  .have V:decide ((f:Int)<120)=true:=cH
   have e:=G.out _ ag;have X:=(aU (o:=0) e).trans rfl;have Y:=(aU (o:=1) e).trans rfl;have Z:=(aU (o:=2) e).trans rfl;have ad:=(aU (o:=3) e).trans rfl;have B:=al (K.out.keep ag);clear ag e;have E:ha (d.nC.first k) (cX d.nC k) left f=g f:=by rw[u.out];rfl
   have y:=al E;have ak:S8 g cm left (f+1-left)=if g f<=cm then(f:Int)else S8 g cm left (f-left):=by rw[show f+1-left=(f-left)+1 by omega,S8,show left+(f-left)=f by omega]
   have z:=al ak;clear E ak;by_cases hle:g f<=cm
   .have n:decide (g f<=(cm:Int))=true:=decide_eq_true hle
    go_wp2_with (go_at_call 36;refine(r.out f aS _ B.out).mono ?_;rintro e w3 ⟨rfl,ag⟩;rw[y.out];have j:=al (c.out.trans ag);clear ag)
    go_roundw
    case rel=>exact⟨f+1,U,U,by go_num,by rw[z.out,if_pos hle],j.out⟩
    case measure=>simp[TH];omega
   .have n:decide (g f<=(cm:Int))=false:=decide_eq_false hle
    go_wp2_with (go_at_call 36;refine(r.out f aS _ B.out).mono ?_;rintro e w3 ⟨rfl,ag⟩;rw[y.out];have j:=al (c.out.trans ag);clear ag)
    go_roundw
    case rel=>exact⟨f+1,U,U,by go_num,by rw[z.out,if_neg U],j.out⟩
    case measure=>simp[TH];omega
  .obtain rfl:f=120:=U
   have R:=Tg (g:=g) (cm:=cm) (left:=left) (120-left);have hu:S9 d k left cm=(if S8 g cm left (120-left)<0 then(0,11)else(S8 g cm left (120-left),0)):=by rw[L.out,u.out]
   have C:=al hu;clear hu;generalize S8 g cm left (120-left)=x at *;by_cases m:x<0
   .have n:decide (x<0)=true:=decide_eq_true m
    go_wp2;go_ret2
    refine⟨?_,q.out.trans c.out⟩;rw[C.out,if_pos m];rfl
   .have n:decide (x<0)=false:=decide_eq_false m
    go_wp2;go_ret2
    refine⟨?_,q.out.trans c.out⟩;rw[C.out,if_neg U];rfl
def TB[S:Std A](d:dw)(fit:d.fit)(p:gz)(kind left cm:Int)(w:World)(h:iZ w d p):
 Calls (ao A) 11 #[.agg (eB d p),.int .i64 kind,.int .i64 left,.int .i64 cm] w λe w'=>e=.returned (.tuple #[.int .i64 (S9 d kind left cm).1,.int .i64 (S9 d kind left cm).2])/\w.grownBy w' none:=by
 have b8:=dU w (.cells (eB d p) 25) none;have o:=al (Tk (A:=A) d fit p kind _ (h.keep b8));have j:=al b8;obtain⟨c,f⟩:∃c,c=(if jY d≠0 then jY d else if 0<=kind/\kind<=d.kinds-1 then 0 else 3):=⟨_,rfl⟩
 have n:=al f;by_cases ar:c=0;rotate_left
 .have u:(c == 0)=false:=by simpa using ar
  have y:decide (c=0)=false:=by simpa using ar
  have e:S9 d kind left cm=(0,c):=by
   unfold S9;rw[f]at ar ⊢;split
   .rfl
   .rename_i I
    rw[if_neg I]at ar;split at ar
    .exact(ar rfl).elim
    .rename_i J;rw[if_pos J,if_neg J]
  have g:=al e;clear f e h b8;go_enter (S.f Tryz.func11),Tryz.ntmps11;go_wp2_with (go_at_call 34;refine o.out.mono ?_;rintro e w2 ⟨rfl,ag⟩;rw[<-n.out];have i:=al ag;clear ag)
  go_ret2
  refine⟨?_,j.out.trans i.out⟩;rw[g.out];rfl
 subst ar;have q:jY d=0:=by
  rcases Classical.em (jY d=0)with x|x
  .exact x
  .rw[if_pos x]at f;exact f.symm
 have r:0<=kind/\kind<=d.kinds-1:=by
  rw[if_neg U]at f;rcases Classical.em (0<=kind/\kind<=d.kinds-1)with x|x
  .exact x
  .rw[if_neg x]at f;omega
 by_cases J:0<=left/\left<=119;rotate_left
 .have e:S9 d kind left cm=(0,1):=by unfold S9;rw[if_neg U,if_neg U,if_pos (.inl J)]
  have g:=al e;have ax:decide (0<=left/\left<=119)=false:=decide_eq_false J;clear f e h b8;go_enter (S.f Tryz.func11),Tryz.ntmps11;go_wp2_with (first|(go_at_call 34;refine o.out.mono ?_;rintro e w2 ⟨rfl,ag⟩;rw[<-n.out];have i:=al ag;clear ag)|(go_at_call 35;refine(nh _ _ _ _).mono ?_;rintro e w' ⟨rfl,rfl⟩;rw[ax]))
  go_ret2
  refine⟨?_,j.out.trans i.out⟩;rw[g.out];rfl
 by_cases aZ:0<=cm/\cm<=999;rotate_left
 .have e:S9 d kind left cm=(0,1):=by unfold S9;rw[if_neg U,if_neg U,if_pos (.inr aZ)]
  have g:=al e;have ax:decide (0<=left/\left<=119)=true:=decide_eq_true J;have bs:decide (0<=cm/\cm<=999)=false:=decide_eq_false aZ;clear f e h b8;go_enter (S.f Tryz.func11),Tryz.ntmps11;go_wp2_with (first|(go_at_call 34;refine o.out.mono ?_;rintro e w2 ⟨rfl,ag⟩;rw[<-n.out];have i:=al ag;clear ag)|(go_at_call 35;refine(nh _ _ _ _).mono ?_;rintro e w' ⟨rfl,rfl⟩;(first|rw[ax]|rw[bs])))
  go_ret2
  refine⟨?_,j.out.trans i.out⟩;rw[g.out];rfl
 obtain⟨k,rfl⟩:∃k:Nat,kind=k:=⟨kind.toNat,U⟩
 obtain⟨l,rfl⟩:∃k:Nat,left=k:=⟨left.toNat,U⟩
 obtain⟨m,rfl⟩:∃k:Nat,cm=k:=⟨cm.toNat,U⟩
 exact TA d fit p q k l m r.2 U U w h
def Tb[S:Std A](q g2:Option Addr)(n c bp:Nat)(ak:n<=100000)(f:Nat->Int)(w:World)(I:kU w q n f)(J:kU w g2 n f):
 Calls (ao A) 22 #[.slice q n c,.slice g2 n bp] w λe w'=>e=.returned (.bool true)/\w.grownBy w' none:=by
 have d:=al I;have g:=al J;have mixed:(ao A).follows .mixedOrders=true:=av;clear I J;by_cases aT:n=0
 .subst aT
  go_enter (S.f Tryz.func22),Tryz.ntmps22;go_wp2;go_loopw [5] (λi wr=>i=.int .i64 0/\w.grownBy wr none) (λi _=>0)
  case atStart=>exact⟨rfl,e6 _ _⟩
  case round=>
   obtain⟨rfl,ag⟩:=hrel;go_wp2;go_ret;exact⟨rfl,ag⟩
 .obtain⟨b,o,rfl,k1⟩:=d.out aT
  obtain⟨aE,aV,rfl,cn⟩:=g.out aT;exact DO b o aE aV n c bp ak f w k1 cn
def Tw[S:Std A](d:dw)(p ia:gz)(hF:d.c'<=1000)(c5:d.bk<=1000)(P:d.b'<=1000)(G:∀i,i<d.bk->d.eP i<=1000)(w:World)(h:iZ w d p)(y:iZ w d ia):
 Calls (ao A) 12 #[.agg (eB d p),.agg (eB d ia)] w λe w'=>e=.returned (.bool true)/\w.grownBy w' none:=by
 have mixed:(ao A).follows .mixedOrders=true:=av;have j:=(dU w (.cells (eB d p) 25) none).trans (dU _ (.cells (eB d ia) 25) none);have c:=al (show ∀W:World,((w.alloc (.cells (eB d p) 25)).alloc (.cells (eB d ia) 25)).grownBy W none->iZ W d p/\iZ W d ia/\W.heap[w.heap.size]?=some (.cells (eB d p) 25)/\W.heap[w.heap.size+1]?=some (.cells (eB d ia) 25)from λW g=>
  ⟨h.keep (j.trans g),y.keep (j.trans g),(g.block _ cH aF).trans ((dm aF).trans (fM _ _)),(g.block _ aF aF).trans (jA _ _ _ aF)⟩)
 have H:=al j;have I:=al G;have z:=al (h.keep j);have B:=al (y.keep j);clear h y j G;go_enter (S.f Tryz.func12),Tryz.ntmps12;go_upto_region 3 with(first
  |(go_at_call 22;refine(Tb (A:=A) p.ei ia.ei d.b' p.dc ia.dc U d.free _ ((c.out _ f.out).1.free) ((c.out _ f.out).2.1.free)).mono ?_;rintro e w3 ⟨rfl,ag⟩;have n:=al (f.out.trans ag);clear ag q r L z3;have q:=(aU (o:=2) (c.out _ n.out).2.2.1).trans rfl;have r:=(aU (o:=2) (c.out _ n.out).2.2.2).trans rfl)
  |(go_at_call 22;refine(Tb (A:=A) p.eh ia.eh d.c' p.cA ia.cA U d.first _ z.out.first B.out.first).mono ?_;rintro e w2 ⟨rfl,ag⟩;have f:=al ag;clear ag;have q:=(aU (o:=2) (c.out _ f.out).2.2.1).trans rfl;have r:=(aU (o:=2) (c.out _ f.out).2.2.2).trans rfl;have L:=(aU (o:=3) (c.out _ f.out).2.2.1).trans rfl;have z3:=(aU (o:=3) (c.out _ f.out).2.2.2).trans rfl))
 clear q r;go_wp2;go_loopw [5] (λi wr=>∃k:Nat,k<=d.bk/\i=.int .i64 k/\((w.alloc (.cells (eB d p) 25)).alloc (.cells (eB d ia) 25)).grownBy wr none) (λi _=>d.bk-numOf i)
 case atStart=>exact⟨0,U,by go_num,n.out⟩
 case round=>
  obtain⟨k,aa,rfl,ag⟩:=hrel;have m:=al ag;clear ag f n;have q:=(aU (o:=2) (c.out _ m.out).2.2.1).trans rfl;have r:=(aU (o:=2) (c.out _ m.out).2.2.2).trans rfl;by_cases aS:k<d.bk
  .have J:decide ((k:Int)<d.bk)=true:=k4
   have K:decide (k<d.bk)=true:=by simpa using aS
   have q1:(k:Int)<(d.bk:Int):=U;have T:(0:Int)<=k:=U;obtain⟨b,o,ay,-⟩:=z.out.kM U;obtain⟨aE,aV,u,-⟩:=B.out.kM U;have D:=al (show ∀W:World,((w.alloc (.cells (eB d p) 25)).alloc (.cells (eB d ia) 25)).grownBy W none->W.cell? ⟨w.heap.size,2,none⟩=some (.slice (some ⟨b,o,none⟩) d.bk p.dq)/\W.cell? ⟨w.heap.size+1,2,none⟩=some (.slice (some ⟨aE,aV,none⟩) d.bk ia.dq)/\
    W.cell? ⟨b,o+k*2,none⟩=some (.int .i64 (d.bV k))/\W.cell? ⟨b,o+k*2+1,none⟩=some (.slice (p.fh k) (d.eP k) (p.cq k))/\W.cell? ⟨aE,aV+k*2,none⟩=some (.int .i64 (d.bV k))/\W.cell? ⟨aE,aV+k*2+1,none⟩=some (.slice (ia.fh k) (d.eP k) (ia.cq k))from λW g=>by
    obtain⟨f1,f2,f3,f4⟩:=c.out W g;obtain⟨bB,Q,E,c1⟩:=f1.kM U;obtain⟨M,R,F,c2⟩:=f2.kM U;rw[ay]at E;rw[u]at F;cases E;cases F;exact⟨(aU f3).trans (by rw[<-ay];rfl),(aU f4).trans (by rw[<-u];rfl),(c1 k aS).1,(c1 k aS).2,(c2 k aS).1,(c2 k aS).2⟩)
   have l:=al (show((w.alloc (.cells (eB d p) 25)).alloc (.cells (eB d ia) 25)).grownBy wr.drew none from gv m.out);clear ay u;go_upto_region 6 with fail
   go_region_held3 (λW=>W.cell? ⟨w.heap.size,2,none⟩=some (.slice (some ⟨b,o,none⟩) d.bk p.dq)/\W.cell? ⟨w.heap.size+1,2,none⟩=some (.slice (some ⟨aE,aV,none⟩) d.bk ia.dq)/\
    W.cell? ⟨b,o+k*2,none⟩=some (.int .i64 (d.bV k))/\W.cell? ⟨b,o+k*2+1,none⟩=some (.slice (p.fh k) (d.eP k) (p.cq k))/\W.cell? ⟨aE,aV+k*2,none⟩=some (.int .i64 (d.bV k))/\W.cell? ⟨aE,aV+k*2+1,none⟩=some (.slice (ia.fh k) (d.eP k) (ia.cq k)))
    (first|with_reducible exact D.out _ l.out|with_reducible exact D.out _ C.out)
    (first|(go_at_call 22;refine(Tb (A:=A) (p.fh k) (ia.fh k) (d.eP k) (p.cq k) (ia.cq k) (by have:=I.out k aS;omega) (d.cQ k) _ ((c.out _ l.out).1.cQ k aS) ((c.out _ l.out).2.1.cQ k aS)).mono ?_;rintro e V ⟨rfl,ag⟩;have C:=al (l.out.trans ag);clear ag))
   go_wp2;exact⟨⟨k+1,U,by push_cast;rfl,C.out⟩,by simp[numOf];omega⟩
  .have J:decide ((k:Int)<d.bk)=false:=nd
   have K:decide (k<d.bk)=false:=by simpa using aS
   go_wp2;go_ret;exact⟨rfl,H.out.trans m.out⟩
end
end Go.aO
