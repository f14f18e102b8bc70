/- A part. -/
import Derived.Test.YtejkocoljbaioaaGreatDoorP13
import Derived.Shelf.RegionOpenPlain
import Derived.BigQuiet
import Derived.IntWalk
import Derived.Deep.Slices
import Derived.Deep.Cut
import Derived.Deep.CutRange
set_option maxHeartbeats 8000000
set_option maxRecDepth 100000
set_option linter.all false
namespace Go.aO
open Go.Proofs Go.RowKit
variable{b c:Int}{M:Int->Int->Option Value}{e:MapEntry}{m n o:Nat}{row:Option Nat}{el k mt:TypeId}{z:Value}{w w':World}
section
variable{A:Array Func}
structure cC where
 kinds:Nat
 first:Nat->Int
 bk:Nat
 bV:Nat->Int
 cQ:Nat->Nat->Int
 b':Nat
 free:Nat->Int
structure eg where
 gg:Nat
 hG:Nat
 cA:Nat
 fV:Nat
 gU:Nat
 dq:Nat
 dj:Nat->Nat
 uG:Nat->Nat
 cq:Nat->Nat
 ei:Option Addr
 dc:Nat
structure cC.ok(d:cC):Prop where
 kinds:1<=d.kinds/\d.kinds<=3
 first:∀k,k<d.kinds->0<=d.first k/\d.first k<=9
 bk:1<=d.bk/\d.bk<=3
 zero:d.bV 0=0
 bV:∀i,i<d.bk->0<=d.bV i/\d.bV i<=4
 qK:∀i,i+1<d.bk->d.bV i<d.bV (i+1)
 cQ:∀i,i<d.bk->∀k,k<d.kinds->0<=d.cQ i k/\d.cQ i k<=9
 b':d.b'<=5
 free:∀i,i<d.b'->0<=d.free i/\d.free i<=4
 C2:∀i,i+1<d.b'->d.free i<d.free (i+1)
abbrev dv(d:cC)(p:eg):Array Value:=#[ah d.kinds,.slice (some ⟨p.gg,p.hG,none⟩) d.kinds p.cA,.slice (some ⟨p.fV,p.gU,none⟩) d.bk p.dq,.slice p.ei d.b' p.dc]
structure e'(w:World)(d:cC)(p:eg):Prop where
 first:gn w p.gg p.hG d.kinds d.first
 bV:∀i,i<d.bk->w.cell? ⟨p.fV,p.gU+i*2,none⟩=some (ah (d.bV i))
 rows:∀i,i<d.bk->w.cell? ⟨p.fV,p.gU+i*2+1,none⟩=some (.slice (some ⟨p.dj i,p.uG i,none⟩) d.kinds (p.cq i))
 cQ:∀i,i<d.bk->gn w (p.dj i) (p.uG i) d.kinds (d.cQ i)
 free:d.b'≠0->∃b o,p.ei=some ⟨b,o,none⟩/\gn w b o d.b' d.free
def gn.keep{b:Nat}{f:Nat->Int}(h:gn w b o n f)(g:w.grownBy w' row)(d:some b≠row):gn w' b o n f:=λk c=>g.cell (h k c) d
def e'.keep{d:cC}{p:eg}(h:e' w d p)(g:w.grownBy w' none):e' w' d p where
 first:=h.first.keep g aF
 bV i c:=g.cell (h.bV i c) aF
 rows i c:=g.cell (h.rows i c) aF
 cQ i c:=(h.cQ i c).keep g aF
 free f:=by obtain⟨b,o,e,k⟩:=h.free f;exact⟨b,o,e,k.keep g aF⟩
def hl(w:World)(n:Nat):w.grownBy (w.drewN n) none:=⟨rfl,rfl,rfl,bg,λ_ _ _=>rfl⟩
structure dw where
 kinds:Int
 c':Nat
 first:Nat->Int
 bk:Nat
 bV:Nat->Int
 eP:Nat->Nat
 cQ:Nat->Nat->Int
 b':Nat
 free:Nat->Int
structure gz where
 eh:Option Addr
 cA:Nat
 hH:Option Addr
 dq:Nat
 fh:Nat->Option Addr
 cq:Nat->Nat
 ei:Option Addr
 dc:Nat
def kU(w:World)(q:Option Addr)(n:Nat)(f:Nat->Int):Prop:=n≠0->∃b o,q=some ⟨b,o,none⟩/\gn w b o n f
abbrev eB(d:dw)(p:gz):Array Value:=#[ah d.kinds,.slice p.eh d.c' p.cA,.slice p.hH d.bk p.dq,.slice p.ei d.b' p.dc]
structure iZ(w:World)(d:dw)(p:gz):Prop where
 first:kU w p.eh d.c' d.first
 kM:d.bk≠0->∃b o,p.hH=some ⟨b,o,none⟩/\∀i,i<d.bk->w.cell? ⟨b,o+i*2,none⟩=some (ah (d.bV i))/\w.cell? ⟨b,o+i*2+1,none⟩=some (.slice (p.fh i) (d.eP i) (p.cq i))
 cQ:∀i,i<d.bk->kU w (p.fh i) (d.eP i) (d.cQ i)
 free:kU w p.ei d.b' d.free
def kU.keep{q:Option Addr}{f:Nat->Int}(h:kU w q n f)(g:w.grownBy w' none):kU w' q n f:=λc=>by obtain⟨b,o,e,k⟩:=h c;exact⟨b,o,e,k.keep g aF⟩
def iZ.keep{d:dw}{p:gz}(h:iZ w d p)(g:w.grownBy w' none):iZ w' d p where
 first:=h.first.keep g
 kM f:=by obtain⟨b,o,e,k⟩:=h.kM f;exact⟨b,o,e,λi c=>⟨g.cell (k i c).1 aF,g.cell (k i c).2 aF⟩⟩
 cQ i c:=(h.cQ i c).keep g
 free:=h.free.keep g
structure dw.small(d:dw):Prop where
 F:d.c'<=20
 R:d.bk<=20
 h4:d.b'<=20
 P:∀i,i<d.bk->d.eP i<=20
def SX[S:Std A](d:dw)(p:gz)(w:World)(h:iZ w d p):
 Calls (ao A) 4 #[.agg (eB d p)] w λe w'=>(∃b,e=.returned (.bool b)/\(b=false↔d.small))/\w.grownBy w' none:=by
 have H:=al h;clear h;by_cases hF:d.c'<=20
 .have l:decide ((d.c':Int)>20)=false:=nd
  by_cases z:d.bk<=20
  .have q:decide ((d.bk:Int)>20)=false:=nd
   by_cases B:d.b'<=20
   .have r:decide ((d.b':Int)>20)=false:=nd
    go_enter (S.f Tryz.func4),Tryz.ntmps4;go_wp2;clear l q r;go_loopw [3] (λi wr=>∃k:Nat,k<=d.bk/\i=ah k/\(w.alloc (.cells (eB d p) 25)).grownBy wr none/\∀j,j<k->d.eP j<=20) (λi _=>d.bk-(intOf i).toNat)
    case atStart=>exact⟨0,U,by go_num,e6 _ _,λj E=>absurd E U⟩
    case round=>
     obtain⟨k,L,rfl,c,u⟩:=hrel;have I:wr.cell? ⟨w.heap.size,2,none⟩=some (.slice p.hH d.bk p.dq):=c.cell (a:=⟨w.heap.size,2,none⟩) (dR rfl) aF;have g:=al u;clear u;by_cases F:k<d.bk
     .obtain⟨b,o,C,D⟩:=((H.out.keep bT).keep c).kM U
      have J:=(D k F).2;rw[C]at I;have q1:(k:Int)<(d.bk:Int):=U;have M:(0:Int)<=k:=U;have f:=al c;clear D C c;by_cases G:d.eP k<=20
      .have d1:decide ((d.eP k:Int)>20)=false:=nd
       go_wp2;exact⟨⟨k+1,U,by push_cast;rfl,f.out,λj E=>by
        rcases Nat.lt_or_ge j k with x|x
        .exact g.out j x
        .rw[show j=k by omega];exact G⟩,by simp[intOf];omega⟩
      .have d1:decide ((d.eP k:Int)>20)=true:=k4
       go_wp2;go_ret;exact⟨⟨_,rfl,(bR),λs=>absurd (s.P k F) G⟩,bT.trans f.out⟩
     .have f:=al c
      clear c;go_wp2;go_ret;exact⟨⟨_,rfl,(λ_=>⟨hF,z,B,λi K=>g.out i U⟩),λ_=>rfl⟩,bT.trans f.out⟩
   .have r:decide ((d.b':Int)>20)=true:=k4
    go_enter (S.f Tryz.func4),Tryz.ntmps4;go_wp2;go_ret;exact⟨⟨_,rfl,(bR),λs=>absurd s.h4 B⟩,bT⟩
  .have q:decide ((d.bk:Int)>20)=true:=k4
   go_enter (S.f Tryz.func4),Tryz.ntmps4;go_wp2;go_ret;exact⟨⟨_,rfl,(bR),λs=>absurd s.R z⟩,bT⟩
 .have l:decide ((d.c':Int)>20)=true:=k4
  go_enter (S.f Tryz.func4),Tryz.ntmps4;go_wp2;go_ret;exact⟨⟨_,rfl,(bR),λs=>absurd s.F hF⟩,bT⟩
def hB(g:Nat->Int):Nat->Int
 | 0=>0
 |n+1=>if hB g n=0 then g n else hB g n
def nW{g:Nat->Int}{k:Nat}(h:hB g k=0)(c:g k=0):hB g (k+1)=0:=by rw[hB,if_pos h,c]
def qY{g:Nat->Int}{k:Nat}(h:hB g k=0)(c:g k≠0):∀n,k<n->hB g n=g k
 | 0,d=>U
 |n+1,d=>by
  rw[hB];rcases Nat.lt_or_ge k n with x|x
  .rw[qY h c n x,if_neg c]
  .rw[show n=k by omega,if_pos h]
def wi{g:Nat->Int}:∀{n:Nat},hB g n=0->∀k,k<n->g k=0
 | 0,_,_,h=>U
 |n+1,h,k,d=>by
  rw[hB]at h;split at h
  .rename_i c
   rcases Nat.lt_or_ge k n with x|x
   .exact wi c k x
   .rw[show k=n by omega];exact h
  .rename_i c
   exact(c h).elim
def wh{g:Nat->Int}:∀{n:Nat},(∀k,k<n->g k=0)->hB g n=0
 | 0,_=>rfl
 |n+1,h=>nW (wh λk c=>h k U) (h n U)
def qb(f:Nat->Int)(k:Nat):Int:=if 0<=f k/\f k<=9 then 0 else 1
def gw(kinds:Int)(n:Nat)(f:Nat->Int):Int:=if (n:Int)<kinds then 7 else if (n:Int)>kinds then 6 else hB (qb f) n
def jG(f:Nat->Int)(i:Nat):Bool:=match i with
 | 0=>f 0 !=0
 |i+1=>decide (f (i+1)<=f i)
def kp(d:dw)(i:Nat):Int:=if 0<=d.bV i/\d.bV i<=4 then(if jG d.bV i=true then 5 else gw d.kinds (d.eP i) (d.cQ i))else 1
def nc(d:dw)(i:Nat):Int:=if 0<=d.free i/\d.free i<=4 then(if 0<i/\d.free i<=d.free (i-1)then 5 else 0)else 3
def jY(d:dw):Int:=if 1<=d.kinds/\d.kinds<=3 then(if gw d.kinds d.c' d.first≠0 then gw d.kinds d.c' d.first else if d.bk<1 then 7 else if d.bk>3 then 6 else if hB (kp d) d.bk≠0 then hB (kp d) d.bk else hB (nc d) d.b')else 1
def dw.nC(d:dw):cC:=⟨d.kinds.toNat,d.first,d.bk,d.bV,d.cQ,d.b',d.free⟩
def xm{kinds:Int}{f:Nat->Int}(h:gw kinds n f=0):(n:Int)=kinds/\∀k,k<n->0<=f k/\f k<=9:=by
 unfold gw at h;split at h
 .omega
 .split at h
  .omega
  .refine⟨U,λk c=>?_⟩
   have:=wi h k c;unfold qb at this;split at this
   .assumption
   .omega
def HD{f:Nat->Int}(c:∀i,i<n->0<=f i/\f i<=4)(d:∀i,i+1<n->f i<f (i+1)):n<=5:=by
 have key:∀i,i<n->(i:Int)<=f i:=by
  intro i;induction i with
  |zero=>intro h;exact(c 0 h).1
  |succ i g=>intro h;have:=g U;have:=d i h;omega
 rcases Nat.lt_or_ge 5 n with h|h
 .have:=key 5 h;have:=c 5 h;omega
 .exact h
def IB{d:dw}(h:jY d=0):d.nC.ok/\(d.c':Int)=d.kinds/\(d.nC.kinds:Int)=d.kinds/\∀i,i<d.bk->(d.eP i:Int)=d.kinds:=by
 unfold jY at h;split at h
 .rename_i f
  split at h
  .rename_i hp;exact(hp h).elim
  .rename_i hp
   have hp:=xm (Classical.not_not.1 hp);split at h
   .omega
   .split at h
    .omega
    .split at h
     .rename_i g;exact(g h).elim
     .rename_i g
      have g:=wi (Classical.not_not.1 g);have hu:=wi h;have e:(d.kinds.toNat:Int)=d.kinds:=U;have r:∀i,i<d.bk->(0<=d.bV i/\d.bV i<=4)/\jG d.bV i=false/\gw d.kinds (d.eP i) (d.cQ i)=0:=λi c=>by
       have:=g i c;unfold kp at this;split at this
       .rename_i j
        split at this
        .omega
        .rename_i l
         exact⟨j,by simpa using l,this⟩
       .omega
      have u:∀i,i<d.b'->(0<=d.free i/\d.free i<=4)/\¬(0<i/\d.free i<=d.free (i-1)):=λi c=>by
       have:=hu i c;unfold nc at this;split at this
       .rename_i j
        split at this
        .omega
        .rename_i l
         exact⟨j,l⟩
       .omega
      have o:∀i,i+1<d.b'->d.free i<d.free (i+1):=λi c=>by have:=(u (i+1) c).2;simp only[Nat.add_sub_cancel]at this;omega
      refine⟨⟨by show 1<=d.kinds.toNat/\d.kinds.toNat<=3;omega,λk f=>hp.2 k (by have f:k<d.kinds.toNat:=f;omega),by show 1<=d.bk/\d.bk<=3;omega,?_,λi c=>(r i c).1,λi c=>?_,λi c k f=>(xm (r i c).2.2).2 k (by have:=(xm (r i c).2.2).1;have f:k<d.kinds.toNat:=f;omega),HD (λi c=>(u i c).1) o,λi c=>(u i c).1,o⟩,hp.1,e,λi c=>(xm (r i c).2.2).1⟩
      .have:=(r 0 U).2.1
       exact(by simpa [jG]using this:d.bV 0=0)
      .have:=(r (i+1) c).2.1
       simp only[jG,decide_eq_false_iff_not]at this;show d.bV i<d.bV (i+1);omega
 .omega
def iZ.tf{d:dw}{p:gz}(h:iZ w d p)(D:jY d=0):∃P:eg,eB d p=dv d.nC P/\e' w d.nC P:=by
 obtain⟨ok,F,g,j⟩:=IB D;have f:1<=d.kinds.toNat:=ok.kinds.1;have g:(d.kinds.toNat:Int)=d.kinds:=g;obtain⟨l,z,hF,E⟩:=h.first U
 obtain⟨q,B,C,u⟩:=h.kM (by have:1<=d.bk:=ok.bk.1;omega);obtain⟨y,r⟩:=Go.Deep.choose_lt (α:=Nat×Nat) (n:=d.bk) (p:=λi y=>p.fh i=some ⟨y.1,y.2,none⟩/\gn w y.1 y.2 (d.eP i) (d.cQ i)) λi c=>by obtain⟨b,o,e,k⟩:=h.cQ i c (by have:=j i c;omega);exact⟨(b,o),e,k⟩
 have f1:d.c'=d.kinds.toNat:=U;refine⟨⟨l,z,p.cA,q,B,p.dq,λi=>(y i).1,λi=>(y i).2,p.cq,p.ei,p.dc⟩,?_,?_⟩
 .show #[ah d.kinds,.slice p.eh d.c' p.cA,.slice p.hH d.bk p.dq,.slice p.ei d.b' p.dc]=#[ah (d.kinds.toNat:Int),.slice (some ⟨l,z,none⟩) d.kinds.toNat p.cA,.slice (some ⟨q,B,none⟩) d.bk p.dq,.slice p.ei d.b' p.dc]
  rw[g,hF,C,f1]
 .refine⟨λk f=>E k (by have f:k<d.kinds.toNat:=f;omega),λi c=>(u i c).1,λi c=>?_,λi c k f=>(r i c).2 k (by have:=j i c;have f:k<d.kinds.toNat:=f;omega),h.free⟩
  have:=(u i c).2;rw[(r i c).1,show d.eP i=d.kinds.toNat by have:=j i c;omega]at this;exact this
def cC.raw(D:cC):dw:=⟨D.kinds,D.kinds,D.first,D.bk,D.bV,λ_=>D.kinds,D.cQ,D.b',D.free⟩
def eg.raw(P:eg):gz:=⟨some ⟨P.gg,P.hG,none⟩,P.cA,some ⟨P.fV,P.gU,none⟩,P.dq,λi=>some ⟨P.dj i,P.uG i,none⟩,P.cq,P.ei,P.dc⟩
def cC.rl{D:cC}(ok:D.ok):D.raw.small:=⟨by have:D.kinds<=3:=ok.kinds.2;show D.kinds<=20;omega,by have:D.bk<=3:=ok.bk.2;show D.bk<=20;omega,by have:D.b'<=5:=ok.b';show D.b'<=20;omega,λi _=>by have:D.kinds<=3:=ok.kinds.2;show D.kinds<=20;omega⟩
def e'.raw{D:cC}{P:eg}(h:e' w D P):iZ w D.raw P.raw:=⟨λ_=>⟨_,_,rfl,h.first⟩,λ_=>⟨_,_,rfl,λi c=>⟨h.bV i c,h.rows i c⟩⟩,λi c _=>⟨_,_,rfl,h.cQ i c⟩,h.free⟩
def EL{f:Nat->Int}(h:∀k,k<n->0<=f k/\f k<=9):gw n n f=0:=by rw[gw,if_neg U,if_neg U];exact wh λk c=>if_pos (h k c)
def IC{D:cC}(ok:D.ok):jY D.raw=0:=by
 have f:=ok.kinds;have g:=ok.bk;have hp:gw D.raw.kinds D.raw.c' D.raw.first=0:=EL ok.first
 have l:hB (kp D.raw) D.raw.bk=0:=wh λi c=>by
  have e:jG D.bV i=false:=by
   rcases i with _|i
   .simp[jG,ok.zero]
   .have:=ok.qK i c
    simp only[jG,decide_eq_false_iff_not];omega
  show(if 0<=D.bV i/\D.bV i<=4 then(if jG D.bV i=true then 5 else gw D.kinds D.kinds (D.cQ i))else 1)=0;rw[if_pos (ok.bV i c),e,if_neg aF,EL (ok.cQ i c)]
 have hu:hB (nc D.raw) D.raw.b'=0:=wh λi c=>by show(if 0<=D.free i/\D.free i<=4 then(if 0<i/\D.free i<=D.free (i-1)then 5 else 0)else 3)=0;rw[if_pos (ok.free i c),if_neg];rintro⟨h,j⟩;have c:i<D.b':=c;have:=ok.C2 (i-1) U;rw[show i-1+1=i by omega]at this;omega
 have d:(1:Int)<=D.raw.kinds/\D.raw.kinds<=3:=by show(1:Int)<=(D.kinds:Int)/\(D.kinds:Int)<=3;omega
 rw[jY,if_pos d,if_neg U,if_neg (by show ¬D.bk<1;omega),if_neg (by show ¬D.bk>3;omega),if_neg U,hu]
def hR{a:Int}(h:b=a):(Ending.returned (ah a):Ending)=.returned (ah b):=by rw[h]
def EG{f:Nat->Int}{k:Nat}(h:0<=f k/\f k<=9):qb f k=0:=if_pos h
def EH{f:Nat->Int}{k:Nat}(h:¬(0<=f k/\f k<=9)):qb f k=1:=if_neg h
def EJ{k:Nat}{f:Nat->Int}(h:hB (qb f) k=0)(d:k<n)(c:¬(0<=f k/\f k<=9)):gw n n f=1:=by rw[gw,if_neg U,if_neg U,qY h (by rw[EH c];omega) n d,EH c]
def EK{f:Nat->Int}(h:hB (qb f) n=0):gw n n f=0:=by rw[gw,if_neg U,if_neg U,h]
def EI[S:Std A](q:Option Addr)(n c:Nat)(E:n<=1000)(f:Nat->Int)(kinds:Int)(w:World)(h:kU w q n f):
 Calls (ao A) 52 #[.slice q n c,ah kinds] w λe w'=>e=.returned (ah (gw kinds n f))/\w=w':=by
 by_cases j:(n:Int)<kinds
 .have g:jJ n kinds kinds=7:=by simp[jJ,j]
  rw[show gw kinds n f=7 by simp[gw,j]];go_enter (S.f Tryz.func52),Tryz.ntmps52;go_wp2_with (go_at_call 53;refine(ru _ _ _ _).mono ?_;rintro e w' ⟨rfl,rfl⟩;rw[g])
  go_ret;exact⟨rfl,rfl⟩
 .by_cases d:(n:Int)>kinds
  .have g:jJ n kinds kinds=6:=by simp[jJ,j];omega
   rw[show gw kinds n f=6 by rw[gw,if_neg j,if_pos d]];go_enter (S.f Tryz.func52),Tryz.ntmps52;go_wp2_with (go_at_call 53;refine(ru _ _ _ _).mono ?_;rintro e w' ⟨rfl,rfl⟩;rw[g])
   go_ret;exact⟨rfl,rfl⟩
  .obtain rfl:kinds=n:=U
   have g:jJ n n n=0:=by simp[jJ]
   have C:=al h;clear h j d;by_cases r:n=0
   .subst r
    have g:jJ 0 0 0=0:=rfl;go_enter (S.f Tryz.func52),Tryz.ntmps52;go_wp2_with (go_at_call 53;refine(ru _ _ _ _).mono ?_;rintro e w' ⟨rfl,rfl⟩;rw[g])
    go_loop [7,18] (λ_ i=>i=ah 0) (λ_ i=>0)
    case atStart=>rfl
    case round=>
     subst hrel;go_wp2;go_ret;exact⟨rfl,rfl⟩
   .obtain⟨b,o,rfl,u⟩:=C.out r
    have B:=al u;clear u;go_enter (S.f Tryz.func52),Tryz.ntmps52;go_wp2_with (go_at_call 53;refine(ru _ _ _ _).mono ?_;rintro e w' ⟨rfl,rfl⟩;rw[g])
    go_loop [7,18] (λ_ i=>∃k:Nat,k<=n/\i=ah k/\hB (qb f) k=0) (λ_ i=>n-(intOf i).toNat)
    case atStart=>exact⟨0,U,by go_num,rfl⟩
    case round=>
     obtain⟨k,D,rfl,he⟩:=hrel;have l:=al he;clear he;by_cases z:k<n
     .have j:=B.out k z
      by_cases d:0<=f k/\f k<=9
      .have p:decide (0<=f k/\f k<=9)=true:=decide_eq_true d
       go_wp2_with (go_at_call 51;refine(ku _ _ _ _).mono ?_;rintro e w' ⟨rfl,rfl⟩;rw[p])
       go_round
       case rel=>exact⟨k+1,U,by go_num,nW l.out (EG d)⟩
       case measure=>simp[intOf];omega
      .have p:decide (0<=f k/\f k<=9)=false:=decide_eq_false d
       go_wp2_with (go_at_call 51;refine(ku _ _ _ _).mono ?_;rintro e w' ⟨rfl,rfl⟩;rw[p])
       go_ret;exact⟨hR (by rw[EJ l.out z d]),rfl⟩
     .obtain rfl:k=n:=U
      go_wp2;go_ret;exact⟨hR (by rw[EK l.out]),rfl⟩
def Cm{d:dw}(h:¬(1<=d.kinds/\d.kinds<=3)):jY d=1:=if_neg h
def Ck{d:dw}(h:1<=d.kinds/\d.kinds<=3)(c:gw d.kinds d.c' d.first≠0):jY d=gw d.kinds d.c' d.first:=by rw[jY,if_pos h,if_pos c]
def Cj{d:dw}(h:1<=d.kinds/\d.kinds<=3)(c:gw d.kinds d.c' d.first=0)(f:d.bk=0):jY d=7:=by rw[jY,if_pos h,if_neg U,if_pos U]
def Cn{d:dw}(h:1<=d.kinds/\d.kinds<=3)(f:gw d.kinds d.c' d.first=0)(c:d.bk>3):jY d=6:=by rw[jY,if_pos h,if_neg U,if_neg U,if_pos c]
def vN{d:dw}(h:1<=d.kinds/\d.kinds<=3)(i:gw d.kinds d.c' d.first=0)(j:1<=d.bk/\d.bk<=3){k:Nat}(g:k<d.bk)(f:hB (kp d) k=0)(c:kp d k≠0):jY d=kp d k:=by have e:=qY f c d.bk g;rw[jY,if_pos h,if_neg U,if_neg U,if_neg U,if_pos (by rw[e];exact c),e]
def Cl{d:dw}(h:1<=d.kinds/\d.kinds<=3)(c:gw d.kinds d.c' d.first=0)(f:1<=d.bk/\d.bk<=3)(g:hB (kp d) d.bk=0):jY d=hB (nc d) d.b':=by rw[jY,if_pos h,if_neg U,if_neg U,if_neg U,if_neg U]
def Ar{d:dw}{k:Nat}(h:¬(0<=d.bV k/\d.bV k<=4)):kp d k=1:=if_neg h
def E2{d:dw}{k:Nat}(h:0<=d.bV k/\d.bV k<=4)(c:jG d.bV k=true):kp d k=5:=by rw[kp,if_pos h,if_pos c]
def E3{d:dw}{k:Nat}(h:0<=d.bV k/\d.bV k<=4)(c:jG d.bV k=false):kp d k=gw d.kinds (d.eP k) (d.cQ k):=by rw[kp,if_pos h,if_neg (by rw[c];simp)]
def wo{d:dw}{k:Nat}(h:¬(0<=d.free k/\d.free k<=4)):nc d k=3:=if_neg h
def wq{d:dw}{k:Nat}(h:0<=d.free (k+1)/\d.free (k+1)<=4)(c:d.free (k+1)<=d.free k):nc d (k+1)=5:=by rw[nc,if_pos h,if_pos ⟨U,c⟩]
def wm{d:dw}{k:Nat}(h:0<=d.free k/\d.free k<=4)(c:∀j,k=j+1->¬d.free k<=d.free j):nc d k=0:=by rw[nc,if_pos h,if_neg];rintro⟨g,f⟩;exact c (k-1) U f
structure dw.fit(d:dw):Prop where
 F:d.c'<=1000
 R:d.bk<=1000
 h4:d.b'<=1000
 P:∀i,i<d.bk->d.eP i<=1000
def ID[S:Std A](d:dw)(fit:d.fit)(p:gz)(w:World)(h:iZ w d p):
 Calls (ao A) 18 #[.agg (eB d p)] w λe w'=>e=.returned (ah (jY d))/\w.grownBy w' none:=by
 obtain⟨eh,cA,aI,dq,L,cq,ae,dc⟩:=p;have Y:=dU w (.cells (eB d ⟨eh,cA,aI,dq,L,cq,ae,dc⟩) 25) none;have ek:=al (h.keep Y);have u:=al Y;have X:=al fit;clear h Y fit;have P:=al (λw=>EI (A:=A) eh d.c' cA X.out.F d.first d.kinds w);by_cases q:1<=d.kinds/\d.kinds<=3;rotate_left
 .have F:decide (1<=d.kinds/\d.kinds<=3)=false:=decide_eq_false q
  go_enter (S.f Tryz.func18),Tryz.ntmps18;go_wp2_with (go_at_call 51;refine(ku _ _ _ _).mono ?_;rintro e w' ⟨rfl,rfl⟩;rw[F])
  go_ret;exact⟨hR (by rw[Cm q]),u.out⟩
 have F:decide (1<=d.kinds/\d.kinds<=3)=true:=decide_eq_true q;by_cases f:gw d.kinds d.c' d.first=0
 rotate_left
 .obtain⟨B,G⟩:∃B,B=gw d.kinds d.c' d.first:=⟨_,rfl⟩
  rw[<-G]at f;have aw:(B == 0)=false:=by simpa using f
  have af:decide (B=0)=false:=by simpa using f
  have z:=al G;clear G;go_enter (S.f Tryz.func18),Tryz.ntmps18;go_wp2_with (first|(go_at_call 51;refine(ku _ _ _ _).mono ?_;rintro e w' ⟨rfl,rfl⟩;rw[F])|(go_at_call 52;refine(P.out _ ek.out.first).mono ?_;rintro e w' ⟨rfl,rfl⟩;rw[<-z.out]))
  go_ret;exact⟨hR (by rw[Ck q (by rw[<-z.out];exact f),z.out]),u.out⟩
 by_cases J:d.bk=0
 .have s1:jJ d.bk 1 3=7:=by simp[jJ,J]
  have az:=al J;clear J;go_enter (S.f Tryz.func18),Tryz.ntmps18;go_wp2_with (first|(go_at_call 51;refine(ku _ _ _ _).mono ?_;rintro e w' ⟨rfl,rfl⟩;rw[F])|(go_at_call 52;refine(P.out _ ek.out.first).mono ?_;rintro e w' ⟨rfl,rfl⟩;rw[f])|(go_at_call 53;refine(ru _ _ _ _).mono ?_;rintro e w' ⟨rfl,rfl⟩;rw[s1]))
  go_ret;exact⟨hR (by rw[Cj q f az.out]),u.out⟩
 by_cases ap:d.bk>3
 .have s1:jJ d.bk 1 3=6:=by simp[jJ];omega
  go_enter (S.f Tryz.func18),Tryz.ntmps18;go_wp2_with (first|(go_at_call 51;refine(ku _ _ _ _).mono ?_;rintro e w' ⟨rfl,rfl⟩;rw[F])|(go_at_call 52;refine(P.out _ ek.out.first).mono ?_;rintro e w' ⟨rfl,rfl⟩;rw[f])|(go_at_call 53;refine(ru _ _ _ _).mono ?_;rintro e w' ⟨rfl,rfl⟩;rw[s1]))
  go_ret;exact⟨hR (by rw[Cn q f ap]),u.out⟩
 have s1:jJ d.bk 1 3=0:=by simp[jJ];omega
 have W:1<=d.bk/\d.bk<=3:=U;obtain⟨am,av,aq,-⟩:=ek.out.kM J;dsimp only at aq;subst aq;have I:=al f;go_enter (S.f Tryz.func18),Tryz.ntmps18;go_wp2_with (first|(go_at_call 51;refine(ku _ _ _ _).mono ?_;rintro e w' ⟨rfl,rfl⟩;rw[F])|(go_at_call 52;refine(P.out _ ek.out.first).mono ?_;rintro e w' ⟨rfl,rfl⟩;rw[I.out])|(go_at_call 53;refine(ru _ _ _ _).mono ?_;rintro e w' ⟨rfl,rfl⟩;rw[s1]))
 clear f J ap;go_loopw [32] (λi wr=>∃k:Nat,k<=d.bk/\i=ah k/\(w.alloc (.cells (eB d ⟨eh,cA,some ⟨am,av,none⟩,dq,L,cq,ae,dc⟩) 25)).grownBy wr none/\hB (kp d) k=0) (λi _=>d.bk-(intOf i).toNat)
 case atStart=>exact⟨0,U,by go_num,e6 _ _,rfl⟩
 case round=>
  obtain⟨k,aH,rfl,g,K⟩:=hrel;have aK:wr.cell? ⟨w.heap.size,0,none⟩=some (ah d.kinds):=g.cell (a:=⟨w.heap.size,0,none⟩) (dR rfl) aF;have aL:wr.cell? ⟨w.heap.size,2,none⟩=some (.slice (some ⟨am,av,none⟩) d.bk dq):=g.cell (a:=⟨w.heap.size,2,none⟩) (dR rfl) aF;have aN:w.heap.size<wr.heap.size:=by have:=g.size;rw[cV]at this;omega
  have E:=al K;clear K;by_cases r:k<d.bk
  .have GW:=al (u.out.trans g)
   obtain⟨b,o,aG,ad⟩:=(ek.out.keep g).kM U;cases aG;obtain⟨R,aD⟩:=ad k r;have Z:=g.trans (dU wr (.cells #[ah (d.bV k),.slice (L k) (d.eP k) (cq k)] 27) none);have aj:=al ((ek.out.keep Z).cQ k r);have D:=al Z;have ax:=al ad;clear Z ad g;by_cases c:0<=d.bV k/\d.bV k<=4;rotate_left
   .have l:decide (0<=d.bV k/\d.bV k<=4)=false:=decide_eq_false c
    go_wp2_with (go_at_call 51;refine(ku _ _ _ _).mono ?_;rintro e w' ⟨rfl,rfl⟩;rw[l])
    go_ret;exact⟨hR (by rw[vN q I.out W r E.out (by rw[Ar c];omega),Ar c]),u.out.trans D.out⟩
   have l:decide (0<=d.bV k/\d.bV k<=4)=true:=decide_eq_true c;have ay:=al (λw=>EI (A:=A) (L k) (d.eP k) (cq k) (X.out.P k r) (d.cQ k) d.kinds w);obtain⟨B,G⟩:∃B,B=gw d.kinds (d.eP k) (d.cQ k):=⟨_,rfl⟩
   have z:=al G;clear G;cases C:jG d.bV k;all_goals (
    have ai:=al C;rcases k with _|k
    focus (simp only[Nat.zero_mul,Nat.add_zero]at R aD)
    rotate_left
    focus (
     have aa:=(ax.out k U).1;have aa:=(dU wr (.cells #[ah (d.bV (k+1)),.slice (L (k+1)) (d.eP (k+1)) (cq (k+1))] 27) none).cell aa aF;have aE:IntKind.i64.wrap (k:Int)=(k:Int):=IntWalk.i64_in _ U;have aJ:k<d.bk:=U;have aO:(k:Int)<(d.bk:Int):=U;have aP:(0:Int)<=k:=U;have aw:((k:Int)+1 == 0)=false:=ub;have af:decide ((0:Int)<(k:Int)+1)=true:=k4;have z3:=(show decide (d.bV (k+1)<=d.bV k)=jG d.bV (k+1)from rfl).trans C;clear C)
    rotate_right)
   focus (
    have z0:d.bV 0=0:=by simpa [jG]using C
    rw[z0]at R l;rw[z0]at aj D;clear C)
   rotate_left 2
   focus (
    have aw:(d.bV 0 == 0)=false:=by simpa [jG]using C
    have af:(d.bV 0 !=0)=true:=by simpa [jG]using C
    clear C)
   rotate_left 2
   all_goals (go_wp2_with (go_at_call 51;refine(ku _ _ _ _).mono ?_;rintro e w' ⟨rfl,rfl⟩;rw[l]))
   all_goals go_quiet (fail)
   all_goals first
    |(have au:=E2 c ai.out
      have ak:=al au;clear au;go_wp2;go_ret;exact⟨hR (by rw[vN q I.out W r E.out (by rw[ak.out];omega),ak.out]),u.out.trans (D.out.trans (hl _ _))⟩)
    |(have Q:=al (E3 c ai.out)
      go_upto_if 70 with(go_at_call 52;refine(ay.out _ (aj.out.keep (hl _ _))).mono ?_;rintro e w' ⟨rfl,rfl⟩;rw[<-z.out])
      by_cases f:B=0
      .subst f
       go_wp2;go_roundw
       case rel=>first|exact⟨1,U,by go_num,D.out.trans (hl _ _),nW E.out (by rw[Q.out,<-z.out])⟩|exact⟨k+2,U,by go_num,D.out.trans (hl _ _),nW E.out (by rw[Q.out,<-z.out])⟩
       case measure=>simp[intOf];omega
      .have z5:(B == 0)=false:=by simpa using f
       go_wp2;go_ret;exact⟨hR (by rw[vN q I.out W r E.out (by rw[Q.out,<-z.out];exact f),Q.out,<-z.out]),u.out.trans (D.out.trans (hl _ _))⟩)
  .obtain rfl:k=d.bk:=U
   have aC:wr.cell? ⟨w.heap.size,3,none⟩=some (.slice ae d.b' dc):=g.cell (a:=⟨w.heap.size,3,none⟩) (dR rfl) aF;have aA:=al (ek.out.keep g).free;have GW:=al (u.out.trans g);have M:=al (Cl q I.out W E.out);clear g;by_cases T:d.b'=0
   .rw[T]at aC
    have aB:=al T;clear T;go_wp2;go_loop [76] (λi=>i=ah 0) (λ_=>0)
    case atStart=>rfl
    case round=>
     subst hrel;go_wp2;go_ret;exact⟨by rw[M.out,aB.out];rfl,GW.out⟩
   .obtain⟨b,o,e,ar⟩:=aA.out T
    dsimp only at e;subst e;have ag:=al ar;have aM:=X.out.h4;clear ar;go_wp2;go_loop [76] (λi=>∃k:Nat,k<=d.b'/\i=ah k/\hB (nc d) k=0) (λi=>d.b'-(intOf i).toNat)
    case atStart=>exact⟨0,U,by go_num,rfl⟩
    case round=>
     obtain⟨k,aH,rfl,K⟩:=hrel;have H:=al K;clear K;by_cases r:k<d.b'
     .have R:=ag.out k r
      by_cases c:0<=d.free k/\d.free k<=4
      .have l:decide (0<=d.free k/\d.free k<=4)=true:=decide_eq_true c
       rcases k with _|k
       .simp only[Nat.add_zero]at R
        go_wp2_with (go_at_call 51;refine(ku _ _ _ _).mono ?_;rintro e w' ⟨rfl,rfl⟩;rw[l])
        go_round
        case rel=>exact⟨1,U,by go_num,nW H.out (wm c λj h=>U)⟩
        case measure=>simp[intOf];omega
       .have aa:=ag.out k U
        have aE:IntKind.i64.wrap (k:Int)=(k:Int):=IntWalk.i64_in _ U;have aJ:k<d.b':=U;have af:decide ((0:Int)<(k:Int)+1)=true:=k4;by_cases V:d.free (k+1)<=d.free k
        .have z3:decide (d.free (k+1)<=d.free k)=true:=decide_eq_true V
         go_wp2_with (go_at_call 51;refine(ku _ _ _ _).mono ?_;rintro e w' ⟨rfl,rfl⟩;rw[l])
         go_ret;exact⟨hR (by rw[M.out,qY H.out (by rw[wq c V];omega) d.b' r,wq c V]),GW.out⟩
        .have z3:decide (d.free (k+1)<=d.free k)=false:=decide_eq_false V
         go_wp2_with (go_at_call 51;refine(ku _ _ _ _).mono ?_;rintro e w' ⟨rfl,rfl⟩;rw[l])
         go_round
         case rel=>exact⟨k+2,U,by go_num,nW H.out (wm c λj h=>by have e:j=k:=U;rw[e];omega)⟩
         case measure=>simp[intOf];omega
      .have l:decide (0<=d.free k/\d.free k<=4)=false:=decide_eq_false c
       go_wp2_with (go_at_call 51;refine(ku _ _ _ _).mono ?_;rintro e w' ⟨rfl,rfl⟩;rw[l])
       go_ret;exact⟨hR (by rw[M.out,qY H.out (by rw[wo c];omega) d.b' r,wo c]),GW.out⟩
     .obtain rfl:k=d.b':=U
      go_wp2;go_ret;exact⟨hR (by rw[M.out,H.out]),GW.out⟩
def dw.small.fit{d:dw}(h:d.small):d.fit:=⟨by have:=h.F;omega,by have:=h.R;omega,by have:=h.h4;omega,λi c=>by have:=h.P i c;omega⟩
def yV[S:Std A](d:cC)(ok:d.ok)(p:eg)(w:World)(h:e' w d p):
 Calls (ao A) 18 #[.agg (dv d p)] w λe w'=>e=.returned (ah 0)/\w.grownBy w' none:=by
 have:=ID (A:=A) d.raw (cC.rl ok).fit p.raw w h.raw;rwa [IC ok]at this
def Dm[S:Std A](bY c:Nat)(h:bY<=c)(g:c<120)(w:World):Calls (ao A) 69 #[.agg #[ah bY,ah c]] w λe w'=>e=.returned (ah 0)/\w.grownBy w' none:=by
 have d:decide ((0:Int)<=bY/\(bY:Int)<=119)=true:=cH;have f:decide ((0:Int)<=c/\(c:Int)<=119)=true:=cH;go_enter (S.f Tryz.func69),Tryz.ntmps69;go_wp2_with (first|(go_at_call_of 51 (ah (bY:Int));refine(ku _ _ _ _).mono ?_;rintro e w' ⟨rfl,rfl⟩;rw[d])|(go_at_call_of 51 (ah (c:Int));refine(ku _ _ _ _).mono ?_;rintro e w' ⟨rfl,rfl⟩;rw[f]))
 go_ret;exact⟨rfl,bT⟩
abbrev uV(k f d fm c:Nat):Array Value:=#[ah k,ah f,ah d,ah fm,ah c]
def Qv[S:Std A](d:cC)(L:d.kinds<=3)(p:eg)(k g f fm c:Nat)(P:k<d.kinds)(G:g<=f)(E:f<120)(F:fm<=c)(hF:c<120)(Q:g<=c)(w:World):
 Calls (ao A) 36 #[.agg (dv d p),.agg (uV k g f fm c)] w λe w'=>e=.returned (ah 0)/\w.grownBy w' none:=by
 have z:decide ((0:Int)<=k/\(k:Int)<=(d.kinds:Int)-1)=true:=cH;go_enter (S.f Tryz.func36),Tryz.ntmps36;go_wp2_with (go_at_call 51;refine(ku _ _ _ _).mono ?_;rintro e w' ⟨rfl,rfl⟩;rw[z])
 have C:w.grownBy (((w.alloc (.cells (dv d p) 25)).alloc (.cells (uV k g f fm c) 31)).alloc (.cells #[ah g,ah f,ah fm,ah c] 29)) none:=(bT.trans bT).trans bT;have D:=al C;clear C;go_loopw [21] (λi wr=>∃j:Nat,j<=2/\i=ah j/\(((w.alloc (.cells (dv d p) 25)).alloc (.cells (uV k g f fm c) 31)).alloc (.cells #[ah g,ah f,ah fm,ah c] 29)).grownBy wr none) (λi _=>2-(intOf i).toNat)
 case atStart=>exact⟨0,U,by go_num,e6 _ _⟩
 case round=>
  obtain⟨j,M,rfl,h⟩:=hrel;have bx:wr.cell? ⟨w.heap.size+1+1,0,none⟩=some (ah g):=h.cell (a:=⟨w.heap.size+1+1,0,none⟩) (dR aF) aF;have J:wr.cell? ⟨w.heap.size+1+1,1,none⟩=some (ah f):=h.cell (a:=⟨w.heap.size+1+1,1,none⟩) (dR aF) aF;have K:wr.cell? ⟨w.heap.size+1+1,2,none⟩=some (ah fm):=h.cell (a:=⟨w.heap.size+1+1,2,none⟩) (dR aF) aF;have c3:wr.cell? ⟨w.heap.size+1+1,3,none⟩=some (ah c):=h.cell (a:=⟨w.heap.size+1+1,3,none⟩) (dR aF) aF;have b:∀o v,o<5->(uV k g f fm c)[o]?=some v->wr.cell? ⟨w.heap.size+1,o,none⟩=some v:=λo v _ e=>h.cell (a:=⟨w.heap.size+1,o,none⟩) ((hD _ _ _ aF).trans ((dR aF).trans e)) aF
  have B:=al b;clear b;have u:=al h;clear h;rcases j with _|_|_|j
  .go_wp2_with (go_at_call 69;refine(Dm g f G E _).mono ?_;rintro e H ⟨rfl,q⟩;have l:=(u.out.trans bT).trans q;have r:=al l;clear q l)
   go_roundw
   case rel=>exact⟨1,U,by go_num,r.out⟩
   case measure=>simp[intOf]
  .go_wp2_with (go_at_call 69;refine(Dm fm c F hF _).mono ?_;rintro e H ⟨rfl,q⟩;have l:=(u.out.trans bT).trans q;have r:=al l;clear q l)
   go_roundw
   case rel=>exact⟨2,U,by go_num,r.out⟩
   case measure=>simp[intOf]
  .have z:=B.out 4 _ U rfl
   have I:=B.out 1 _ U rfl;go_wp2;go_ret;exact⟨rfl,D.out.trans u.out⟩
  .omega
abbrev nD(d:cC)(p:eg):Array Value:=#[ah d.kinds,.slice (some ⟨p.gg,p.hG,none⟩) d.kinds p.cA,.slice (some ⟨p.fV,p.gU,none⟩) d.bk p.dq,.slice p.ei d.b' p.dc,
 .int .u32 0,.int .i32 0,.int .u32 0,.int .u32 0,.int .i32 0,.int .u32 0,.int .u32 0,.int .i32 0,.int .u32 0,
 ah 0,ah 0,ah 0,ah 0,ah 0,ah 0,ah 0,ah 0,ah 0,ah 0,ah 0,ah 0,ah 0,ah 0,ah 0]
structure h3 where
 k:Nat
 lm:Nat
 cj:Nat
 fm:Nat
 b5:Nat
structure h3.ok(s:h3)(d:cC):Prop where
 k:s.k<d.kinds
 l:s.lm<=s.cj
 bE:s.cj<120
 f:s.fm<=s.b5
 hF:s.b5<120
 x:s.lm<=s.b5
abbrev h3.a(s:h3):Array Value:=uV s.k s.lm s.cj s.fm s.b5
structure qG(w:World)(b o n:Nat)(f:Nat->h3):Prop where
 bx:∀i,i<n->w.cell? ⟨b,o+i*5,none⟩=some (ah (f i).k)
 c1:∀i,i<n->w.cell? ⟨b,o+i*5+1,none⟩=some (ah (f i).lm)
 c2:∀i,i<n->w.cell? ⟨b,o+i*5+2,none⟩=some (ah (f i).cj)
 c3:∀i,i<n->w.cell? ⟨b,o+i*5+3,none⟩=some (ah (f i).fm)
 c4:∀i,i<n->w.cell? ⟨b,o+i*5+4,none⟩=some (ah (f i).b5)
def qG.keep{b:Nat}{f:Nat->h3}(h:qG w b o n f)(g:w.grownBy w' none):qG w' b o n f:=
 ⟨λi c=>g.cell (h.bx i c) aF,λi c=>g.cell (h.c1 i c) aF,λi c=>g.cell (h.c2 i c) aF,λi c=>g.cell (h.c3 i c) aF,λi c=>g.cell (h.c4 i c) aF⟩
def rU(d:cC)(p:eg)(w:World)(e:Ending)(w':World):Prop:=∃T,e=.returned (.tuple #[.pointer (some ⟨T,0,none⟩),ah 0])/\w.heap.size<=T/\w'.heap[T]?=some (.cells (nD d p) 100)/\w.grownBy w' none
def yO{w2:World}{a0 d f a3:Value}{t:TypeId}(c:(w.alloc (.cells #[a0,d,f,a3] t)).grownBy w2 none):w2.cell? ⟨w.heap.size,0,none⟩=some a0/\w2.cell? ⟨w.heap.size,1,none⟩=some d/\w2.cell? ⟨w.heap.size,2,none⟩=some f/\w2.cell? ⟨w.heap.size,3,none⟩=some a3/\w.heap.size<w2.heap.size:=
 ⟨c.cell (a:=⟨w.heap.size,0,none⟩) (dR rfl) aF,c.cell (a:=⟨w.heap.size,1,none⟩) (dR rfl) aF,c.cell (a:=⟨w.heap.size,2,none⟩) (dR rfl) aF,c.cell (a:=⟨w.heap.size,3,none⟩) (dR rfl) aF,by have:=c.size;rw[cV]at this;omega⟩
def fM(w:World)(o:Obj):(w.alloc o).heap[w.heap.size]?=some o:=by show(w.heap.push o)[w.heap.size]?=_;rw[iq,if_pos rfl]
def Ab[S:Std A](d:cC)(ok:d.ok)(p:eg)(w:World)(h:e' w d p):Calls (ao A) 39 #[.agg (dv d p),.slice none 0 0] w (rU d p w):=by
 have g:=h.keep (dU w (.cells (dv d p) 25) none);go_enter (S.f Tryz.func39),Tryz.ntmps39;go_wp2_with (go_at_call 18;refine(yV d ok p _ g).mono ?_;rintro e w2 ⟨rfl,c⟩;obtain⟨j,l,o,q,r⟩:=yO c;have f:=al ((dU w (.cells (dv d p) 25) none).trans c);clear c)
 go_loop [17] (λi=>i=ah 0) (λ_=>0)
 case atStart=>rfl
 case round=>
  subst hrel;go_wp2;go_ret2
  exact⟨w2.heap.size,rfl,U,fM _ _,f.out.trans bT⟩
def Ac[S:Std A](d:cC)(ok:d.ok)(p:eg)(w:World)(h:e' w d p)(b o n c:Nat)(V:n<=4)(f:Nat->h3)(j:qG w b o n f)(I:∀i,i<n->(f i).ok d):
 Calls (ao A) 39 #[.agg (dv d p),.slice (some ⟨b,o,none⟩) n c] w (rU d p w):=by
 have F:=h.keep (dU w (.cells (dv d p) 25) none);have H:=ok.kinds;have E:=al j;clear j;go_enter (S.f Tryz.func39),Tryz.ntmps39;go_wp2_with (go_at_call 18;refine(yV d ok p _ F).mono ?_;rintro e w2 ⟨rfl,u⟩;have B:=al u;clear u)
 go_loopw [17] (λi wr=>∃k:Nat,k<=n/\i=ah k/\(w.alloc (.cells (dv d p) 25)).grownBy wr none) (λi _=>n-(intOf i).toNat)
 case atStart=>exact⟨0,U,by go_num,B.out⟩
 case round=>
  obtain⟨k,T,rfl,q⟩:=hrel;obtain⟨M,P,Q,R,W⟩:=yO q;have g:=(dU w (.cells (dv d p) 25) none).trans q;have j:=E.out.keep g;have D:=al q;clear q;by_cases l:k<n
  .have bx:=j.bx k l
   have J:=j.c1 k l;have K:=j.c2 k l;have c3:=j.c3 k l;have L:=j.c4 k l;have O:=I k l;clear j g;go_wp2_with (go_at_call 36;refine(Qv d H.2 p (f k).k (f k).lm (f k).cj (f k).fm (f k).b5 O.k O.l O.bE O.f O.hF O.x _).mono ?_;rintro e X ⟨rfl,z⟩;have r:=(D.out.trans bT).trans z;have C:=al r;clear z r)
   go_roundw
   case rel=>exact⟨k+1,U,by go_num,C.out⟩
   case measure=>simp[intOf];omega
  .have G:=al g
   clear j g;go_wp2;go_ret2
   exact⟨wr.heap.size,rfl,U,fM _ _,G.out.trans bT⟩
def cF(a b:Int):Value:=.agg #[ah a,ah b]
def uv{a d:Int}(h:cF a b=cF c d):a=c/\b=d:=by simpa [cF]using h
def nK(k:TypeId):Prop:=k=67\/k=137\/k=171
def J8(n:Nat)(x y:Int)(w:World):Sem.run (ao A) (Op.equalIn (n+1) 3 (ah x) (ah y)) w=.ok (x == y) w:=by unfold Op.equalIn;kernel_rfl
def Nb(x y:Value)(w:World):Sem.run (ao A) (part 3 #[x,y] 0) w=.ok x w:=av
def Nc(x y:Value)(w:World):Sem.run (ao A) (part 3 #[x,y] 1) w=.ok y w:=av
def J9(h:nK k)(a b c d:Int)(w:World):Sem.run (ao A) (Op.equal k (cF a b) (cF c d)) w=.ok (a == c && b == d) w:=by
 simp only[Op.equal,Op.maxDepth];rw[show(10000:Nat)=9998+1+1 from rfl];unfold Op.equalIn;rcases h with rfl|rfl|rfl
 all_goals
  by_cases f:a=c<;>by_cases g:b=d<;>simp[cF,Nb,Nc,J8 9998,Result.andThen,f,g]
def yW(c:nK k)(e:Bool)(a b:Int)(w:World):Sem.run (ao A) (Instr.checkKey e 10000 k (cF a b)) w=.ok () w:=by
 rcases c with rfl|rfl|rfl
 all_goals kernel_rfl
def Rw(c:nK k):∃ba,(ao A).underlying k=some (.struct ba):=by
 rcases c with rfl|rfl|rfl
 .exact⟨_,ao.underlying64 A⟩
 .exact⟨_,ao.underlying151 A⟩
 .exact⟨_,ao.underlying182 A⟩
def yq(es:List MapEntry):Prop:=∀e∈es,∃a b,e.key=cF a b
noncomputable def g0(a b:Int)(e:MapEntry):Bool:=@decide (e.key=cF a b) (Classical.propDecidable _)
def q3{a:Int}:g0 a b e=true↔e.key=cF a b:=by unfold g0;exact @decide_eq_true_iff _ (Classical.propDecidable _)
def um{a:Int}:g0 a b e=false↔e.key≠cF a b:=by unfold g0;exact @decide_eq_false_iff_not _ (Classical.propDecidable _)
def HI(F:nK k)(a b:Int)(w:World):∀(es:List MapEntry) (i:Nat),yq es->
 (Sem.run (ao A) (Instr.findAsking k (cF a b) es i) w=.ok none w/\es.find? (g0 a b)=none)\/∃j e,Sem.run (ao A) (Instr.findAsking k (cF a b) es i) w=.ok (some (i+j,e.val)) w/\es[j]?=some e/\g0 a b e=true/\(∀bw g,bw<j->es[bw]?=some g->g0 a b g=false)/\es.find? (g0 a b)=some e:=by
 intro es;induction es with
 |nil=>intro i _;exact .inl ⟨rfl,rfl⟩
 |cons e es H=>
  intro i h;obtain⟨c,d,q⟩:=h e aF;have run:Sem.run (ao A) (Instr.findAsking k (cF a b) (e::es) i) w=Sem.run (ao A) ((Op.equal k (cF a b) e.key).bind λr=>if r then pure (some (i,e.val))else Instr.findAsking k (cF a b) es (i+1)) w:=rfl;rw[run,eL,q,J9 F];show(Sem.run (ao A) (if (a == c && b == d)then pure (some (i,e.val))else Instr.findAsking k (cF a b) es (i+1)) w=_/\_)\/∃j u,Sem.run (ao A) (if (a == c && b == d)then pure (some (i,e.val))else Instr.findAsking k (cF a b) es (i+1)) w=_/\_;by_cases p:(a == c && b == d)=true
  .have f:g0 a b e=true:=by simp at p;rw[q3,q,p.1,p.2]
   rw[p];refine .inr ⟨0,e,rfl,rfl,f,λbw g E=>U,?_⟩;simp[List.find?,f]
  .have z:(a == c && b == d)=false:=by simpa using p
   have f:g0 a b e=false:=by rw[um,q];intro e;obtain⟨l,o⟩:=uv e;subst l;subst o;simp at z
   rw[z];rcases H (i+1) (λy G=>h y (by simp[G]))with⟨l,o⟩|⟨j,u,l,o,B,C,D⟩
   .exact .inl ⟨l,by simp[List.find?,f,o]⟩
   .refine .inr ⟨j+1,u,?_,by simpa using o,B,λbw g E he=>?_,by simp[List.find?,f,D]⟩
    .show Sem.run (ao A) (Instr.findAsking k (cF a b) es (i+1)) w=_
     rw[l];congr 3;omega
    .rcases bw with _|bw
     .simp at he;subst he;exact f
     .exact C bw g U (by simpa using he)
def zi(i:nK k)(a b:Int)(w:World)(es:List MapEntry)(h:yq es):
 (Sem.run (ao A) (Instr.findKey k (cF a b) es) w=.ok none w/\es.find? (g0 a b)=none)\/∃j e,Sem.run (ao A) (Instr.findKey k (cF a b) es) w=.ok (some (j,e.val)) w/\es[j]?=some e/\g0 a b e=true/\(∀bw g,bw<j->es[bw]?=some g->g0 a b g=false)/\es.find? (g0 a b)=some e:=by
 obtain⟨ba,hu⟩:=Rw (A:=A) i;have p:Sem.run (ao A) (Instr.findKey k (cF a b) es) w=Sem.run (ao A) (Instr.findAsking k (cF a b) es) w:=by
  show Sem.run (ao A) ((underlying k).bind λd=>match Instr.findNow d (cF a b) es 0 with|some r=>pure r|none=>Instr.findAsking k (cF a b) es) w=_;rw[eL,run_underlying hu];cases es with
  |nil=>rfl
  |cons e es=>
   obtain⟨c,d,o⟩:=h e aF;have:Instr.findNow (.struct ba) (cF a b) (e::es) 0=none:=by unfold Instr.findNow;rw[o];rfl
   show Sem.run (ao A) (match Instr.findNow (.struct ba) (cF a b) (e::es) 0 with|some r=>pure r|none=>Instr.findAsking k (cF a b) (e::es)) w=_;rw[this]
 rw[p];rcases HI i a b w es 0 h with f|⟨j,e,f,l⟩
 .exact .inl f
 .exact .inr ⟨j,e,by rw[f,Nat.zero_add],l⟩
def ij(w:World)(m:Nat)(M:Int->Int->Option Value):Prop:=∃es clock,w.heap[m]?=some (.map es clock)/\yq es.toList/\∀a b,M a b=(es.toList.find? (g0 a b)).map (·.val)
def l1(M:Int->Int->Option Value)(a b:Int)(v:Value)(c d:Int):Option Value:=if c=a/\d=b then some v else M c d
def ij.new(w:World)(m:Nat)(c:Nat)(h:w.heap[m]?=some (.map #[] c)):ij w m (λ_ _=>none):=⟨#[],c,h,λe he=>by simp at he,λa b=>rfl⟩
def ij.keep(h:ij w m M)(g:w.grownBy w' row)(j:some m≠row):ij w' m M:=by obtain⟨es,c,d,f,i⟩:=h;exact⟨es,c,(g.block m (bu d) j).trans d,f,i⟩
def Dr(a b:Int)(w:World):Sem.run (ao A) (Instr.keyThatStays (cF a b) (cF a b)) w=.ok (cF a b) w:=by
 have h:Instr.sameBits 10000 (cF a b) (cF a b)=true:=by show Instr.sameBits (9998+1+1) (cF a b) (cF a b)=true;unfold cF;simp[Instr.sameBits]
 unfold Instr.keyThatStays;rw[h];rfl
def uf{o:Obj}(h:w.heap[m]?=some o)(hm:∃es c,o=.map es c):Sem.run (ao A) (getObj m) w=.ok o w:=by obtain⟨es,c,rfl⟩:=hm;unfold getObj;simp[Sem.run,h]
def sy(u:(ao A).underlying mt=some (.map k el))(f:nK k)(g:∀w,Sem.run (ao A) (zeroValue el) w=.ok z w)(h:ij w m M)(a b:Int)(c:Bool):
 Sem.run (ao A) (Instr.lookup mt (.map (some m)) (cF a b) c) w=.ok (if c then .tuple #[(M a b).getD z,.bool (M a b).isSome]else(M a b).getD z) w:=by
 obtain⟨es,clock,o,p,q⟩:=h;have l:Sem.run (ao A) (Instr.lookup mt (.map (some m)) (cF a b) c) w=Sem.run (ao A) ((Instr.findKey k (cF a b) es.toList).bind λr=>(match r with|some (_,v)=>(pure (v,true):Sem (Value×Bool))|none=>(zeroValue el).bind λz=>pure (z,false)).bind λx=>pure (if c then .tuple #[x.1,.bool x.2]else x.1)) w:=by
  unfold Instr.lookup;show Sem.run (ao A) ((underlying mt).bind _) w=_;rw[eL,run_underlying u];show Sem.run (ao A) (((getObj m).bind _).bind _) w=_;rw[eL,eL,uf o ⟨_,_,rfl⟩];show Sem.run (ao A) ((Instr.checkKey es.isEmpty 10000 k (cF a b)).bind _) w=_;rw[eL,yW f];show Sem.run (ao A) ((Instr.findKey k (cF a b) es.toList).bind _) w=_;rw[eL,eL];cases Sem.run (ao A) (Instr.findKey k (cF a b) es.toList) w with
  |halt h w=>rfl
  |ok r w=>
   rcases r with _|⟨i,v⟩
   .show Sem.run (ao A) ((zeroValue el).bind _) w=Sem.run (ao A) (((zeroValue el).bind _).bind _) w
    rw[eL,eL,eL,g];rfl
   .rfl
 rw[l,eL,q];rcases zi f a b w es.toList p with⟨r,d⟩|⟨j,e,r,_,_,_,d⟩
 .rw[r,d]
  show Sem.run (ao A) (((zeroValue el).bind _).bind _) w=_;rw[eL,eL,g];rfl
 .rw[r,d]
  rfl
def C6(a b:Int)(v:Value)(c d:Int):∀(es:List MapEntry) (j:Nat) (e:MapEntry),es[j]?=some e->g0 a b e=true->(∀bw g,bw<j->es[bw]?=some g->g0 a b g=false)->
 ((es.modify j λx=>{x with key:=cF a b,val:=v}).find? (g0 c d)).map (·.val)=if c=a/\d=b then some v else(es.find? (g0 c d)).map (·.val):=by
 intro es;induction es with
 |nil=>intro j e h;simp at h
 |cons x es q=>
  intro j e h p o;rcases j with _|j
  .simp at h
   subst h;simp only[List.modify_zero_cons,List.find?_cons];by_cases f:c=a/\d=b
   .obtain⟨rfl,rfl⟩:=f
    have:g0 c d {x with key:=cF c d,val:=v}=true:=q3.2 rfl;simp[this]
   .have i:g0 c d {x with key:=cF a b,val:=v}=false:=um.2 λe=>f (by obtain⟨i,l⟩:=uv e;exact⟨i.symm,l.symm⟩)
    have l:g0 c d x=false:=um.2 λe=>f (by rw[q3.1 p]at e;obtain⟨i,l⟩:=uv e;exact⟨i.symm,l.symm⟩)
    simp[i,l,f]
  .have u:g0 a b x=false:=o 0 x U rfl
   simp only[List.modify_succ_cons,List.find?_cons];by_cases f:c=a/\d=b
   .obtain⟨rfl,rfl⟩:=f
    rw[u];have:=q j e (by simpa using h) p λbw g r he=>o (bw+1) g U (by simpa using he)
    simpa using this
   .cases w:g0 c d x with
    |true=>simp[f]
    |false=>
     have:=q j e (by simpa using h) p λbw g r he=>o (bw+1) g U (by simpa using he)
     simpa [f]using this
def Dx(J:(ao A).underlying mt=some (.map k el))(D:nK k)(h:ij w m M)(a b:Int)(v:Value):
 ∃w',Sem.run (ao A) (Instr.mapUpdate mt (.map (some m)) (cF a b) v) w=.ok () w'/\ij w' m (l1 M a b v)/\w.grownBy w' (some m)/\w'.heap.size=w.heap.size:=by
 obtain⟨es,clock,g,l,B⟩:=h;have I:=bu g;have F:Sem.run (ao A) (Instr.mapUpdate mt (.map (some m)) (cF a b) v) w=Sem.run (ao A) ((Instr.findKey k (cF a b) es.toList).bind λr=>match r with
  |some (i,_)=>(Instr.keyThatStays (((es[i]?).map (·.key)).getD (cF a b)) (cF a b)).bind λkey=>setObj m (.map (es.modify i λe=>{e with key,val:=v}) clock)
  |none=>setObj m (.map (es.push {key:=cF a b,val:=v,born:=clock}) (clock+1))) w:=by
  unfold Instr.mapUpdate;show Sem.run (ao A) ((underlying mt).bind _) w=_;rw[eL,run_underlying J];show Sem.run (ao A) ((getObj m).bind _) w=_;rw[eL,uf g ⟨_,_,rfl⟩];show Sem.run (ao A) ((Instr.checkKey false 10000 k (cF a b)).bind _) w=_;rw[eL,yW D];rfl
 have st:∀o,Sem.run (ao A) (setObj m o) w=.ok () {w with heap:=w.heap.setIfInBounds m o}:=λo=>by unfold setObj;simp[Sem.run,g]
 have z:∀o,w.grownBy {w with heap:=w.heap.setIfInBounds m o} (some m):=λo=>⟨rfl,rfl,rfl,aF,λj _ p=>by show(w.heap.setIfInBounds m o)[j]?=_;rw[h7 (λe=>p (by rw[e]))]⟩
 have at_:∀o,(w.heap.setIfInBounds m o)[m]?=some o:=λo=>by rw[iO I]
 rw[F,eL];rcases zi D a b w es.toList l with⟨r,E⟩|⟨j,e,r,p,C,G,E⟩
 .rw[r]
  refine⟨_,st _,⟨_,_,at_ _,λx hx=>?_,λc d=>?_⟩,z _,aF⟩
  .rw[Array.toList_push]at hx
   rcases List.mem_append.1 hx with hx|hx
   .exact l x hx
   .rw[ev hx];exact⟨a,b,rfl⟩
  .rw[Array.toList_push,List.find?_append,l1]
   by_cases q:c=a/\d=b
   .obtain⟨rfl,rfl⟩:=q
    have:g0 c d {key:=cF c d,val:=v,born:=clock}=true:=q3.2 rfl;simp[E,this]
   .have:g0 c d {key:=cF a b,val:=v,born:=clock}=false:=um.2 λe=>q (by obtain⟨g,l⟩:=uv e;exact⟨g.symm,l.symm⟩)
    rw[if_neg q,B];simp[this]
 .rw[r]
  have H:((es[j]?).map (·.key)).getD (cF a b)=cF a b:=by
   have:es[j]?=some e:=by rw[<-Array.getElem?_toList];exact p
   rw[this];exact q3.1 C
  show ∃w',Sem.run (ao A) ((Instr.keyThatStays (((es[j]?).map (·.key)).getD (cF a b)) (cF a b)).bind _) w=_/\_;rw[H,eL,Dr];refine⟨_,st _,⟨_,_,at_ _,λx hx=>?_,λc d=>?_⟩,z _,aF⟩
  .rw[Array.toList_modify]at hx
   obtain⟨i,f⟩:=List.mem_iff_getElem?.1 hx;rw[List.getElem?_modify]at f;cases u:es.toList[i]? with
   |none=>rw[u]at f;cases f
   |some y=>
    rw[u]at f;simp at f;split at f
    .subst f;exact⟨a,b,rfl⟩
    .subst f;exact l y (hk u)
  .rw[Array.toList_modify,C6 a b v c d es.toList j e p C G,l1,B]
def ep(a:Int):Value:=ah a
def wS{a:Int}(h:ep a=ep c):a=c:=by simpa [ep]using h
def Co(c:k=3)(e:Bool)(a:Int)(w:World):Sem.run (ao A) (Instr.checkKey e 10000 k (ep a)) w=.ok () w:=by subst c;kernel_rfl
def yp(es:List MapEntry):Prop:=∀e∈es,∃a,e.key=ep a
noncomputable def h8(a:Int)(e:MapEntry):Bool:=@decide (e.key=ep a) (Classical.propDecidable _)
def uk{a:Int}:h8 a e=true↔e.key=ep a:=by unfold h8;exact @decide_eq_true_iff _ (Classical.propDecidable _)
def wG{a:Int}:h8 a e=false↔e.key≠ep a:=by unfold h8;exact @decide_eq_false_iff_not _ (Classical.propDecidable _)
def My(a:Int):∀(es:List MapEntry) (i:Nat),yp es->
 (Instr.findNow (.int .i64) (ep a) es i=some none/\es.find? (h8 a)=none)\/∃j e,Instr.findNow (.int .i64) (ep a) es i=some (some (i+j,e.val))/\es[j]?=some e/\h8 a e=true/\(∀bw g,bw<j->es[bw]?=some g->h8 a g=false)/\es.find? (h8 a)=some e:=by
 intro es;induction es with
 |nil=>intro i _;exact .inl ⟨rfl,rfl⟩
 |cons e es C=>
  intro i h;obtain⟨c,p⟩:=h e aF;have run:Instr.findNow (.int .i64) (ep a) (e::es) i=if a=c then some (some (i,e.val))else Instr.findNow (.int .i64) (ep a) es (i+1):=by
   rw[Instr.findNow,p];by_cases d:a=c
   .simp[Instr.sameNow,ep,d]
   .have:(a == c)=false:=by simpa using d
    rw[if_neg d];simp[Instr.sameNow,ep,this]
  rw[run];by_cases d:a=c
  .have f:h8 a e=true:=by rw[uk,p,d]
   rw[if_pos d];refine .inr ⟨0,e,rfl,rfl,f,λbw g z=>U,?_⟩;simp[List.find?,f]
  .have f:h8 a e=false:=by rw[wG,p];intro e;exact d (wS e).symm
   rw[if_neg d];rcases C (i+1) (λy B=>h y (by simp[B]))with⟨l,o⟩|⟨j,q,l,o,r,u,w⟩
   .exact .inl ⟨l,by simp[List.find?,f,o]⟩
   .refine .inr ⟨j+1,q,?_,by simpa using o,r,λbw g z he=>?_,by simp[List.find?,f,w]⟩
    .rw[l]
     congr 3;omega
    .rcases bw with _|bw
     .simp at he;subst he;exact f
     .exact u bw g U (by simpa using he)
def C7(i:k=3)(a:Int)(w:World)(es:List MapEntry)(h:yp es):
 (Sem.run (ao A) (Instr.findKey k (ep a) es) w=.ok none w/\es.find? (h8 a)=none)\/∃j e,Sem.run (ao A) (Instr.findKey k (ep a) es) w=.ok (some (j,e.val)) w/\es[j]?=some e/\h8 a e=true/\(∀bw g,bw<j->es[bw]?=some g->h8 a g=false)/\es.find? (h8 a)=some e:=by
 subst i;have l:Sem.run (ao A) (Instr.findKey 3 (ep a) es) w=Sem.run (ao A) (match Instr.findNow (.int .i64) (ep a) es 0 with|some r=>pure r|none=>Instr.findAsking 3 (ep a) es) w:=by show Sem.run (ao A) ((underlying 3).bind λd=>match Instr.findNow d (ep a) es 0 with|some r=>pure r|none=>Instr.findAsking 3 (ep a) es) w=_;rw[eL,run_underlying (ao.underlying3 A)];rfl
 rw[l];rcases My a es 0 h with⟨c,f⟩|⟨j,e,c,f⟩
 .exact .inl ⟨by rw[c];rfl,f⟩
 .exact .inr ⟨j,e,by rw[c,Nat.zero_add];rfl,f⟩
def j'(w:World)(m:Nat)(M:Int->Option Value):Prop:=∃es clock,w.heap[m]?=some (.map es clock)/\yp es.toList/\∀a,M a=(es.toList.find? (h8 a)).map (·.val)
def oW(M:Int->Option Value)(a:Int)(v:Value)(c:Int):Option Value:=if c=a then some v else M c
def j'.new(w:World)(m:Nat)(c:Nat)(h:w.heap[m]?=some (.map #[] c)):j' w m (λ_=>none):=⟨#[],c,h,λe he=>by simp at he,λa=>rfl⟩
def j'.keep{M:Int->Option Value}(h:j' w m M)(g:w.grownBy w' row)(j:some m≠row):j' w' m M:=by obtain⟨es,c,d,f,i⟩:=h;exact⟨es,c,(g.block m (bu d) j).trans d,f,i⟩
def Lf(a:Int)(w:World):Sem.run (ao A) (Instr.keyThatStays (ep a) (ep a)) w=.ok (ep a) w:=by
 have h:Instr.sameBits 10000 (ep a) (ep a)=true:=by show Instr.sameBits (9999+1) (ep a) (ep a)=true;unfold ep;simp[Instr.sameBits]
 unfold Instr.keyThatStays;rw[h];rfl
def wT(u:(ao A).underlying mt=some (.map k el))(f:k=3)(g:∀w,Sem.run (ao A) (zeroValue el) w=.ok z w){M:Int->Option Value}(h:j' w m M)(a:Int)(c:Bool):
 Sem.run (ao A) (Instr.lookup mt (.map (some m)) (ep a) c) w=.ok (if c then .tuple #[(M a).getD z,.bool (M a).isSome]else(M a).getD z) w:=by
 obtain⟨es,clock,o,p,q⟩:=h;have l:Sem.run (ao A) (Instr.lookup mt (.map (some m)) (ep a) c) w=Sem.run (ao A) ((Instr.findKey k (ep a) es.toList).bind λr=>(match r with|some (_,v)=>(pure (v,true):Sem (Value×Bool))|none=>(zeroValue el).bind λz=>pure (z,false)).bind λx=>pure (if c then .tuple #[x.1,.bool x.2]else x.1)) w:=by
  unfold Instr.lookup;show Sem.run (ao A) ((underlying mt).bind _) w=_;rw[eL,run_underlying u];show Sem.run (ao A) (((getObj m).bind _).bind _) w=_;rw[eL,eL,uf o ⟨_,_,rfl⟩];show Sem.run (ao A) ((Instr.checkKey es.isEmpty 10000 k (ep a)).bind _) w=_;rw[eL,Co f];show Sem.run (ao A) ((Instr.findKey k (ep a) es.toList).bind _) w=_;rw[eL,eL];cases Sem.run (ao A) (Instr.findKey k (ep a) es.toList) w with
  |halt h w=>rfl
  |ok r w=>
   rcases r with _|⟨i,v⟩
   .show Sem.run (ao A) ((zeroValue el).bind _) w=Sem.run (ao A) (((zeroValue el).bind _).bind _) w
    rw[eL,eL,eL,g];rfl
   .rfl
 rw[l,eL,q];rcases C7 f a w es.toList p with⟨r,d⟩|⟨j,e,r,_,_,_,d⟩
 .rw[r,d]
  show Sem.run (ao A) (((zeroValue el).bind _).bind _) w=_;rw[eL,eL,g];rfl
 .rw[r,d]
  rfl
def KH(a:Int)(v:Value)(c:Int):∀(es:List MapEntry) (j:Nat) (e:MapEntry),es[j]?=some e->h8 a e=true->(∀bw f,bw<j->es[bw]?=some f->h8 a f=false)->
 ((es.modify j λx=>{x with key:=ep a,val:=v}).find? (h8 c)).map (·.val)=if c=a then some v else(es.find? (h8 c)).map (·.val):=by
 intro es;induction es with
 |nil=>intro j e h;simp at h
 |cons x es l=>
  intro j e h i g;rcases j with _|j
  .simp at h
   subst h;simp only[List.modify_zero_cons,List.find?_cons];by_cases d:c=a
   .subst d
    have:h8 c {x with key:=ep c,val:=v}=true:=uk.2 rfl;simp[this]
   .have o:h8 c {x with key:=ep a,val:=v}=false:=wG.2 λe=>d (by exact(wS e).symm)
    have p:h8 c x=false:=wG.2 λe=>d (by rw[uk.1 i]at e;exact(wS e).symm)
    simp[o,p,d]
  .have r:h8 a x=false:=g 0 x U rfl
   simp only[List.modify_succ_cons,List.find?_cons];by_cases d:c=a
   .subst d
    rw[r];have:=l j e (by simpa using h) i λbw f q he=>g (bw+1) f U (by simpa using he)
    simpa using this
   .cases u:h8 c x with
    |true=>simp[d]
    |false=>
     have:=l j e (by simpa using h) i λbw f q he=>g (bw+1) f U (by simpa using he)
     simpa [d]using this
def Dt(I:(ao A).underlying mt=some (.map k el))(C:k=3){M:Int->Option Value}(h:j' w m M)(a:Int)(v:Value):
 ∃w',Sem.run (ao A) (Instr.mapUpdate mt (.map (some m)) (ep a) v) w=.ok () w'/\j' w' m (oW M a v)/\w.grownBy w' (some m)/\w'.heap.size=w.heap.size:=by
 obtain⟨es,clock,g,l,z⟩:=h;have H:=bu g;have E:Sem.run (ao A) (Instr.mapUpdate mt (.map (some m)) (ep a) v) w=Sem.run (ao A) ((Instr.findKey k (ep a) es.toList).bind λr=>match r with
  |some (i,_)=>(Instr.keyThatStays (((es[i]?).map (·.key)).getD (ep a)) (ep a)).bind λkey=>setObj m (.map (es.modify i λe=>{e with key,val:=v}) clock)
  |none=>setObj m (.map (es.push {key:=ep a,val:=v,born:=clock}) (clock+1))) w:=by
  unfold Instr.mapUpdate;show Sem.run (ao A) ((underlying mt).bind _) w=_;rw[eL,run_underlying I];show Sem.run (ao A) ((getObj m).bind _) w=_;rw[eL,uf g ⟨_,_,rfl⟩];show Sem.run (ao A) ((Instr.checkKey false 10000 k (ep a)).bind _) w=_;rw[eL,Co C];rfl
 have st:∀o,Sem.run (ao A) (setObj m o) w=.ok () {w with heap:=w.heap.setIfInBounds m o}:=λo=>by unfold setObj;simp[Sem.run,g]
 have u:∀o,w.grownBy {w with heap:=w.heap.setIfInBounds m o} (some m):=λo=>⟨rfl,rfl,rfl,aF,λj _ f=>by show(w.heap.setIfInBounds m o)[j]?=_;rw[h7 (λe=>f (by rw[e]))]⟩
 have at_:∀o,(w.heap.setIfInBounds m o)[m]?=some o:=λo=>by rw[iO H]
 rw[E,eL];rcases C7 C a w es.toList l with⟨r,D⟩|⟨j,e,r,f,B,F,D⟩
 .rw[r]
  refine⟨_,st _,⟨_,_,at_ _,λx hx=>?_,λc=>?_⟩,u _,aF⟩
  .rw[Array.toList_push]at hx
   rcases List.mem_append.1 hx with hx|hx
   .exact l x hx
   .rw[ev hx];exact⟨a,rfl⟩
  .rw[Array.toList_push,List.find?_append,oW]
   by_cases p:c=a
   .subst p
    have:h8 c {key:=ep c,val:=v,born:=clock}=true:=uk.2 rfl;simp[D,this]
   .have:h8 c {key:=ep a,val:=v,born:=clock}=false:=wG.2 λe=>p (by exact(wS e).symm)
    rw[if_neg p,z];simp[this]
 .rw[r]
  have G:((es[j]?).map (·.key)).getD (ep a)=ep a:=by
   have:es[j]?=some e:=by rw[<-Array.getElem?_toList];exact f
   rw[this];exact uk.1 B
  show ∃w',Sem.run (ao A) ((Instr.keyThatStays (((es[j]?).map (·.key)).getD (ep a)) (ep a)).bind _) w=_/\_;rw[G,eL,Lf];refine⟨_,st _,⟨_,_,at_ _,λx hx=>?_,λc=>?_⟩,u _,aF⟩
  .rw[Array.toList_modify]at hx
   obtain⟨i,d⟩:=List.mem_iff_getElem?.1 hx;rw[List.getElem?_modify]at d;cases q:es.toList[i]? with
   |none=>rw[q]at d;cases d
   |some y=>
    rw[q]at d;simp at d;split at d
    .subst d;exact⟨a,rfl⟩
    .subst d;exact l y (hk q)
  .rw[Array.toList_modify,KH a v c es.toList j e f B F,oW,z]
def Lj(L:(ao A).underlying mt=some (.map k el))(E:nK k)(h:ij w m M)(a b:Int)(v:Value):
 ∃w',Sem.run (ao A) (Instr.mapUpdate mt (.map (some m)) (cF a b) v) w=.ok () w'/\ij w' m (l1 M a b v)/\w.grownBy w' (some m)/\w'.heap.size=w.heap.size/\∀es c,w'.heap[m]?=some (.map es c)->∀e∈es.toList,e.val=v\/∃z bx,w.heap[m]?=some (.map z bx)/\∃G∈z.toList,G.val=e.val:=by
 obtain⟨es,clock,g,p,C⟩:=h;have K:=bu g;have H:Sem.run (ao A) (Instr.mapUpdate mt (.map (some m)) (cF a b) v) w=Sem.run (ao A) ((Instr.findKey k (cF a b) es.toList).bind λr=>match r with
  |some (i,_)=>(Instr.keyThatStays (((es[i]?).map (·.key)).getD (cF a b)) (cF a b)).bind λkey=>setObj m (.map (es.modify i λe=>{e with key,val:=v}) clock)
  |none=>setObj m (.map (es.push {key:=cF a b,val:=v,born:=clock}) (clock+1))) w:=by
  unfold Instr.mapUpdate;show Sem.run (ao A) ((underlying mt).bind _) w=_;rw[eL,run_underlying L];show Sem.run (ao A) ((getObj m).bind _) w=_;rw[eL,uf g ⟨_,_,rfl⟩];show Sem.run (ao A) ((Instr.checkKey false 10000 k (cF a b)).bind _) w=_;rw[eL,yW E];rfl
 have st:∀o,Sem.run (ao A) (setObj m o) w=.ok () {w with heap:=w.heap.setIfInBounds m o}:=λo=>by unfold setObj;simp[Sem.run,g]
 have B:∀o,w.grownBy {w with heap:=w.heap.setIfInBounds m o} (some m):=λo=>⟨rfl,rfl,rfl,aF,λj _ q=>by show(w.heap.setIfInBounds m o)[j]?=_;rw[h7 (λe=>q (by rw[e]))]⟩
 have at_:∀o,(w.heap.setIfInBounds m o)[m]?=some o:=λo=>by rw[iO K]
 rw[H,eL];rcases zi E a b w es.toList p with⟨r,F⟩|⟨j,e,r,q,D,I,F⟩
 .rw[r]
  refine⟨_,st _,⟨_,_,at_ _,λx hx=>?_,λc d=>?_⟩,B _,aF,λfg bp he x hx=>?_⟩
  .rw[Array.toList_push]at hx
   rcases List.mem_append.1 hx with hx|hx
   .exact p x hx
   .rw[ev hx];exact⟨a,b,rfl⟩
  .rw[Array.toList_push,List.find?_append,l1]
   by_cases u:c=a/\d=b
   .obtain⟨rfl,rfl⟩:=u
    have:g0 c d {key:=cF c d,val:=v,born:=clock}=true:=q3.2 rfl;simp[F,this]
   .have:g0 c d {key:=cF a b,val:=v,born:=clock}=false:=um.2 λe=>u (by obtain⟨g,p⟩:=uv e;exact⟨g.symm,p.symm⟩)
    rw[if_neg u,C];simp[this]
  .rw[at_ _]at he
   cases he;rw[Array.toList_push]at hx;rcases List.mem_append.1 hx with hx|hx
   .exact .inr ⟨_,_,g,x,hx,rfl⟩
   .rw[ev hx];exact .inl rfl
 .rw[r]
  have J:((es[j]?).map (·.key)).getD (cF a b)=cF a b:=by
   have:es[j]?=some e:=by rw[<-Array.getElem?_toList];exact q
   rw[this];exact q3.1 D
  show ∃w',Sem.run (ao A) ((Instr.keyThatStays (((es[j]?).map (·.key)).getD (cF a b)) (cF a b)).bind _) w=_/\_;rw[J,eL,Dr];refine⟨_,st _,⟨_,_,at_ _,λx hx=>?_,λc d=>?_⟩,B _,aF,λfg bp he x hx=>?_⟩
  .rw[Array.toList_modify]at hx
   obtain⟨i,f⟩:=List.mem_iff_getElem?.1 hx;rw[List.getElem?_modify]at f;cases l:es.toList[i]? with
   |none=>rw[l]at f;cases f
   |some y=>
    rw[l]at f;simp at f;split at f
    .subst f;exact⟨a,b,rfl⟩
    .subst f;exact p y (hk l)
  .rw[Array.toList_modify,C6 a b v c d es.toList j e q D I,l1,C]
  .rw[at_ _]at he
   cases he;rw[Array.toList_modify]at hx;obtain⟨i,f⟩:=List.mem_iff_getElem?.1 hx;rw[List.getElem?_modify]at f;cases l:es.toList[i]? with
   |none=>rw[l]at f;cases f
   |some y=>
    rw[l]at f;simp at f;split at f
    .subst f;exact .inl rfl
    .subst f;exact .inr ⟨_,_,g,y,hk l,rfl⟩
def lu(w:World)(m:Nat)(M:Int->Int->Option Value):Prop:=ij w m M/\∀es c,w.heap[m]?=some (.map es c)->∀e∈es.toList,∃n:Int,e.val=ah n
def lu.new(w:World)(m:Nat)(c:Nat)(h:w.heap[m]?=some (.map #[] c)):lu w m (λ_ _=>none):=⟨ij.new w m c h,λes bp d e he=>by rw[h]at d;cases d;simp at he⟩
def lu.keep(h:lu w m M)(g:w.grownBy w' row)(d:some m≠row):lu w' m M:=by refine⟨h.1.keep g d,λes c e=>?_⟩;obtain⟨i,bx,f,_⟩:=h.1;have:=g.block m (bu f) d;rw[this]at e;exact h.2 es c e
def Lk(q:(ao A).underlying mt=some (.map k el))(p:nK k)(h:lu w m M)(a b n:Int):
 ∃w',Sem.run (ao A) (Instr.mapUpdate mt (.map (some m)) (cF a b) (ah n)) w=.ok () w'/\lu w' m (l1 M a b (ah n))/\w.grownBy w' (some m)/\w'.heap.size=w.heap.size:=by
 obtain⟨w',g,i,j,l,o⟩:=Lj q p h.1 a b (ah n);refine⟨w',g,⟨i,λes c e x z=>?_⟩,j,l⟩;rcases o es c e x z with h|⟨f,bx,d,C,B,u⟩
 .exact⟨n,h⟩
 .obtain⟨c9,r⟩:=h.2 f bx d C B
  exact⟨c9,u.symm.trans r⟩
end
end Go.aO
namespace Go.aO
attribute [-simp] Go.Sem.runT_eq
open Go.Proofs
def Er:Array Oper:=#[⟨some 2,.binOp .eql 81 (.tmp 0) (.const .nilIface) 81,4,"",#[],none⟩]
def Es:Array Oper:=#[⟨some 4,.assign (.const (.bool false)),4,"",#[],none⟩]
def Cw:Code:=.cond (.tmp 2) (.seq (.region 1 Es false) .ret) (.refuse "")
def xW:Code:=.seq (.region 0 Er false) Cw
def Ad:Array Oper:=#[⟨some 3,.binOp .eql 260 (.tmp 0) (.const (.pointer none)) 260,4,"",#[],none⟩]
def Ae(a:Int):Array Oper:=#[⟨some 1,.load 21 (.tmp 0),21,"",#[],none⟩,⟨some 2,.binOp .eql 21 (.tmp 1) (.const (.int .i32 a)) 21,4,"",#[⟨0,.data⟩],none⟩]
def Af(b:Int):Array Oper:=#[⟨none,.store 21 (.tmp 0) (.const (.int .i32 b)),0,"",#[],none⟩]
def yZ(a b:Int):Code:=.seq (.region 1 (Ae a) false) (.cond (.tmp 2) (.seq (.region 2 (Af b) false) .ret) (.refuse ""))
def tc(a b:Int):Code:=.seq (.region 0 Ad false) (.cond (.tmp 3) (.refuse "") (yZ a b))
noncomputable def rq:Func:={Tryz.f71 with body:=some xW,results:=#[.tmp 4],nfree:=2,endLine:=1000000007}
noncomputable def sX:Func:={Tryz.f128 with body:=some (tc 0 1),results:=#[],nfree:=1,endLine:=1000000007}
noncomputable def sY:Func:={Tryz.f129 with body:=some (tc 1 0),results:=#[],nfree:=1,endLine:=1000000007}
noncomputable def xM:List (Nat×Func):=[(71,rq),(103,Tryz.f103),(128,sX),(129,sY),(130,Tryz.f130)]
def AA:List Nat:=[79,94,95,97,98,149,205]
end Go.aO
