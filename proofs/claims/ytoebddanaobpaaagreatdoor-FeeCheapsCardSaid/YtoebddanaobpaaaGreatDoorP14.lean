/- A part. -/
import Derived.Test.YtoebddanaobpaaaGreatDoorP13
import Derived.Shelf.RegionOpenPlain
import Derived.BigQuiet
import Derived.IntWalk
import Derived.Deep.Slices
import Derived.Deep.Cut
import Derived.Deep.CutRange
set_option maxHeartbeats 8000000
set_option maxRecDepth 100000
set_option linter.all false
namespace Go.aO
open Go.Proofs Tryz Go.RowKit
variable{c:Int}{M:Int->Int->TZ}{m n:Nat}{w w':S7}{z:S9}{row:TN}{e:TY}{el k mt:Tg}
section
variable{A:TJ}
structure cC where
 kinds:Nat
 first:Nat->Int
 bk:Nat
 bV:Nat->Int
 cQ:Nat->Nat->Int
 b':Nat
 free:Nat->Int
structure eg where
 gg:Nat
 hG:Nat
 cA:Nat
 fV:Nat
 gU:Nat
 dq:Nat
 dj:Nat->Nat
 uG:Nat->Nat
 cq:Nat->Nat
 ei:TV
 dc:Nat
structure cC.ok(d:cC):Prop where
 kinds:1<=d.kinds/\d.kinds<=3
 first:∀k,k<d.kinds->0<=d.first k/\d.first k<=9
 bk:1<=d.bk/\d.bk<=3
 zero:d.bV 0=0
 bV:∀i,i<d.bk->0<=d.bV i/\d.bV i<=4
 qK:∀i,i+1<d.bk->d.bV i<d.bV (i+1)
 cQ:∀i,i<d.bk->∀k,k<d.kinds->0<=d.cQ i k/\d.cQ i k<=9
 b':d.b'<=5
 free:∀i,i<d.b'->0<=d.free i/\d.free i<=4
 C2:∀i,i+1<d.b'->d.free i<d.free (i+1)
abbrev dv(d:cC)(p:eg):Te:=#[ah d.kinds,TW p.gg p.hG d.kinds p.cA,TW p.fV p.gU d.bk p.dq,.slice p.ei d.b' p.dc]
structure e'(w:S7)(d:cC)(p:eg):Prop where
 first:gn w p.gg p.hG d.kinds d.first
 bV:∀i,i<d.bk->w.cell? (S8 p.fV (p.gU+i*2))=Tn (d.bV i)
 rows:∀i,i<d.bk->w.cell? (S8 p.fV (p.gU+i*2+1))=some (TW (p.dj i) (p.uG i) d.kinds (p.cq i))
 cQ:∀i,i<d.bk->gn w (p.dj i) (p.uG i) d.kinds (d.cQ i)
 free:d.b'≠0->∃b o,p.ei=some (S8 b o)/\gn w b o d.b' d.free
def gn.keep{b o:Nat}{f:Ty}(h:gn w b o n f)(g:w.grownBy w' row)(d:some b≠row):gn w' b o n f:=λk c=>g.cell (h k c) d
def e'.keep{d:cC}{p:eg}(h:e' w d p)(g:w.grownBy w' none):e' w' d p where
 first:=h.first.keep g aF
 bV i c:=g.cell (h.bV i c) aF
 rows i c:=g.cell (h.rows i c) aF
 cQ i c:=(h.cQ i c).keep g aF
 free f:=by let⟨b,o,e,k⟩:=h.free f;exact⟨b,o,e,k.keep g aF⟩
def hl(w:S7)(n:Nat):w.grownBy (w.drewN n) none:=⟨S6,S6,S6,bg,λ_ _ _=>S6⟩
structure dw where
 kinds:Int
 c':Nat
 first:Nat->Int
 bk:Nat
 bV:Nat->Int
 eP:Nat->Nat
 cQ:Nat->Nat->Int
 b':Nat
 free:Nat->Int
structure gz where
 eh:TV
 cA:Nat
 hH:TV
 dq:Nat
 fh:Nat->TV
 cq:Nat->Nat
 ei:TV
 dc:Nat
def kU(w:S7)(q:TV)(n:Nat)(f:Ty):Prop:=n≠0->∃b o,q=some (S8 b o)/\gn w b o n f
abbrev eB(d:dw)(p:gz):Te:=#[ah d.kinds,.slice p.eh d.c' p.cA,.slice p.hH d.bk p.dq,.slice p.ei d.b' p.dc]
structure iZ(w:S7)(d:dw)(p:gz):Prop where
 first:kU w p.eh d.c' d.first
 kM:d.bk≠0->∃b o,p.hH=some (S8 b o)/\∀i,i<d.bk->w.cell? (S8 b (o+i*2))=Tn (d.bV i)/\w.cell? (S8 b (o+i*2+1))=some (.slice (p.fh i) (d.eP i) (p.cq i))
 cQ:∀i,i<d.bk->kU w (p.fh i) (d.eP i) (d.cQ i)
 free:kU w p.ei d.b' d.free
def kU.keep{q:TV}{f:Ty}(h:kU w q n f)(g:w.grownBy w' none):kU w' q n f:=λc=>by let⟨b,o,e,k⟩:=h c;exact⟨b,o,e,k.keep g aF⟩
def iZ.keep{d:dw}{p:gz}(h:iZ w d p)(g:w.grownBy w' none):iZ w' d p where
 first:=h.first.keep g
 kM f:=by let⟨b,o,e,k⟩:=h.kM f;exact⟨b,o,e,λi c=>⟨g.cell (k i c).1 aF,g.cell (k i c).2 aF⟩⟩
 cQ i c:=(h.cQ i c).keep g
 free:=h.free.keep g
structure dw.small(d:dw):Prop where
 F:d.c'<=20
 R:d.bk<=20
 h4:d.b'<=20
 P:∀i,i<d.bk->d.eP i<=20
def SX[S:Std A](d:dw)(p:gz)(w:S7)(h:iZ w d p):
 Calls (ao A) 4 #[.agg (eB d p)] w λe w'=>(∃b,e=.returned (.bool b)/\(b=false↔d.small))/\w.grownBy w' none:=by
 have H:=al h;clear h;by_cases hF:d.c'<=20
 .have l:decide ((d.c':Int)>20)=false:=nd
  by_cases r:d.bk<=20
  .have m:decide ((d.bk:Int)>20)=false:=nd
   by_cases u:d.b'<=20
   .have n:decide ((d.b':Int)>20)=false:=nd
    go_enter (S.f func4),ntmps4;go_wp2;clear l m n;go_loopw [3] (λi wr=>∃k:Nat,k<=d.bk/\i=ah k/\(w.alloc (.cells (eB d p) 25)).grownBy wr none/\∀j,j<k->d.eP j<=20) (λi _=>d.bk-(intOf i).toNat)
    case atStart=>exact⟨0,U,by go_num,e6 _ _,λj B=>Td B U⟩
    case round=>
     obtain⟨k,I,rfl,c,q⟩:=hrel;have E:wr.cell? (S8 w.heap.size 2)=some (.slice p.hH d.bk p.dq):=c.cell (a:=(S8 w.heap.size 2)) (dR S6) aF;have g:=al q;clear q;by_cases C:k<d.bk
     .let⟨b,o,y,z⟩:=((H.out.keep bT).keep c).kM U
      have F:=(z k C).2;rw[y]at E;have q1:(k:Int)<(d.bk:Int):=U;have J:(0:Int)<=k:=U;have f:=al c;clear z y c;by_cases D:d.eP k<=20
      .have d1:decide ((d.eP k:Int)>20)=false:=nd
       go_wp2;exact⟨⟨k+1,U,by push_cast;rfl,f.out,λj B=>by
        rcases Ub j k with x|x
        .exact g.out j x
        .rw[show j=k by omega];exact D⟩,by simp[intOf];omega⟩
      .have d1:decide ((d.eP k:Int)>20)=true:=k4
       go_wp2;go_ret;exact⟨⟨_,S6,(bR),λs=>Td (s.P k C) D⟩,bT.trans f.out⟩
     .have f:=al c
      clear c;go_wp2;go_ret;exact⟨⟨_,S6,(λ_=>⟨hF,r,u,λi G=>g.out i U⟩),λ_=>S6⟩,bT.trans f.out⟩
   .have n:decide ((d.b':Int)>20)=true:=k4
    go_enter (S.f func4),ntmps4;go_wp2;go_ret;exact⟨⟨_,S6,(bR),λs=>Td s.h4 u⟩,bT⟩
  .have m:decide ((d.bk:Int)>20)=true:=k4
   go_enter (S.f func4),ntmps4;go_wp2;go_ret;exact⟨⟨_,S6,(bR),λs=>Td s.R r⟩,bT⟩
 .have l:decide ((d.c':Int)>20)=true:=k4
  go_enter (S.f func4),ntmps4;go_wp2;go_ret;exact⟨⟨_,S6,(bR),λs=>Td s.F hF⟩,bT⟩
def hB(g:Ty):Nat->Int
 | 0=>0
 |n+1=>if hB g n=0 then g n else hB g n
def nW{g:Ty}{k:Nat}(h:hB g k=0)(c:g k=0):hB g (k+1)=0:=by rw[hB,Tq h,c]
def qY{g:Ty}{k:Nat}(h:hB g k=0)(c:g k≠0):∀n,k<n->hB g n=g k
 | 0,d=>U
 |n+1,d=>by
  rw[hB];rcases Ub k n with x|x
  .rw[qY h c n x,Tm c]
  .rw[show n=k by omega,Tq h]
def wi{g:Ty}:∀{n:Nat},hB g n=0->∀k,k<n->g k=0
 | 0,_,_,h=>U
 |n+1,h,k,d=>by
  rw[hB]at h;split at h
  .rename_i c
   rcases Ub k n with x|x
   .exact wi c k x
   .rw[show k=n by omega];exact h
  .rename_i c
   exact(c h).elim
def wh{g:Ty}:∀{n:Nat},(∀k,k<n->g k=0)->hB g n=0
 | 0,_=>rfl
 |n+1,h=>nW (wh λk c=>h k U) (h n U)
def qb(f:Ty)(k:Nat):Int:=if 0<=f k/\f k<=9 then 0 else 1
def gw(kinds:Int)(n:Nat)(f:Ty):Int:=if (n:Int)<kinds then 7 else if (n:Int)>kinds then 6 else hB (qb f) n
def jG(f:Ty)(i:Nat):Ta:=match i with
 | 0=>f 0 !=0
 |i+1=>decide (f (i+1)<=f i)
def kp(d:dw)(i:Nat):Int:=if 0<=d.bV i/\d.bV i<=4 then(if jG d.bV i=true then 5 else gw d.kinds (d.eP i) (d.cQ i))else 1
def nc(d:dw)(i:Nat):Int:=if 0<=d.free i/\d.free i<=4 then(if 0<i/\d.free i<=d.free (i-1)then 5 else 0)else 3
def jY(d:dw):Int:=if 1<=d.kinds/\d.kinds<=3 then(if gw d.kinds d.c' d.first≠0 then gw d.kinds d.c' d.first else if d.bk<1 then 7 else if d.bk>3 then 6 else if hB (kp d) d.bk≠0 then hB (kp d) d.bk else hB (nc d) d.b')else 1
def dw.nC(d:dw):cC:=⟨d.kinds.toNat,d.first,d.bk,d.bV,d.cQ,d.b',d.free⟩
def xm{kinds:Int}{f:Ty}(h:gw kinds n f=0):(n:Int)=kinds/\∀k,k<n->0<=f k/\f k<=9:=by
 unfold gw at h;split at h
 .omega
 .split at h
  .omega
  .refine⟨U,λk c=>?_⟩
   have:=wi h k c;unfold qb at this;split at this
   .assumption
   .omega
def HD{f:Ty}(c:∀i,i<n->0<=f i/\f i<=4)(d:∀i,i+1<n->f i<f (i+1)):n<=5:=by
 have key:∀i,i<n->(i:Int)<=f i:=by
  intro i;induction i with
  |zero=>intro h;exact(c 0 h).1
  |succ i g=>intro h;have:=g U;have:=d i h;omega
 rcases Ub 5 n with h|h
 .have:=key 5 h;have:=c 5 h;omega
 .exact h
def IB{d:dw}(h:jY d=0):d.nC.ok/\(d.c':Int)=d.kinds/\(d.nC.kinds:Int)=d.kinds/\∀i,i<d.bk->(d.eP i:Int)=d.kinds:=by
 unfold jY at h;split at h
 .rename_i f
  split at h
  .rename_i hp;exact(hp h).elim
  .rename_i hp
   have hp:=xm (Classical.not_not.1 hp);split at h
   .omega
   .split at h
    .omega
    .split at h
     .rename_i g;exact(g h).elim
     .rename_i g
      have g:=wi (Classical.not_not.1 g);have hu:=wi h;have e:(d.kinds.toNat:Int)=d.kinds:=U;have r:∀i,i<d.bk->(0<=d.bV i/\d.bV i<=4)/\jG d.bV i=false/\gw d.kinds (d.eP i) (d.cQ i)=0:=λi c=>by
       have:=g i c;unfold kp at this;split at this
       .rename_i j
        split at this
        .omega
        .rename_i l
         exact⟨j,by simpa using l,this⟩
       .omega
      have u:∀i,i<d.b'->(0<=d.free i/\d.free i<=4)/\¬(0<i/\d.free i<=d.free (i-1)):=λi c=>by
       have:=hu i c;unfold nc at this;split at this
       .rename_i j
        split at this
        .omega
        .rename_i l
         exact⟨j,l⟩
       .omega
      have m:∀i,i+1<d.b'->d.free i<d.free (i+1):=λi c=>by have:=(u (i+1) c).2;simp only[Nat.add_sub_cancel]at this;omega
      refine⟨⟨by show 1<=d.kinds.toNat/\d.kinds.toNat<=3;omega,λk f=>hp.2 k (by have f:k<d.kinds.toNat:=f;omega),by show 1<=d.bk/\d.bk<=3;omega,?_,λi c=>(r i c).1,λi c=>?_,λi c k f=>(xm (r i c).2.2).2 k (by have:=(xm (r i c).2.2).1;have f:k<d.kinds.toNat:=f;omega),HD (λi c=>(u i c).1) m,λi c=>(u i c).1,m⟩,hp.1,e,λi c=>(xm (r i c).2.2).1⟩
      .have:=(r 0 U).2.1
       exact(by simpa [jG]using this:d.bV 0=0)
      .have:=(r (i+1) c).2.1
       simp only[jG,decide_eq_false_iff_not]at this;show d.bV i<d.bV (i+1);omega
 .omega
def iZ.tf{d:dw}{p:gz}(h:iZ w d p)(C:jY d=0):∃P:eg,eB d p=dv d.nC P/\e' w d.nC P:=by
 let⟨ok,E,g,j⟩:=IB C;have f:1<=d.kinds.toNat:=ok.kinds.1;have g:(d.kinds.toNat:Int)=d.kinds:=g;let⟨l,u,hF,D⟩:=h.first U
 let⟨m,z,B,r⟩:=h.kM (by have:1<=d.bk:=ok.bk.1;omega);let⟨y,q⟩:=Go.Deep.choose_lt (α:=Nat×Nat) (n:=d.bk) (p:=λi y=>p.fh i=some (S8 y.1 y.2)/\gn w y.1 y.2 (d.eP i) (d.cQ i)) λi c=>by let⟨b,o,e,k⟩:=h.cQ i c (by have:=j i c;omega);exact⟨(b,o),e,k⟩
 have f1:d.c'=d.kinds.toNat:=U;refine⟨⟨l,u,p.cA,m,z,p.dq,λi=>(y i).1,λi=>(y i).2,p.cq,p.ei,p.dc⟩,?_,?_⟩
 .show #[ah d.kinds,.slice p.eh d.c' p.cA,.slice p.hH d.bk p.dq,.slice p.ei d.b' p.dc]=#[ah (d.kinds.toNat:Int),TW l u d.kinds.toNat p.cA,TW m z d.bk p.dq,.slice p.ei d.b' p.dc]
  rw[g,hF,B,f1]
 .refine⟨λk f=>D k (by have f:k<d.kinds.toNat:=f;omega),λi c=>(r i c).1,λi c=>?_,λi c k f=>(q i c).2 k (by have:=j i c;have f:k<d.kinds.toNat:=f;omega),h.free⟩
  have:=(r i c).2;rw[(q i c).1,show d.eP i=d.kinds.toNat by have:=j i c;omega]at this;exact this
def cC.raw(D:cC):dw:=⟨D.kinds,D.kinds,D.first,D.bk,D.bV,λ_=>D.kinds,D.cQ,D.b',D.free⟩
def eg.raw(P:eg):gz:=⟨some (S8 P.gg P.hG),P.cA,some (S8 P.fV P.gU),P.dq,λi=>some (S8 (P.dj i) (P.uG i)),P.cq,P.ei,P.dc⟩
def cC.rl{D:cC}(ok:D.ok):D.raw.small:=⟨by have:D.kinds<=3:=ok.kinds.2;show D.kinds<=20;omega,by have:D.bk<=3:=ok.bk.2;show D.bk<=20;omega,by have:D.b'<=5:=ok.b';show D.b'<=20;omega,λi _=>by have:D.kinds<=3:=ok.kinds.2;show D.kinds<=20;omega⟩
def e'.raw{D:cC}{P:eg}(h:e' w D P):iZ w D.raw P.raw:=⟨λ_=>⟨_,_,S6,h.first⟩,λ_=>⟨_,_,S6,λi c=>⟨h.bV i c,h.rows i c⟩⟩,λi c _=>⟨_,_,S6,h.cQ i c⟩,h.free⟩
def EL{f:Ty}(h:∀k,k<n->0<=f k/\f k<=9):gw n n f=0:=by rw[gw,Tm U,Tm U];exact wh λk c=>Tq (h k c)
def IC{D:cC}(ok:D.ok):jY D.raw=0:=by
 have f:=ok.kinds;have g:=ok.bk;have hp:gw D.raw.kinds D.raw.c' D.raw.first=0:=EL ok.first
 have l:hB (kp D.raw) D.raw.bk=0:=wh λi c=>by
  have e:jG D.bV i=false:=by
   rcases i with _|i
   .simp[jG,ok.zero]
   .have:=ok.qK i c
    simp only[jG,decide_eq_false_iff_not];omega
  show(if 0<=D.bV i/\D.bV i<=4 then(if jG D.bV i=true then 5 else gw D.kinds D.kinds (D.cQ i))else 1)=0;rw[Tq (ok.bV i c),e,Tm aF,EL (ok.cQ i c)]
 have hu:hB (nc D.raw) D.raw.b'=0:=wh λi c=>by show(if 0<=D.free i/\D.free i<=4 then(if 0<i/\D.free i<=D.free (i-1)then 5 else 0)else 3)=0;rw[Tq (ok.free i c),Tm];rintro⟨h,j⟩;have c:i<D.b':=c;have:=ok.C2 (i-1) U;rw[show i-1+1=i by omega]at this;omega
 have d:(1:Int)<=D.raw.kinds/\D.raw.kinds<=3:=by show(1:Int)<=(D.kinds:Int)/\(D.kinds:Int)<=3;omega
 rw[jY,Tq d,Tm U,Tm (by show ¬D.bk<1;omega),Tm (by show ¬D.bk>3;omega),Tm U,hu]
def hR{a b:Int}(h:b=a):(Ending.returned (ah a):Ending)=.returned (ah b):=by rw[h]
def EG{f:Ty}{k:Nat}(h:0<=f k/\f k<=9):qb f k=0:=Tq h
def EH{f:Ty}{k:Nat}(h:¬(0<=f k/\f k<=9)):qb f k=1:=Tm h
def EJ{k:Nat}{f:Ty}(h:hB (qb f) k=0)(d:k<n)(c:¬(0<=f k/\f k<=9)):gw n n f=1:=by rw[gw,Tm U,Tm U,qY h (by rw[EH c];omega) n d,EH c]
def EK{f:Ty}(h:hB (qb f) n=0):gw n n f=0:=by rw[gw,Tm U,Tm U,h]
def EI[S:Std A](q:TV)(n c:Nat)(C:n<=1000)(f:Ty)(kinds:Int)(w:S7)(h:kU w q n f):
 Calls (ao A) 77 #[.slice q n c,ah kinds] w λe w'=>e=.returned (ah (gw kinds n f))/\w=w':=by
 by_cases j:(n:Int)<kinds
 .have g:jJ n kinds kinds=7:=by simp[jJ,j]
  rw[show gw kinds n f=7 by simp[gw,j]];go_enter (S.f func77),ntmps77;go_wp2_with (go_at_call 78;refine(ru _ _ _ _).mono ?_;rintro e w' ⟨rfl,rfl⟩;rw[g])
  go_ret;exact⟨S6,S6⟩
 .by_cases d:(n:Int)>kinds
  .have g:jJ n kinds kinds=6:=by simp[jJ,j];omega
   rw[show gw kinds n f=6 by rw[gw,Tm j,Tq d]];go_enter (S.f func77),ntmps77;go_wp2_with (go_at_call 78;refine(ru _ _ _ _).mono ?_;rintro e w' ⟨rfl,rfl⟩;rw[g])
   go_ret;exact⟨S6,S6⟩
  .obtain rfl:kinds=n:=U
   have g:jJ n n n=0:=by simp[jJ]
   have z:=al h;clear h j d;by_cases p:n=0
   .subst p
    have g:jJ 0 0 0=0:=S6;go_enter (S.f func77),ntmps77;go_wp2_with (go_at_call 78;refine(ru _ _ _ _).mono ?_;rintro e w' ⟨rfl,rfl⟩;rw[g])
    go_loop [7,18] (λ_ i=>i=ah 0) (λ_ i=>0)
    case atStart=>rfl
    case round=>
     subst hrel;go_wp2;go_ret;exact⟨S6,S6⟩
   .obtain⟨b,o,rfl,r⟩:=z.out p
    have y:=al r;clear r;go_enter (S.f func77),ntmps77;go_wp2_with (go_at_call 78;refine(ru _ _ _ _).mono ?_;rintro e w' ⟨rfl,rfl⟩;rw[g])
    go_loop [7,18] (λ_ i=>∃k:Nat,k<=n/\i=ah k/\hB (qb f) k=0) (λ_ i=>n-(intOf i).toNat)
    case atStart=>exact⟨0,U,by go_num,S6⟩
    case round=>
     obtain⟨k,B,rfl,he⟩:=hrel;have l:=al he;clear he;by_cases u:k<n
     .have j:=y.out k u
      by_cases d:0<=f k/\f k<=9
      .have m:decide (0<=f k/\f k<=9)=true:=Uc d
       go_wp2_with (go_at_call 68;refine(ku _ _ _ _).mono ?_;rintro e w' ⟨rfl,rfl⟩;rw[m])
       go_round
       case rel=>exact⟨k+1,U,by go_num,nW l.out (EG d)⟩
       case measure=>simp[intOf];omega
      .have m:decide (0<=f k/\f k<=9)=false:=Ua d
       go_wp2_with (go_at_call 68;refine(ku _ _ _ _).mono ?_;rintro e w' ⟨rfl,rfl⟩;rw[m])
       go_ret;exact⟨hR (by rw[EJ l.out u d]),S6⟩
     .obtain rfl:k=n:=U
      go_wp2;go_ret;exact⟨hR (by rw[EK l.out]),S6⟩
def Cm{d:dw}(h:¬(1<=d.kinds/\d.kinds<=3)):jY d=1:=Tm h
def Ck{d:dw}(h:1<=d.kinds/\d.kinds<=3)(c:gw d.kinds d.c' d.first≠0):jY d=gw d.kinds d.c' d.first:=by rw[jY,Tq h,Tq c]
def Cj{d:dw}(h:1<=d.kinds/\d.kinds<=3)(c:gw d.kinds d.c' d.first=0)(f:d.bk=0):jY d=7:=by rw[jY,Tq h,Tm U,Tq U]
def Cn{d:dw}(h:1<=d.kinds/\d.kinds<=3)(f:gw d.kinds d.c' d.first=0)(c:d.bk>3):jY d=6:=by rw[jY,Tq h,Tm U,Tm U,Tq c]
def vN{d:dw}(h:1<=d.kinds/\d.kinds<=3)(i:gw d.kinds d.c' d.first=0)(j:1<=d.bk/\d.bk<=3){k:Nat}(g:k<d.bk)(f:hB (kp d) k=0)(c:kp d k≠0):jY d=kp d k:=by have e:=qY f c d.bk g;rw[jY,Tq h,Tm U,Tm U,Tm U,Tq (by rw[e];exact c),e]
def Cl{d:dw}(h:1<=d.kinds/\d.kinds<=3)(c:gw d.kinds d.c' d.first=0)(f:1<=d.bk/\d.bk<=3)(g:hB (kp d) d.bk=0):jY d=hB (nc d) d.b':=by rw[jY,Tq h,Tm U,Tm U,Tm U,Tm U]
def Ar{d:dw}{k:Nat}(h:¬(0<=d.bV k/\d.bV k<=4)):kp d k=1:=Tm h
def E2{d:dw}{k:Nat}(h:0<=d.bV k/\d.bV k<=4)(c:jG d.bV k=true):kp d k=5:=by rw[kp,Tq h,Tq c]
def E3{d:dw}{k:Nat}(h:0<=d.bV k/\d.bV k<=4)(c:jG d.bV k=false):kp d k=gw d.kinds (d.eP k) (d.cQ k):=by rw[kp,Tq h,Tm (by rw[c];simp)]
def wo{d:dw}{k:Nat}(h:¬(0<=d.free k/\d.free k<=4)):nc d k=3:=Tm h
def wq{d:dw}{k:Nat}(h:0<=d.free (k+1)/\d.free (k+1)<=4)(c:d.free (k+1)<=d.free k):nc d (k+1)=5:=by rw[nc,Tq h,Tq ⟨U,c⟩]
def wm{d:dw}{k:Nat}(h:0<=d.free k/\d.free k<=4)(c:∀j,k=j+1->¬d.free k<=d.free j):nc d k=0:=by rw[nc,Tq h,Tm];rintro⟨g,f⟩;exact c (k-1) U f
structure dw.fit(d:dw):Prop where
 F:d.c'<=1000
 R:d.bk<=1000
 h4:d.b'<=1000
 P:∀i,i<d.bk->d.eP i<=1000
def ID[S:Std A](d:dw)(fit:d.fit)(p:gz)(w:S7)(h:iZ w d p):
 Calls (ao A) 61 #[.agg (eB d p)] w λe w'=>e=.returned (ah (jY d))/\w.grownBy w' none:=by
 obtain⟨eh,cA,aE,dq,I,cq,Z,dc⟩:=p;have V:=dU w (.cells (eB d ⟨eh,cA,aE,dq,I,cq,Z,dc⟩) 25) none;have ek:=al (h.keep V);have q:=al V;have T:=al fit;clear h V fit;have K:=al (λw=>EI (A:=A) eh d.c' cA T.out.F d.first d.kinds w);by_cases m:1<=d.kinds/\d.kinds<=3;rotate_left
 .have C:decide (1<=d.kinds/\d.kinds<=3)=false:=Ua m
  go_enter (S.f func61),ntmps61;go_wp2_with (go_at_call 68;refine(ku _ _ _ _).mono ?_;rintro e w' ⟨rfl,rfl⟩;rw[C])
  go_ret;exact⟨hR (by rw[Cm m]),q.out⟩
 have C:decide (1<=d.kinds/\d.kinds<=3)=true:=Uc m;by_cases f:gw d.kinds d.c' d.first=0
 rotate_left
 .obtain⟨u,D⟩:∃u,u=gw d.kinds d.c' d.first:=⟨_,S6⟩
  rw[<-D]at f;have ar:(u == 0)=false:=by simpa using f
  have aa:decide (u=0)=false:=by simpa using f
  have r:=al D;clear D;go_enter (S.f func61),ntmps61;go_wp2_with (first|(go_at_call 68;refine(ku _ _ _ _).mono ?_;rintro e w' ⟨rfl,rfl⟩;rw[C])|(go_at_call 77;refine(K.out _ ek.out.first).mono ?_;rintro e w' ⟨rfl,rfl⟩;rw[<-r.out]))
  go_ret;exact⟨hR (by rw[Ck m (by rw[<-r.out];exact f),r.out]),q.out⟩
 by_cases G:d.bk=0
 .have s1:jJ d.bk 1 3=7:=by simp[jJ,G]
  have aw:=al G;clear G;go_enter (S.f func61),ntmps61;go_wp2_with (first|(go_at_call 68;refine(ku _ _ _ _).mono ?_;rintro e w' ⟨rfl,rfl⟩;rw[C])|(go_at_call 77;refine(K.out _ ek.out.first).mono ?_;rintro e w' ⟨rfl,rfl⟩;rw[f])|(go_at_call 78;refine(ru _ _ _ _).mono ?_;rintro e w' ⟨rfl,rfl⟩;rw[s1]))
  go_ret;exact⟨hR (by rw[Cj m f aw.out]),q.out⟩
 by_cases aj:d.bk>3
 .have s1:jJ d.bk 1 3=6:=by simp[jJ];omega
  go_enter (S.f func61),ntmps61;go_wp2_with (first|(go_at_call 68;refine(ku _ _ _ _).mono ?_;rintro e w' ⟨rfl,rfl⟩;rw[C])|(go_at_call 77;refine(K.out _ ek.out.first).mono ?_;rintro e w' ⟨rfl,rfl⟩;rw[f])|(go_at_call 78;refine(ru _ _ _ _).mono ?_;rintro e w' ⟨rfl,rfl⟩;rw[s1]))
  go_ret;exact⟨hR (by rw[Cn m f aj]),q.out⟩
 have s1:jJ d.bk 1 3=0:=by simp[jJ];omega
 have R:1<=d.bk/\d.bk<=3:=U;obtain⟨ai,aq,ak,-⟩:=ek.out.kM G;dsimp only at ak;subst ak;have F:=al f;go_enter (S.f func61),ntmps61;go_wp2_with (first|(go_at_call 68;refine(ku _ _ _ _).mono ?_;rintro e w' ⟨rfl,rfl⟩;rw[C])|(go_at_call 77;refine(K.out _ ek.out.first).mono ?_;rintro e w' ⟨rfl,rfl⟩;rw[F.out])|(go_at_call 78;refine(ru _ _ _ _).mono ?_;rintro e w' ⟨rfl,rfl⟩;rw[s1]))
 clear f G aj;go_loopw [32] (λi wr=>∃k:Nat,k<=d.bk/\i=ah k/\(w.alloc (.cells (eB d ⟨eh,cA,some (S8 ai aq),dq,I,cq,Z,dc⟩) 25)).grownBy wr none/\hB (kp d) k=0) (λi _=>d.bk-(intOf i).toNat)
 case atStart=>exact⟨0,U,by go_num,e6 _ _,S6⟩
 case round=>
  obtain⟨k,aD,rfl,g,H⟩:=hrel;have aH:wr.cell? (Ti w.heap.size)=Tn d.kinds:=g.cell (a:=(Ti w.heap.size)) (dR S6) aF;have aI:wr.cell? (S8 w.heap.size 2)=some (TW ai aq d.bk dq):=g.cell (a:=(S8 w.heap.size 2)) (dR S6) aF;have aK:w.heap.size<wr.heap.size:=by have:=g.size;rw[cV]at this;omega
  have B:=al H;clear H;by_cases n:k<d.bk
  .have GW:=al (q.out.trans g)
   let⟨b,o,aC,Y⟩:=(ek.out.keep g).kM U;cases aC;let⟨M,aA⟩:=Y k n;have W:=g.trans (dU wr (.cells #[ah (d.bV k),.slice (I k) (d.eP k) (cq k)] 27) none);have af:=al ((ek.out.keep W).cQ k n);have z:=al W;have au:=al Y;clear W Y g;by_cases c:0<=d.bV k/\d.bV k<=4;rotate_left
   .have l:decide (0<=d.bV k/\d.bV k<=4)=false:=Ua c
    go_wp2_with (go_at_call 68;refine(ku _ _ _ _).mono ?_;rintro e w' ⟨rfl,rfl⟩;rw[l])
    go_ret;exact⟨hR (by rw[vN m F.out R n B.out (by rw[Ar c];omega),Ar c]),q.out.trans z.out⟩
   have l:decide (0<=d.bV k/\d.bV k<=4)=true:=Uc c;have av:=al (λw=>EI (A:=A) (I k) (d.eP k) (cq k) (T.out.P k n) (d.cQ k) d.kinds w);obtain⟨u,D⟩:∃u,u=gw d.kinds (d.eP k) (d.cQ k):=⟨_,S6⟩
   have r:=al D;clear D;cases y:jG d.bV k;all_goals (
    have ae:=al y;rcases k with _|k
    focus (simp only[Nat.zero_mul,Nat.add_zero]at M aA)
    rotate_left
    focus (
     have X:=(au.out k U).1;have X:=(dU wr (.cells #[ah (d.bV (k+1)),.slice (I (k+1)) (d.eP (k+1)) (cq (k+1))] 27) none).cell X aF;have aB:IntKind.i64.wrap (k:Int)=(k:Int):=IntWalk.i64_in _ U;have aG:k<d.bk:=U;have aL:(k:Int)<(d.bk:Int):=U;have aM:(0:Int)<=k:=U;have ar:((k:Int)+1 == 0)=false:=ub;have aa:decide ((0:Int)<(k:Int)+1)=true:=k4;have z3:=(show decide (d.bV (k+1)<=d.bV k)=jG d.bV (k+1)from S6).trans y;clear y)
    rotate_right)
   focus (
    have z0:d.bV 0=0:=by simpa [jG]using y
    rw[z0]at M l;rw[z0]at af z;clear y)
   rotate_left 2
   focus (
    have ar:(d.bV 0 == 0)=false:=by simpa [jG]using y
    have aa:(d.bV 0 !=0)=true:=by simpa [jG]using y
    clear y)
   rotate_left 2
   all_goals (go_wp2_with (go_at_call 68;refine(ku _ _ _ _).mono ?_;rintro e w' ⟨rfl,rfl⟩;rw[l]))
   all_goals go_quiet (fail)
   all_goals first
    |(have ap:=E2 c ae.out
      have ag:=al ap;clear ap;go_wp2;go_ret;exact⟨hR (by rw[vN m F.out R n B.out (by rw[ag.out];omega),ag.out]),q.out.trans (z.out.trans (hl _ _))⟩)
    |(have L:=al (E3 c ae.out)
      go_upto_if 70 with(go_at_call 77;refine(av.out _ (af.out.keep (hl _ _))).mono ?_;rintro e w' ⟨rfl,rfl⟩;rw[<-r.out])
      by_cases f:u=0
      .subst f
       go_wp2;go_roundw
       case rel=>first|exact⟨1,U,by go_num,z.out.trans (hl _ _),nW B.out (by rw[L.out,<-r.out])⟩|exact⟨k+2,U,by go_num,z.out.trans (hl _ _),nW B.out (by rw[L.out,<-r.out])⟩
       case measure=>simp[intOf];omega
      .have z5:(u == 0)=false:=by simpa using f
       go_wp2;go_ret;exact⟨hR (by rw[vN m F.out R n B.out (by rw[L.out,<-r.out];exact f),L.out,<-r.out]),q.out.trans (z.out.trans (hl _ _))⟩)
  .obtain rfl:k=d.bk:=U
   have az:wr.cell? (S8 w.heap.size 3)=some (.slice Z d.b' dc):=g.cell (a:=(S8 w.heap.size 3)) (dR S6) aF;have ax:=al (ek.out.keep g).free;have GW:=al (q.out.trans g);have J:=al (Cl m F.out R B.out);clear g;by_cases P:d.b'=0
   .rw[P]at az
    have ay:=al P;clear P;go_wp2;go_loop [76] (λi=>i=ah 0) (λ_=>0)
    case atStart=>rfl
    case round=>
     subst hrel;go_wp2;go_ret;exact⟨by rw[J.out,ay.out];rfl,GW.out⟩
   .let⟨b,o,e,am⟩:=ax.out P
    dsimp only at e;subst e;have ad:=al am;have aJ:=T.out.h4;clear am;go_wp2;go_loop [76] (λi=>∃k:Nat,k<=d.b'/\i=ah k/\hB (nc d) k=0) (λi=>d.b'-(intOf i).toNat)
    case atStart=>exact⟨0,U,by go_num,S6⟩
    case round=>
     obtain⟨k,aD,rfl,H⟩:=hrel;have E:=al H;clear H;by_cases n:k<d.b'
     .have M:=ad.out k n
      by_cases c:0<=d.free k/\d.free k<=4
      .have l:decide (0<=d.free k/\d.free k<=4)=true:=Uc c
       rcases k with _|k
       .simp only[Nat.add_zero]at M
        go_wp2_with (go_at_call 68;refine(ku _ _ _ _).mono ?_;rintro e w' ⟨rfl,rfl⟩;rw[l])
        go_round
        case rel=>exact⟨1,U,by go_num,nW E.out (wm c λj h=>U)⟩
        case measure=>simp[intOf];omega
       .have X:=ad.out k U
        have aB:IntKind.i64.wrap (k:Int)=(k:Int):=IntWalk.i64_in _ U;have aG:k<d.b':=U;have aa:decide ((0:Int)<(k:Int)+1)=true:=k4;by_cases Q:d.free (k+1)<=d.free k
        .have z3:decide (d.free (k+1)<=d.free k)=true:=Uc Q
         go_wp2_with (go_at_call 68;refine(ku _ _ _ _).mono ?_;rintro e w' ⟨rfl,rfl⟩;rw[l])
         go_ret;exact⟨hR (by rw[J.out,qY E.out (by rw[wq c Q];omega) d.b' n,wq c Q]),GW.out⟩
        .have z3:decide (d.free (k+1)<=d.free k)=false:=Ua Q
         go_wp2_with (go_at_call 68;refine(ku _ _ _ _).mono ?_;rintro e w' ⟨rfl,rfl⟩;rw[l])
         go_round
         case rel=>exact⟨k+2,U,by go_num,nW E.out (wm c λj h=>by have e:j=k:=U;rw[e];omega)⟩
         case measure=>simp[intOf];omega
      .have l:decide (0<=d.free k/\d.free k<=4)=false:=Ua c
       go_wp2_with (go_at_call 68;refine(ku _ _ _ _).mono ?_;rintro e w' ⟨rfl,rfl⟩;rw[l])
       go_ret;exact⟨hR (by rw[J.out,qY E.out (by rw[wo c];omega) d.b' n,wo c]),GW.out⟩
     .obtain rfl:k=d.b':=U
      go_wp2;go_ret;exact⟨hR (by rw[J.out,E.out]),GW.out⟩
def dw.small.fit{d:dw}(h:d.small):d.fit:=⟨by have:=h.F;omega,by have:=h.R;omega,by have:=h.h4;omega,λi c=>by have:=h.P i c;omega⟩
def yV[S:Std A](d:cC)(ok:d.ok)(p:eg)(w:S7)(h:e' w d p):
 Calls (ao A) 61 #[.agg (dv d p)] w λe w'=>e=.returned (ah 0)/\w.grownBy w' none:=by
 have:=ID (A:=A) d.raw (cC.rl ok).fit p.raw w h.raw;rwa [IC ok]at this
def Dm[S:Std A](bY c:Nat)(h:bY<=c)(g:c<120)(w:S7):Calls (ao A) 79 #[.agg #[ah bY,ah c]] w λe w'=>e=.returned (ah 0)/\w.grownBy w' none:=by
 have d:decide ((0:Int)<=bY/\(bY:Int)<=119)=true:=cH;have f:decide ((0:Int)<=c/\(c:Int)<=119)=true:=cH;go_enter (S.f func79),ntmps79;go_wp2_with (first|(go_at_call_of 68 (ah (bY:Int));refine(ku _ _ _ _).mono ?_;rintro e w' ⟨rfl,rfl⟩;rw[d])|(go_at_call_of 68 (ah (c:Int));refine(ku _ _ _ _).mono ?_;rintro e w' ⟨rfl,rfl⟩;rw[f]))
 go_ret;exact⟨S6,bT⟩
abbrev uV(k f d fm c:Nat):Te:=#[ah k,ah f,ah d,ah fm,ah c]
def Qv[S:Std A](d:cC)(I:d.kinds<=3)(p:eg)(k g f fm c:Nat)(K:k<d.kinds)(D:g<=f)(z:f<120)(C:fm<=c)(hF:c<120)(L:g<=c)(w:S7):
 Calls (ao A) 62 #[.agg (dv d p),.agg (uV k g f fm c)] w λe w'=>e=.returned (ah 0)/\w.grownBy w' none:=by
 have r:decide ((0:Int)<=k/\(k:Int)<=(d.kinds:Int)-1)=true:=cH;go_enter (S.f func62),ntmps62;go_wp2_with (go_at_call 68;refine(ku _ _ _ _).mono ?_;rintro e w' ⟨rfl,rfl⟩;rw[r])
 have u:w.grownBy (((w.alloc (.cells (dv d p) 25)).alloc (.cells (uV k g f fm c) 52)).alloc (.cells #[ah g,ah f,ah fm,ah c] 50)) none:=(bT.trans bT).trans bT;have y:=al u;clear u;go_loopw [21] (λi wr=>∃j:Nat,j<=2/\i=ah j/\(((w.alloc (.cells (dv d p) 25)).alloc (.cells (uV k g f fm c) 52)).alloc (.cells #[ah g,ah f,ah fm,ah c] 50)).grownBy wr none) (λi _=>2-(intOf i).toNat)
 case atStart=>exact⟨0,U,by go_num,e6 _ _⟩
 case round=>
  obtain⟨j,J,rfl,h⟩:=hrel;have bx:wr.cell? (Ti (w.heap.size+1+1))=Tn g:=h.cell (a:=(Ti (w.heap.size+1+1))) (dR aF) aF;have G:wr.cell? (S8 (w.heap.size+1+1) 1)=Tn f:=h.cell (a:=(S8 (w.heap.size+1+1) 1)) (dR aF) aF;have H:wr.cell? (S8 (w.heap.size+1+1) 2)=Tn fm:=h.cell (a:=(S8 (w.heap.size+1+1) 2)) (dR aF) aF;have c3:wr.cell? (S8 (w.heap.size+1+1) 3)=Tn c:=h.cell (a:=(S8 (w.heap.size+1+1) 3)) (dR aF) aF;have b:∀o v,o<5->(uV k g f fm c)[o]?=some v->wr.cell? (S8 (w.heap.size+1) o)=some v:=λo v _ e=>h.cell (a:=(S8 (w.heap.size+1) o)) ((hD _ _ _ aF).trans ((dR aF).trans e)) aF
  have B:=al b;clear b;have q:=al h;clear h;rcases j with _|_|_|j
  .go_wp2_with (go_at_call 79;refine(Dm g f D z _).mono ?_;rintro e E ⟨rfl,m⟩;have l:=(q.out.trans bT).trans m;have n:=al l;clear m l)
   go_roundw
   case rel=>exact⟨1,U,by go_num,n.out⟩
   case measure=>simp[intOf]
  .go_wp2_with (go_at_call 79;refine(Dm fm c C hF _).mono ?_;rintro e E ⟨rfl,m⟩;have l:=(q.out.trans bT).trans m;have n:=al l;clear m l)
   go_roundw
   case rel=>exact⟨2,U,by go_num,n.out⟩
   case measure=>simp[intOf]
  .have r:=B.out 4 _ U S6
   have F:=B.out 1 _ U S6;go_wp2;go_ret;exact⟨S6,y.out.trans q.out⟩
  .omega
abbrev nD(d:cC)(p:eg):Te:=#[ah d.kinds,TW p.gg p.hG d.kinds p.cA,TW p.fV p.gU d.bk p.dq,.slice p.ei d.b' p.dc,
 .int .u32 0,.int .i32 0,.int .u32 0,.int .u32 0,.int .i32 0,.int .u32 0,.int .u32 0,.int .i32 0,.int .u32 0,
 ah 0,ah 0,ah 0,ah 0,ah 0,ah 0,ah 0,ah 0,ah 0,ah 0,ah 0,ah 0,ah 0,ah 0,ah 0]
structure h3 where
 k:Nat
 lm:Nat
 cj:Nat
 fm:Nat
 b5:Nat
structure h3.ok(s:h3)(d:cC):Prop where
 k:s.k<d.kinds
 l:s.lm<=s.cj
 bE:s.cj<120
 f:s.fm<=s.b5
 hF:s.b5<120
 x:s.lm<=s.b5
abbrev h3.a(s:h3):Te:=uV s.k s.lm s.cj s.fm s.b5
structure qG(w:S7)(b o n:Nat)(f:Nat->h3):Prop where
 bx:∀i,i<n->w.cell? (S8 b (o+i*5))=Tn (f i).k
 c1:∀i,i<n->w.cell? (S8 b (o+i*5+1))=Tn (f i).lm
 c2:∀i,i<n->w.cell? (S8 b (o+i*5+2))=Tn (f i).cj
 c3:∀i,i<n->w.cell? (S8 b (o+i*5+3))=Tn (f i).fm
 c4:∀i,i<n->w.cell? (S8 b (o+i*5+4))=Tn (f i).b5
def qG.keep{b o:Nat}{f:Nat->h3}(h:qG w b o n f)(g:w.grownBy w' none):qG w' b o n f:=
 ⟨λi c=>g.cell (h.bx i c) aF,λi c=>g.cell (h.c1 i c) aF,λi c=>g.cell (h.c2 i c) aF,λi c=>g.cell (h.c3 i c) aF,λi c=>g.cell (h.c4 i c) aF⟩
def rU(d:cC)(p:eg)(w:S7)(e:Ending)(w':S7):Prop:=∃T,e=.returned (.tuple #[Tj T,ah 0])/\w.heap.size<=T/\w'.heap[T]?=some (.cells (nD d p) 132)/\w.grownBy w' none
def yO{w2:S7}{a0 d f a3:S9}{t:Tg}(c:(w.alloc (.cells #[a0,d,f,a3] t)).grownBy w2 none):w2.cell? (Ti w.heap.size)=some a0/\w2.cell? (S8 w.heap.size 1)=some d/\w2.cell? (S8 w.heap.size 2)=some f/\w2.cell? (S8 w.heap.size 3)=some a3/\w.heap.size<w2.heap.size:=
 ⟨c.cell (a:=(Ti w.heap.size)) (dR S6) aF,c.cell (a:=(S8 w.heap.size 1)) (dR S6) aF,c.cell (a:=(S8 w.heap.size 2)) (dR S6) aF,c.cell (a:=(S8 w.heap.size 3)) (dR S6) aF,by have:=c.size;rw[cV]at this;omega⟩
def fM(w:S7)(o:Obj):(w.alloc o).heap[w.heap.size]?=some o:=by show(w.heap.push o)[w.heap.size]?=_;rw[iq,Tq S6]
def Ab[S:Std A](d:cC)(ok:d.ok)(p:eg)(w:S7)(h:e' w d p):Calls (ao A) 37 #[.agg (dv d p),.slice none 0 0] w (rU d p w):=by
 have g:=h.keep (dU w (.cells (dv d p) 25) none);go_enter (S.f func37),ntmps37;go_wp2_with (go_at_call 61;refine(yV d ok p _ g).mono ?_;rintro e w2 ⟨rfl,c⟩;let⟨j,l,m,n,o⟩:=yO c;have f:=al ((dU w (.cells (dv d p) 25) none).trans c);clear c)
 go_loop [17] (λi=>i=ah 0) (λ_=>0)
 case atStart=>rfl
 case round=>
  subst hrel;go_wp2;go_ret2
  exact⟨w2.heap.size,S6,U,fM _ _,f.out.trans bT⟩
def Ac[S:Std A](d:cC)(ok:d.ok)(p:eg)(w:S7)(h:e' w d p)(b o n c:Nat)(R:n<=4)(f:Nat->h3)(j:qG w b o n f)(F:∀i,i<n->(f i).ok d):
 Calls (ao A) 37 #[.agg (dv d p),TW b o n c] w (rU d p w):=by
 have D:=h.keep (dU w (.cells (dv d p) 25) none);have E:=ok.kinds;have C:=al j;clear j;go_enter (S.f func37),ntmps37;go_wp2_with (go_at_call 61;refine(yV d ok p _ D).mono ?_;rintro e w2 ⟨rfl,r⟩;have y:=al r;clear r)
 go_loopw [17] (λi wr=>∃k:Nat,k<=n/\i=ah k/\(w.alloc (.cells (dv d p) 25)).grownBy wr none) (λi _=>n-(intOf i).toNat)
 case atStart=>exact⟨0,U,by go_num,y.out⟩
 case round=>
  obtain⟨k,Q,rfl,m⟩:=hrel;let⟨K,L,M,P,T⟩:=yO m;have g:=(dU w (.cells (dv d p) 25) none).trans m;have j:=C.out.keep g;have B:=al m;clear m;by_cases l:k<n
  .have bx:=j.bx k l
   have H:=j.c1 k l;have I:=j.c2 k l;have c3:=j.c3 k l;have J:=j.c4 k l;have O:=F k l;clear j g;go_wp2_with (go_at_call 62;refine(Qv d E.2 p (f k).k (f k).lm (f k).cj (f k).fm (f k).b5 O.k O.l O.bE O.f O.hF O.x _).mono ?_;rintro e V ⟨rfl,u⟩;have q:=(B.out.trans bT).trans u;have z:=al q;clear u q)
   go_roundw
   case rel=>exact⟨k+1,U,by go_num,z.out⟩
   case measure=>simp[intOf];omega
  .have G:=al g
   clear j g;go_wp2;go_ret2
   exact⟨wr.heap.size,S6,U,fM _ _,G.out.trans bT⟩
def cF(a b:Int):S9:=.agg #[ah a,ah b]
def uv{a b d:Int}(h:cF a b=cF c d):a=c/\b=d:=by simpa [cF]using h
def nK(k:Tg):Prop:=k=63\/k=139\/k=170
def J8(n:Nat)(x y:Int)(w:S7):Sem.run (ao A) (Op.equalIn (n+1) 3 (ah x) (ah y)) w=.ok (x == y) w:=by unfold Op.equalIn;kernel_rfl
def Nb(x y:S9)(w:S7):Sem.run (ao A) (part 3 #[x,y] 0) w=.ok x w:=av
def Nc(x y:S9)(w:S7):Sem.run (ao A) (part 3 #[x,y] 1) w=.ok y w:=av
def J9(h:nK k)(a b c d:Int)(w:S7):Sem.run (ao A) (Op.equal k (cF a b) (cF c d)) w=.ok (a == c && b == d) w:=by
 simp only[Op.equal,Op.maxDepth];rw[show(10000:Nat)=9998+1+1 from S6];unfold Op.equalIn;rcases h with rfl|rfl|rfl
 all_goals
  by_cases f:a=c<;>by_cases g:b=d<;>simp[cF,Nb,Nc,J8 9998,Result.andThen,f,g]
def yW(c:nK k)(e:Ta)(a b:Int)(w:S7):Sem.run (ao A) (Instr.checkKey e 10000 k (cF a b)) w=.ok () w:=by
 rcases c with rfl|rfl|rfl
 all_goals kernel_rfl
def Rw(c:nK k):∃ba,(ao A).underlying k=some (.struct ba):=by
 rcases c with rfl|rfl|rfl
 .exact⟨_,ao.underlying64 A⟩
 .exact⟨_,ao.underlying151 A⟩
 .exact⟨_,ao.underlying182 A⟩
def yq(es:Tb TY):Prop:=∀e∈es,∃a b,e.key=cF a b
noncomputable def g0(a b:Int)(e:TY):Ta:=@decide (e.key=cF a b) (Classical.propDecidable _)
def q3{a b:Int}:g0 a b e=true↔e.key=cF a b:=by unfold g0;exact @decide_eq_true_iff _ (Classical.propDecidable _)
def um{a b:Int}:g0 a b e=false↔e.key≠cF a b:=by unfold g0;exact @decide_eq_false_iff_not _ (Classical.propDecidable _)
def HI(D:nK k)(a b:Int)(w:S7):∀(es:Tb TY) (i:Nat),yq es->
 (Sem.run (ao A) (Instr.findAsking k (cF a b) es i) w=.ok none w/\es.find? (g0 a b)=none)\/∃j e,Sem.run (ao A) (Instr.findAsking k (cF a b) es i) w=.ok (some (i+j,e.val)) w/\es[j]?=some e/\g0 a b e=true/\(∀bw g,bw<j->es[bw]?=some g->g0 a b g=false)/\es.find? (g0 a b)=some e:=by
 intro es;induction es with
 |nil=>intro i _;exact .inl ⟨S6,S6⟩
 |cons e es F=>
  intro i h;let⟨c,d,o⟩:=h e aF;have run:Sem.run (ao A) (Instr.findAsking k (cF a b) (e::es) i) w=Sem.run (ao A) ((Op.equal k (cF a b) e.key).bind λr=>if r then pure (some (i,e.val))else Instr.findAsking k (cF a b) es (i+1)) w:=S6;rw[run,eL,o,J9 D];show(Sem.run (ao A) (if (a == c && b == d)then pure (some (i,e.val))else Instr.findAsking k (cF a b) es (i+1)) w=_/\_)\/∃j p,Sem.run (ao A) (if (a == c && b == d)then pure (some (i,e.val))else Instr.findAsking k (cF a b) es (i+1)) w=_/\_;by_cases n:(a == c && b == d)=true
  .have f:g0 a b e=true:=by simp at n;rw[q3,o,n.1,n.2]
   rw[n];refine .inr ⟨0,e,S6,S6,f,λbw g C=>U,?_⟩;simp[List.find?,f]
  .have q:(a == c && b == d)=false:=by simpa using n
   have f:g0 a b e=false:=by rw[um,o];intro e;let⟨l,m⟩:=uv e;subst l;subst m;simp at q
   rw[q];rcases F (i+1) (λy E=>h y (by simp[E]))with⟨l,m⟩|⟨j,p,l,m,u,z,B⟩
   .exact .inl ⟨l,by simp[List.find?,f,m]⟩
   .refine .inr ⟨j+1,p,?_,by simpa using m,u,λbw g C he=>?_,by simp[List.find?,f,B]⟩
    .show Sem.run (ao A) (Instr.findAsking k (cF a b) es (i+1)) w=_
     rw[l];congr 3;omega
    .rcases bw with _|bw
     .simp at he;subst he;exact f
     .exact z bw g U (by simpa using he)
def zi(i:nK k)(a b:Int)(w:S7)(es:Tb TY)(h:yq es):
 (Sem.run (ao A) (Instr.findKey k (cF a b) es) w=.ok none w/\es.find? (g0 a b)=none)\/∃j e,Sem.run (ao A) (Instr.findKey k (cF a b) es) w=.ok (some (j,e.val)) w/\es[j]?=some e/\g0 a b e=true/\(∀bw g,bw<j->es[bw]?=some g->g0 a b g=false)/\es.find? (g0 a b)=some e:=by
 let⟨ba,hu⟩:=Rw (A:=A) i;have n:Sem.run (ao A) (Instr.findKey k (cF a b) es) w=Sem.run (ao A) (Instr.findAsking k (cF a b) es) w:=by
  show Sem.run (ao A) ((underlying k).bind λd=>match Instr.findNow d (cF a b) es 0 with|some r=>pure r|none=>Instr.findAsking k (cF a b) es) w=_;rw[eL,run_underlying hu];cases es with
  |nil=>rfl
  |cons e es=>
   let⟨c,d,m⟩:=h e aF;have:Instr.findNow (.struct ba) (cF a b) (e::es) 0=none:=by unfold Instr.findNow;rw[m];rfl
   show Sem.run (ao A) (match Instr.findNow (.struct ba) (cF a b) (e::es) 0 with|some r=>pure r|none=>Instr.findAsking k (cF a b) (e::es)) w=_;rw[this]
 rw[n];rcases HI i a b w es 0 h with f|⟨j,e,f,l⟩
 .exact .inl f
 .exact .inr ⟨j,e,by rw[f,Nat.zero_add],l⟩
def ij(w:S7)(m:Nat)(M:Int->Int->TZ):Prop:=∃es clock,w.heap[m]?=some (.map es clock)/\yq es.toList/\∀a b,M a b=(es.toList.find? (g0 a b)).map (·.val)
def l1(M:Int->Int->TZ)(a b:Int)(v:S9)(c d:Int):TZ:=if c=a/\d=b then some v else M c d
def ij.new(w:S7)(m:Nat)(c:Nat)(h:w.heap[m]?=some (.map #[] c)):ij w m (λ_ _=>none):=⟨#[],c,h,λe he=>by simp at he,λa b=>S6⟩
def ij.keep(h:ij w m M)(g:w.grownBy w' row)(j:some m≠row):ij w' m M:=by obtain⟨es,c,d,f,i⟩:=h;exact⟨es,c,(g.block m (bu d) j).trans d,f,i⟩
def Dr(a b:Int)(w:S7):Sem.run (ao A) (Instr.keyThatStays (cF a b) (cF a b)) w=.ok (cF a b) w:=by
 have h:Instr.sameBits 10000 (cF a b) (cF a b)=true:=by show Instr.sameBits (9998+1+1) (cF a b) (cF a b)=true;unfold cF;simp[Instr.sameBits]
 unfold Instr.keyThatStays;rw[h];rfl
def uf{o:Obj}(h:w.heap[m]?=some o)(hm:∃es c,o=.map es c):Sem.run (ao A) (getObj m) w=.ok o w:=by obtain⟨es,c,rfl⟩:=hm;unfold getObj;simp[Sem.run,h]
def sy(q:(ao A).underlying mt=some (.map k el))(f:nK k)(g:∀w,Sem.run (ao A) (zeroValue el) w=.ok z w)(h:ij w m M)(a b:Int)(c:Ta):
 Sem.run (ao A) (Instr.lookup mt (.map (some m)) (cF a b) c) w=.ok (if c then .tuple #[(M a b).getD z,.bool (M a b).isSome]else(M a b).getD z) w:=by
 obtain⟨es,clock,n,o,p⟩:=h;have l:Sem.run (ao A) (Instr.lookup mt (.map (some m)) (cF a b) c) w=Sem.run (ao A) ((Instr.findKey k (cF a b) es.toList).bind λr=>(match r with|some (_,v)=>(pure (v,true):Sem (S9×Ta))|none=>(zeroValue el).bind λz=>pure (z,false)).bind λx=>pure (if c then .tuple #[x.1,.bool x.2]else x.1)) w:=by
  unfold Instr.lookup;show Sem.run (ao A) ((underlying mt).bind _) w=_;rw[eL,run_underlying q];show Sem.run (ao A) (((getObj m).bind _).bind _) w=_;rw[eL,eL,uf n ⟨_,_,S6⟩];show Sem.run (ao A) ((Instr.checkKey es.isEmpty 10000 k (cF a b)).bind _) w=_;rw[eL,yW f];show Sem.run (ao A) ((Instr.findKey k (cF a b) es.toList).bind _) w=_;rw[eL,eL];cases Sem.run (ao A) (Instr.findKey k (cF a b) es.toList) w with
  |halt h w=>rfl
  |ok r w=>
   rcases r with _|⟨i,v⟩
   .show Sem.run (ao A) ((zeroValue el).bind _) w=Sem.run (ao A) (((zeroValue el).bind _).bind _) w
    rw[eL,eL,eL,g];rfl
   .rfl
 rw[l,eL,p];rcases zi f a b w es.toList o with⟨r,d⟩|⟨j,e,r,_,_,_,d⟩
 .rw[r,d]
  show Sem.run (ao A) (((zeroValue el).bind _).bind _) w=_;rw[eL,eL,g];rfl
 .rw[r,d]
  rfl
def C6(a b:Int)(v:S9)(c d:Int):∀(es:Tb TY) (j:Nat) (e:TY),es[j]?=some e->g0 a b e=true->(∀bw g,bw<j->es[bw]?=some g->g0 a b g=false)->
 ((es.modify j λx=>{x with key:=cF a b,val:=v}).find? (g0 c d)).map (·.val)=if c=a/\d=b then some v else(es.find? (g0 c d)).map (·.val):=by
 intro es;induction es with
 |nil=>intro j e h;simp at h
 |cons x es o=>
  intro j e h n m;rcases j with _|j
  .simp at h
   subst h;simp only[List.modify_zero_cons,List.find?_cons];by_cases f:c=a/\d=b
   .obtain⟨rfl,rfl⟩:=f
    have:g0 c d {x with key:=cF c d,val:=v}=true:=q3.2 S6;simp[this]
   .have i:g0 c d {x with key:=cF a b,val:=v}=false:=um.2 λe=>f (by let⟨i,l⟩:=uv e;exact⟨i.symm,l.symm⟩)
    have l:g0 c d x=false:=um.2 λe=>f (by rw[q3.1 n]at e;let⟨i,l⟩:=uv e;exact⟨i.symm,l.symm⟩)
    simp[i,l,f]
  .have q:g0 a b x=false:=m 0 x U S6
   simp only[List.modify_succ_cons,List.find?_cons];by_cases f:c=a/\d=b
   .obtain⟨rfl,rfl⟩:=f
    rw[q];have:=o j e (by simpa using h) n λbw g p he=>m (bw+1) g U (by simpa using he)
    simpa using this
   .cases r:g0 c d x with
    |true=>simp[f]
    |false=>
     have:=o j e (by simpa using h) n λbw g p he=>m (bw+1) g U (by simpa using he)
     simpa [f]using this
def Dx(I:(ao A).underlying mt=some (.map k el))(C:nK k)(h:ij w m M)(a b:Int)(v:S9):
 ∃w',Sem.run (ao A) (Instr.mapUpdate mt (.map (some m)) (cF a b) v) w=.ok () w'/\ij w' m (l1 M a b v)/\w.grownBy w' (some m)/\w'.heap.size=w.heap.size:=by
 obtain⟨es,clock,g,l,z⟩:=h;have H:=bu g;have E:Sem.run (ao A) (Instr.mapUpdate mt (.map (some m)) (cF a b) v) w=Sem.run (ao A) ((Instr.findKey k (cF a b) es.toList).bind λr=>match r with
  |some (i,_)=>(Instr.keyThatStays (((es[i]?).map (·.key)).getD (cF a b)) (cF a b)).bind λkey=>setObj m (.map (es.modify i λe=>{e with key,val:=v}) clock)
  |none=>setObj m (.map (es.push {key:=cF a b,val:=v,born:=clock}) (clock+1))) w:=by
  unfold Instr.mapUpdate;show Sem.run (ao A) ((underlying mt).bind _) w=_;rw[eL,run_underlying I];show Sem.run (ao A) ((getObj m).bind _) w=_;rw[eL,uf g ⟨_,_,S6⟩];show Sem.run (ao A) ((Instr.checkKey false 10000 k (cF a b)).bind _) w=_;rw[eL,yW C];rfl
 have st:∀o,Sem.run (ao A) (setObj m o) w=.ok () {w with heap:=w.heap.setIfInBounds m o}:=λo=>by unfold setObj;simp[Sem.run,g]
 have u:∀o,w.grownBy {w with heap:=w.heap.setIfInBounds m o} (some m):=λo=>⟨S6,S6,S6,aF,λj _ n=>by show(w.heap.setIfInBounds m o)[j]?=_;rw[h7 (λe=>n (by rw[e]))]⟩
 have at_:∀o,(w.heap.setIfInBounds m o)[m]?=some o:=λo=>by rw[iO H]
 rw[E,eL];rcases zi C a b w es.toList l with⟨r,D⟩|⟨j,e,r,n,B,F,D⟩
 .rw[r]
  refine⟨_,st _,⟨_,_,at_ _,λx hx=>?_,λc d=>?_⟩,u _,aF⟩
  .rw[Array.toList_push]at hx
   rcases List.mem_append.1 hx with hx|hx
   .exact l x hx
   .rw[ev hx];exact⟨a,b,S6⟩
  .rw[Array.toList_push,List.find?_append,l1]
   by_cases p:c=a/\d=b
   .obtain⟨rfl,rfl⟩:=p
    have:g0 c d {key:=cF c d,val:=v,born:=clock}=true:=q3.2 S6;simp[D,this]
   .have:g0 c d {key:=cF a b,val:=v,born:=clock}=false:=um.2 λe=>p (by let⟨g,l⟩:=uv e;exact⟨g.symm,l.symm⟩)
    rw[Tm p,z];simp[this]
 .rw[r]
  have G:((es[j]?).map (·.key)).getD (cF a b)=cF a b:=by
   have:es[j]?=some e:=by rw[<-Ue];exact n
   rw[this];exact q3.1 B
  show ∃w',Sem.run (ao A) ((Instr.keyThatStays (((es[j]?).map (·.key)).getD (cF a b)) (cF a b)).bind _) w=_/\_;rw[G,eL,Dr];refine⟨_,st _,⟨_,_,at_ _,λx hx=>?_,λc d=>?_⟩,u _,aF⟩
  .rw[Array.toList_modify]at hx
   let⟨i,f⟩:=List.mem_iff_getElem?.1 hx;rw[List.getElem?_modify]at f;cases q:es.toList[i]? with
   |none=>rw[q]at f;cases f
   |some y=>
    rw[q]at f;simp at f;split at f
    .subst f;exact⟨a,b,S6⟩
    .subst f;exact l y (hk q)
  .rw[Array.toList_modify,C6 a b v c d es.toList j e n B F,l1,z]
def ep(a:Int):S9:=ah a
def wS{a:Int}(h:ep a=ep c):a=c:=by simpa [ep]using h
def Co(c:k=3)(e:Ta)(a:Int)(w:S7):Sem.run (ao A) (Instr.checkKey e 10000 k (ep a)) w=.ok () w:=by subst c;kernel_rfl
def yp(es:Tb TY):Prop:=∀e∈es,∃a,e.key=ep a
noncomputable def h8(a:Int)(e:TY):Ta:=@decide (e.key=ep a) (Classical.propDecidable _)
def uk{a:Int}:h8 a e=true↔e.key=ep a:=by unfold h8;exact @decide_eq_true_iff _ (Classical.propDecidable _)
def wG{a:Int}:h8 a e=false↔e.key≠ep a:=by unfold h8;exact @decide_eq_false_iff_not _ (Classical.propDecidable _)
def My(a:Int):∀(es:Tb TY) (i:Nat),yp es->
 (Instr.findNow (.int .i64) (ep a) es i=some none/\es.find? (h8 a)=none)\/∃j e,Instr.findNow (.int .i64) (ep a) es i=some (some (i+j,e.val))/\es[j]?=some e/\h8 a e=true/\(∀bw g,bw<j->es[bw]?=some g->h8 a g=false)/\es.find? (h8 a)=some e:=by
 intro es;induction es with
 |nil=>intro i _;exact .inl ⟨S6,S6⟩
 |cons e es z=>
  intro i h;let⟨c,n⟩:=h e aF;have run:Instr.findNow (.int .i64) (ep a) (e::es) i=if a=c then some (some (i,e.val))else Instr.findNow (.int .i64) (ep a) es (i+1):=by
   rw[Instr.findNow,n];by_cases d:a=c
   .simp[Instr.sameNow,ep,d]
   .have:(a == c)=false:=by simpa using d
    rw[Tm d];simp[Instr.sameNow,ep,this]
  rw[run];by_cases d:a=c
  .have f:h8 a e=true:=by rw[uk,n,d]
   rw[Tq d];refine .inr ⟨0,e,S6,S6,f,λbw g u=>U,?_⟩;simp[List.find?,f]
  .have f:h8 a e=false:=by rw[wG,n];intro e;exact d (wS e).symm
   rw[Tm d];rcases z (i+1) (λy w=>h y (by simp[w]))with⟨l,m⟩|⟨j,o,l,m,p,q,r⟩
   .exact .inl ⟨l,by simp[List.find?,f,m]⟩
   .refine .inr ⟨j+1,o,?_,by simpa using m,p,λbw g u he=>?_,by simp[List.find?,f,r]⟩
    .rw[l]
     congr 3;omega
    .rcases bw with _|bw
     .simp at he;subst he;exact f
     .exact q bw g U (by simpa using he)
def C7(i:k=3)(a:Int)(w:S7)(es:Tb TY)(h:yp es):
 (Sem.run (ao A) (Instr.findKey k (ep a) es) w=.ok none w/\es.find? (h8 a)=none)\/∃j e,Sem.run (ao A) (Instr.findKey k (ep a) es) w=.ok (some (j,e.val)) w/\es[j]?=some e/\h8 a e=true/\(∀bw g,bw<j->es[bw]?=some g->h8 a g=false)/\es.find? (h8 a)=some e:=by
 subst i;have l:Sem.run (ao A) (Instr.findKey 3 (ep a) es) w=Sem.run (ao A) (match Instr.findNow (.int .i64) (ep a) es 0 with|some r=>pure r|none=>Instr.findAsking 3 (ep a) es) w:=by show Sem.run (ao A) ((underlying 3).bind λd=>match Instr.findNow d (ep a) es 0 with|some r=>pure r|none=>Instr.findAsking 3 (ep a) es) w=_;rw[eL,run_underlying (ao.underlying3 A)];rfl
 rw[l];rcases My a es 0 h with⟨c,f⟩|⟨j,e,c,f⟩
 .exact .inl ⟨by rw[c];rfl,f⟩
 .exact .inr ⟨j,e,by rw[c,Nat.zero_add];rfl,f⟩
def j'(w:S7)(m:Nat)(M:Int->TZ):Prop:=∃es clock,w.heap[m]?=some (.map es clock)/\yp es.toList/\∀a,M a=(es.toList.find? (h8 a)).map (·.val)
def oW(M:Int->TZ)(a:Int)(v:S9)(c:Int):TZ:=if c=a then some v else M c
def j'.new(w:S7)(m:Nat)(c:Nat)(h:w.heap[m]?=some (.map #[] c)):j' w m (λ_=>none):=⟨#[],c,h,λe he=>by simp at he,λa=>S6⟩
def j'.keep{M:Int->TZ}(h:j' w m M)(g:w.grownBy w' row)(j:some m≠row):j' w' m M:=by obtain⟨es,c,d,f,i⟩:=h;exact⟨es,c,(g.block m (bu d) j).trans d,f,i⟩
def Lf(a:Int)(w:S7):Sem.run (ao A) (Instr.keyThatStays (ep a) (ep a)) w=.ok (ep a) w:=by
 have h:Instr.sameBits 10000 (ep a) (ep a)=true:=by show Instr.sameBits (9999+1) (ep a) (ep a)=true;unfold ep;simp[Instr.sameBits]
 unfold Instr.keyThatStays;rw[h];rfl
def wT(q:(ao A).underlying mt=some (.map k el))(f:k=3)(g:∀w,Sem.run (ao A) (zeroValue el) w=.ok z w){M:Int->TZ}(h:j' w m M)(a:Int)(c:Ta):
 Sem.run (ao A) (Instr.lookup mt (.map (some m)) (ep a) c) w=.ok (if c then .tuple #[(M a).getD z,.bool (M a).isSome]else(M a).getD z) w:=by
 obtain⟨es,clock,n,o,p⟩:=h;have l:Sem.run (ao A) (Instr.lookup mt (.map (some m)) (ep a) c) w=Sem.run (ao A) ((Instr.findKey k (ep a) es.toList).bind λr=>(match r with|some (_,v)=>(pure (v,true):Sem (S9×Ta))|none=>(zeroValue el).bind λz=>pure (z,false)).bind λx=>pure (if c then .tuple #[x.1,.bool x.2]else x.1)) w:=by
  unfold Instr.lookup;show Sem.run (ao A) ((underlying mt).bind _) w=_;rw[eL,run_underlying q];show Sem.run (ao A) (((getObj m).bind _).bind _) w=_;rw[eL,eL,uf n ⟨_,_,S6⟩];show Sem.run (ao A) ((Instr.checkKey es.isEmpty 10000 k (ep a)).bind _) w=_;rw[eL,Co f];show Sem.run (ao A) ((Instr.findKey k (ep a) es.toList).bind _) w=_;rw[eL,eL];cases Sem.run (ao A) (Instr.findKey k (ep a) es.toList) w with
  |halt h w=>rfl
  |ok r w=>
   rcases r with _|⟨i,v⟩
   .show Sem.run (ao A) ((zeroValue el).bind _) w=Sem.run (ao A) (((zeroValue el).bind _).bind _) w
    rw[eL,eL,eL,g];rfl
   .rfl
 rw[l,eL,p];rcases C7 f a w es.toList o with⟨r,d⟩|⟨j,e,r,_,_,_,d⟩
 .rw[r,d]
  show Sem.run (ao A) (((zeroValue el).bind _).bind _) w=_;rw[eL,eL,g];rfl
 .rw[r,d]
  rfl
def KH(a:Int)(v:S9)(c:Int):∀(es:Tb TY) (j:Nat) (e:TY),es[j]?=some e->h8 a e=true->(∀bw f,bw<j->es[bw]?=some f->h8 a f=false)->
 ((es.modify j λx=>{x with key:=ep a,val:=v}).find? (h8 c)).map (·.val)=if c=a then some v else(es.find? (h8 c)).map (·.val):=by
 intro es;induction es with
 |nil=>intro j e h;simp at h
 |cons x es l=>
  intro j e h i g;rcases j with _|j
  .simp at h
   subst h;simp only[List.modify_zero_cons,List.find?_cons];by_cases d:c=a
   .subst d
    have:h8 c {x with key:=ep c,val:=v}=true:=uk.2 S6;simp[this]
   .have m:h8 c {x with key:=ep a,val:=v}=false:=wG.2 λe=>d (by exact(wS e).symm)
    have n:h8 c x=false:=wG.2 λe=>d (by rw[uk.1 i]at e;exact(wS e).symm)
    simp[m,n,d]
  .have p:h8 a x=false:=g 0 x U S6
   simp only[List.modify_succ_cons,List.find?_cons];by_cases d:c=a
   .subst d
    rw[p];have:=l j e (by simpa using h) i λbw f o he=>g (bw+1) f U (by simpa using he)
    simpa using this
   .cases q:h8 c x with
    |true=>simp[d]
    |false=>
     have:=l j e (by simpa using h) i λbw f o he=>g (bw+1) f U (by simpa using he)
     simpa [d]using this
def Dt(H:(ao A).underlying mt=some (.map k el))(B:k=3){M:Int->TZ}(h:j' w m M)(a:Int)(v:S9):
 ∃w',Sem.run (ao A) (Instr.mapUpdate mt (.map (some m)) (ep a) v) w=.ok () w'/\j' w' m (oW M a v)/\w.grownBy w' (some m)/\w'.heap.size=w.heap.size:=by
 obtain⟨es,clock,g,l,u⟩:=h;have G:=bu g;have D:Sem.run (ao A) (Instr.mapUpdate mt (.map (some m)) (ep a) v) w=Sem.run (ao A) ((Instr.findKey k (ep a) es.toList).bind λr=>match r with
  |some (i,_)=>(Instr.keyThatStays (((es[i]?).map (·.key)).getD (ep a)) (ep a)).bind λkey=>setObj m (.map (es.modify i λe=>{e with key,val:=v}) clock)
  |none=>setObj m (.map (es.push {key:=ep a,val:=v,born:=clock}) (clock+1))) w:=by
  unfold Instr.mapUpdate;show Sem.run (ao A) ((underlying mt).bind _) w=_;rw[eL,run_underlying H];show Sem.run (ao A) ((getObj m).bind _) w=_;rw[eL,uf g ⟨_,_,S6⟩];show Sem.run (ao A) ((Instr.checkKey false 10000 k (ep a)).bind _) w=_;rw[eL,Co B];rfl
 have st:∀o,Sem.run (ao A) (setObj m o) w=.ok () {w with heap:=w.heap.setIfInBounds m o}:=λo=>by unfold setObj;simp[Sem.run,g]
 have q:∀o,w.grownBy {w with heap:=w.heap.setIfInBounds m o} (some m):=λo=>⟨S6,S6,S6,aF,λj _ f=>by show(w.heap.setIfInBounds m o)[j]?=_;rw[h7 (λe=>f (by rw[e]))]⟩
 have at_:∀o,(w.heap.setIfInBounds m o)[m]?=some o:=λo=>by rw[iO G]
 rw[D,eL];rcases C7 B a w es.toList l with⟨r,C⟩|⟨j,e,r,f,z,E,C⟩
 .rw[r]
  refine⟨_,st _,⟨_,_,at_ _,λx hx=>?_,λc=>?_⟩,q _,aF⟩
  .rw[Array.toList_push]at hx
   rcases List.mem_append.1 hx with hx|hx
   .exact l x hx
   .rw[ev hx];exact⟨a,S6⟩
  .rw[Array.toList_push,List.find?_append,oW]
   by_cases n:c=a
   .subst n
    have:h8 c {key:=ep c,val:=v,born:=clock}=true:=uk.2 S6;simp[C,this]
   .have:h8 c {key:=ep a,val:=v,born:=clock}=false:=wG.2 λe=>n (by exact(wS e).symm)
    rw[Tm n,u];simp[this]
 .rw[r]
  have F:((es[j]?).map (·.key)).getD (ep a)=ep a:=by
   have:es[j]?=some e:=by rw[<-Ue];exact f
   rw[this];exact uk.1 z
  show ∃w',Sem.run (ao A) ((Instr.keyThatStays (((es[j]?).map (·.key)).getD (ep a)) (ep a)).bind _) w=_/\_;rw[F,eL,Lf];refine⟨_,st _,⟨_,_,at_ _,λx hx=>?_,λc=>?_⟩,q _,aF⟩
  .rw[Array.toList_modify]at hx
   let⟨i,d⟩:=List.mem_iff_getElem?.1 hx;rw[List.getElem?_modify]at d;cases p:es.toList[i]? with
   |none=>rw[p]at d;cases d
   |some y=>
    rw[p]at d;simp at d;split at d
    .subst d;exact⟨a,S6⟩
    .subst d;exact l y (hk p)
  .rw[Array.toList_modify,KH a v c es.toList j e f z E,oW,u]
def Lj(K:(ao A).underlying mt=some (.map k el))(D:nK k)(h:ij w m M)(a b:Int)(v:S9):
 ∃w',Sem.run (ao A) (Instr.mapUpdate mt (.map (some m)) (cF a b) v) w=.ok () w'/\ij w' m (l1 M a b v)/\w.grownBy w' (some m)/\w'.heap.size=w.heap.size/\∀es c,w'.heap[m]?=some (.map es c)->∀e∈es.toList,e.val=v\/∃u bx,w.heap[m]?=some (.map u bx)/\∃F∈u.toList,F.val=e.val:=by
 obtain⟨es,clock,g,n,B⟩:=h;have J:=bu g;have G:Sem.run (ao A) (Instr.mapUpdate mt (.map (some m)) (cF a b) v) w=Sem.run (ao A) ((Instr.findKey k (cF a b) es.toList).bind λr=>match r with
  |some (i,_)=>(Instr.keyThatStays (((es[i]?).map (·.key)).getD (cF a b)) (cF a b)).bind λkey=>setObj m (.map (es.modify i λe=>{e with key,val:=v}) clock)
  |none=>setObj m (.map (es.push {key:=cF a b,val:=v,born:=clock}) (clock+1))) w:=by
  unfold Instr.mapUpdate;show Sem.run (ao A) ((underlying mt).bind _) w=_;rw[eL,run_underlying K];show Sem.run (ao A) ((getObj m).bind _) w=_;rw[eL,uf g ⟨_,_,S6⟩];show Sem.run (ao A) ((Instr.checkKey false 10000 k (cF a b)).bind _) w=_;rw[eL,yW D];rfl
 have st:∀o,Sem.run (ao A) (setObj m o) w=.ok () {w with heap:=w.heap.setIfInBounds m o}:=λo=>by unfold setObj;simp[Sem.run,g]
 have z:∀o,w.grownBy {w with heap:=w.heap.setIfInBounds m o} (some m):=λo=>⟨S6,S6,S6,aF,λj _ p=>by show(w.heap.setIfInBounds m o)[j]?=_;rw[h7 (λe=>p (by rw[e]))]⟩
 have at_:∀o,(w.heap.setIfInBounds m o)[m]?=some o:=λo=>by rw[iO J]
 rw[G,eL];rcases zi D a b w es.toList n with⟨r,E⟩|⟨j,e,r,p,C,H,E⟩
 .rw[r]
  refine⟨_,st _,⟨_,_,at_ _,λx hx=>?_,λc d=>?_⟩,z _,aF,λfg bp he x hx=>?_⟩
  .rw[Array.toList_push]at hx
   rcases List.mem_append.1 hx with hx|hx
   .exact n x hx
   .rw[ev hx];exact⟨a,b,S6⟩
  .rw[Array.toList_push,List.find?_append,l1]
   by_cases q:c=a/\d=b
   .obtain⟨rfl,rfl⟩:=q
    have:g0 c d {key:=cF c d,val:=v,born:=clock}=true:=q3.2 S6;simp[E,this]
   .have:g0 c d {key:=cF a b,val:=v,born:=clock}=false:=um.2 λe=>q (by let⟨g,n⟩:=uv e;exact⟨g.symm,n.symm⟩)
    rw[Tm q,B];simp[this]
  .rw[at_ _]at he
   cases he;rw[Array.toList_push]at hx;rcases List.mem_append.1 hx with hx|hx
   .exact .inr ⟨_,_,g,x,hx,S6⟩
   .rw[ev hx];exact .inl S6
 .rw[r]
  have I:((es[j]?).map (·.key)).getD (cF a b)=cF a b:=by
   have:es[j]?=some e:=by rw[<-Ue];exact p
   rw[this];exact q3.1 C
  show ∃w',Sem.run (ao A) ((Instr.keyThatStays (((es[j]?).map (·.key)).getD (cF a b)) (cF a b)).bind _) w=_/\_;rw[I,eL,Dr];refine⟨_,st _,⟨_,_,at_ _,λx hx=>?_,λc d=>?_⟩,z _,aF,λfg bp he x hx=>?_⟩
  .rw[Array.toList_modify]at hx
   let⟨i,f⟩:=List.mem_iff_getElem?.1 hx;rw[List.getElem?_modify]at f;cases l:es.toList[i]? with
   |none=>rw[l]at f;cases f
   |some y=>
    rw[l]at f;simp at f;split at f
    .subst f;exact⟨a,b,S6⟩
    .subst f;exact n y (hk l)
  .rw[Array.toList_modify,C6 a b v c d es.toList j e p C H,l1,B]
  .rw[at_ _]at he
   cases he;rw[Array.toList_modify]at hx;let⟨i,f⟩:=List.mem_iff_getElem?.1 hx;rw[List.getElem?_modify]at f;cases l:es.toList[i]? with
   |none=>rw[l]at f;cases f
   |some y=>
    rw[l]at f;simp at f;split at f
    .subst f;exact .inl S6
    .subst f;exact .inr ⟨_,_,g,y,hk l,S6⟩
def lu(w:S7)(m:Nat)(M:Int->Int->TZ):Prop:=ij w m M/\∀es c,w.heap[m]?=some (.map es c)->∀e∈es.toList,∃n:Int,e.val=ah n
def lu.new(w:S7)(m:Nat)(c:Nat)(h:w.heap[m]?=some (.map #[] c)):lu w m (λ_ _=>none):=⟨ij.new w m c h,λes bp d e he=>by rw[h]at d;cases d;simp at he⟩
def lu.keep(h:lu w m M)(g:w.grownBy w' row)(d:some m≠row):lu w' m M:=by refine⟨h.1.keep g d,λes c e=>?_⟩;let⟨i,bx,f,_⟩:=h.1;have:=g.block m (bu f) d;rw[this]at e;exact h.2 es c e
def Lk(q:(ao A).underlying mt=some (.map k el))(p:nK k)(h:lu w m M)(a b n:Int):
 ∃w',Sem.run (ao A) (Instr.mapUpdate mt (.map (some m)) (cF a b) (ah n)) w=.ok () w'/\lu w' m (l1 M a b (ah n))/\w.grownBy w' (some m)/\w'.heap.size=w.heap.size:=by
 let⟨w',g,i,j,l,o⟩:=Lj q p h.1 a b (ah n);refine⟨w',g,⟨i,λes c e x y=>?_⟩,j,l⟩;rcases o es c e x y with h|⟨f,bx,d,B,z,u⟩
 .exact⟨n,h⟩
 .let⟨c9,r⟩:=h.2 f bx d B z
  exact⟨c9,u.symm.trans r⟩
end
end Go.aO
namespace Go.aO
attribute [-simp] Go.Sem.runT_eq
open Go.Proofs Tryz
def Er:Tv Oper:=#[⟨some 2,.binOp .eql 114 (.tmp 0) (.const .nilIface) 114,4,"",#[],none⟩]
def Es:Tv Oper:=#[⟨some 4,.assign (.const (.bool false)),4,"",#[],none⟩]
def Cw:Code:=.cond (.tmp 2) (.seq (.region 1 Es false) .ret) (.refuse "")
def xW:Code:=.seq (.region 0 Er false) Cw
def Ad:Tv Oper:=#[⟨some 3,.binOp .eql 268 (.tmp 0) (.const (.pointer none)) 268,4,"",#[],none⟩]
def Ae(a:Int):Tv Oper:=#[⟨some 1,.load 21 (.tmp 0),21,"",#[],none⟩,⟨some 2,.binOp .eql 21 (.tmp 1) (.const (.int .i32 a)) 21,4,"",#[⟨0,.data⟩],none⟩]
def Af(b:Int):Tv Oper:=#[⟨none,.store 21 (.tmp 0) (.const (.int .i32 b)),0,"",#[],none⟩]
def yZ(a b:Int):Code:=.seq (.region 1 (Ae a) false) (.cond (.tmp 2) (.seq (.region 2 (Af b) false) .ret) (.refuse ""))
def tc(a b:Int):Code:=.seq (.region 0 Ad false) (.cond (.tmp 3) (.refuse "") (yZ a b))
noncomputable def rq:TF:={f66 with body:=some xW,results:=#[.tmp 4],nfree:=2,endLine:=1000000007}
noncomputable def sX:TF:={f134 with body:=some (tc 0 1),results:=#[],nfree:=1,endLine:=1000000007}
noncomputable def sY:TF:={f135 with body:=some (tc 1 0),results:=#[],nfree:=1,endLine:=1000000007}
noncomputable def xM:Tb (Nat×TF):=[(66,rq),(101,f101),(134,sX),(135,sY),(136,f136)]
def AA:TA:=[71,89,90,92,93,150,200]
end Go.aO
