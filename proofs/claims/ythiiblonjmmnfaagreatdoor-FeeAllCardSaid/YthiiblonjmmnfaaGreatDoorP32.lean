/- Part 33 of a law on fees: no conditions. -/
import Derived.Test.YthiiblonjmmnfaaGreatDoorP31
import Derived.Deep.AppendLies
import Derived.Deep.RegionHeld3
import Derived.Deep.Cut
import Derived.Deep.CutRange
import Derived.BigQuiet
set_option maxHeartbeats 8000000
set_option maxRecDepth 100000
set_option linter.all false
namespace Go.aN
open Go.Proofs Go.RowKit
section
variable{A:Array Func}
structure kR(a8:World->Prop)(D:fb)(P:fc)(b:Nat)(c:fv)(aI w:World):Prop where
 h2:ek a8 D P w
 ch:w.heap[b]?=some (.cells c.a 175)
 z:w.heap[aI.heap.size]?=some (.cells hv.a 148)
 e4:ca P.X aI w
 lt:aI.heap.size+1<=b
 old:P.T<aI.heap.size/\P.B<=aI.heap.size/\P.C<aI.heap.size/\P.fm<aI.heap.size/\P.fA<aI.heap.size
def kR.eQ{d:World->Prop}{D:fb}{P:fc}{b:Nat}{c:fv}{aI w w':World}(h:kR d D P b c aI w)(H:jf A d D P)(g:w.grownBy w' none):kR d D P b c aI w':=
 ⟨h.h2.eQ H.keep g,(g.block _ (bp h.ch) (by simp)).trans h.ch,(g.block _ (bp h.z) (by simp)).trans h.z,h.e4.step g (by simp),h.lt,h.old⟩
def kR.na{f:World->Prop}{D:fb}{P:fc}{b:Nat}{c:fv}{aI w w':World}(h:kR f D P b c aI w)(k:ek f D P w')(g:ca P.X w w'):kR f D P b c aI w':=by
 have j:=h.lt;have l:=h.old;have d:∀i,aI.heap.size<=i->¬P.X i:=λi o d=>by rcases d with rfl|rfl|rfl<;>omega
 exact⟨k,(g.block _ (bp h.ch) (d _ (by omega))).trans h.ch,(g.block _ (bp h.z) (d _ (by omega))).trans h.z,h.e4.trans g,h.lt,h.old⟩
def kR.put{d:World->Prop}{D:fb}{P:fc}{b:Nat}{c bo:fv}{aI w w':World}(h:kR d D P b c aI w)(H:jf A d D P)(e:w'.heap[b]?=some (.cells bo.a 175))(g:w.grownBy w' (some b)):kR d D P b bo aI w':=by
 have l:=h.lt;have o:=h.old;have j:∀i,i≠b->some i≠some b:=λi f e=>f (Pm e)
 exact⟨h.h2.keep H.keep g (λr e=>by cases e;omega),e,(g.block _ (bp h.z) (j _ (by omega))).trans h.z,h.e4.step g (λr e=>.inr (by cases e;omega)),h.lt,h.old⟩
def HH[S:Std A][eg:gQ A]{l:World->Prop}{D:fb}{P:fc}(H:jf A l D P)(left:Nat)(w:World)(h:ek l D P w){N:Int->Option Value}(E:iS w P.fA N)(F:oO D N){v:Value}(u:N left=some v):
 Calls (ag A) 52 #[.pointer (some ⟨P.C,0,none⟩),.int .i64 left] w λe w'=>e=.returned (.agg (bL D.aX D.e D.carry left).a)/\ek l D P w'/\ca P.X w w':=by
 obtain⟨d,g⟩:∃W,w.alloc (.cells #[.int .i64 0,.int .i64 0,.int .i64 0,.int .i64 0,.int .i64 0] 148)=W:=⟨_,rfl⟩
 have j:w.grownBy d none:=by rw[<-g];exact Pn
 have s1:d.heap.size=w.heap.size+1:=by rw[<-g];simp
 have f:d.heap[w.heap.size]?=some (.cells hv.a 148):=by rw[<-g,gA];rfl
 have r:=h.eQ H.keep j;have L:=Pj (h.eJ H);have Q:d.cell? ⟨P.C,5,none⟩=some (.map (some P.fA)):=aT r.c;have T:w.heap.size<d.heap.size:=by omega
 obtain rfl:=F left v u;have R:Sem.run (ag A) (Instr.lookup 144 (.map (some P.fA)) (.int .i64 left) true) d=.ok (.tuple #[.agg (bL D.aX D.e D.carry left).a,.bool true]) d:=by have:=uA (ag.underlying120 A) rfl vH (E.keep j (by simp)) left true;rw[u]at this;exact this
 have U:d.cell? ⟨w.heap.size,0,none⟩=some (.int .i64 0):=aT f;have V:d.cell? ⟨w.heap.size,1,none⟩=some (.int .i64 0):=aT f;have Y:d.cell? ⟨w.heap.size,2,none⟩=some (.int .i64 0):=aT f;have Z:d.cell? ⟨w.heap.size,3,none⟩=some (.int .i64 0):=aT f;have aa:d.cell? ⟨w.heap.size,4,none⟩=some (.int .i64 0):=aT f;have z0:=b1 (o:=0) f;have ad:=b1 (o:=1) f;have ae:=b1 (o:=2) f;have z3:=b1 (o:=3) f;have z4:=b1 (o:=4) f;have G:=Pj f;have J:=Pj r;have I:=Pj j;have B:=Pj H;have K:=Pj g;clear h j r F H s1 f E u g;go_enter (S.f Tryz.func52),Tryz.ntmps52;go_upto_region 1 with fail
 rw[K.out];go_wp2;have LT:=L.out;obtain⟨i,p,M⟩:=uT (w:=w) (b:=w.heap.size) (W:=d) (c:=hv.a) (bL D.aX D.e D.carry left) rfl G.out Pk (X:=P.X) (ca.ig I.out);have z:=J.out.keep B.out.keep M (λb e=>by cases e;omega);revert i p z;generalize ((((d.setCell ⟨w.heap.size,0,none⟩ (.int .i64 (bL D.aX D.e D.carry left).cost)).setCell ⟨w.heap.size,1,none⟩ (.int .i64 (bL D.aX D.e D.carry left).ee)).setCell ⟨w.heap.size,2,none⟩ (.int .i64 (bL D.aX D.e D.carry left).left)).setCell ⟨w.heap.size,3,none⟩ (.int .i64 (bL D.aX D.e D.carry left).aK)).setCell ⟨w.heap.size,4,none⟩ (.int .i64 (bL D.aX D.e D.carry left).next)=C;intro i p z;have q:C.grownBy (C.alloc (.cells (bL D.aX D.e D.carry left).a 148)) none:=Pn;refine bodyPost_ret (results_cell_row rfl _ _ w.heap.size 148 (bL D.aX D.e D.carry left).a (0,0) _ rfl ((q.block _ (bp i) (by simp)).trans i) (ag.underlying124 A) rfl u') rfl ?_;exact⟨rfl,z.eQ B.out.keep q,p.trans (ca.ig q)⟩
def HI[S:Std A][eg:gQ A]{u:World->Prop}{D:fb}{P:fc}(H:jf A u D P)(left:Nat)(af:∀l,left<l->l<=D.e->p1 A u D P l)(w:World)(h:ek u D P w){N:Int->Option Value}(aq:iS w P.fA N)(aU:oO D N)(ax:N left=none):
 Calls (ag A) 52 #[.pointer (some ⟨P.C,0,none⟩),.int .i64 left] w λe w'=>e=.returned (.agg (bL D.aX D.e D.carry left).a)/\ek u D P w'/\ca P.X w w':=by
 obtain⟨p,F⟩:∃W,w.alloc (.cells #[.int .i64 0,.int .i64 0,.int .i64 0,.int .i64 0,.int .i64 0] 148)=W:=⟨_,rfl⟩
 obtain⟨d,G⟩:∃W,p.alloc (.cells #[.int .i64 0,.int .i64 0,.int .i64 0,.int .i64 0,.int .i64 0] 148)=W:=⟨_,rfl⟩
 obtain⟨J,I⟩:∃W,d.alloc (.cells #[.func (.func 67) #[] #[],.int .i64 0,.int .i64 0,.int .i64 0,.int .i64 0,.int .i64 0,.bool false] 175)=W:=⟨_,rfl⟩
 have K:w.grownBy p none:=by rw[<-F];exact Pn
 have am:w.grownBy d none:=by rw[<-G];exact K.trans Pn
 have ad:w.grownBy J none:=by rw[<-I];exact am.trans Pn
 have al:p.grownBy J none:=by rw[<-I,<-G];exact Pn.trans Pn
 have s1:p.heap.size=w.heap.size+1:=by rw[<-F];simp
 have s2:d.heap.size=w.heap.size+2:=by rw[<-G,Pp,s1]
 have Y:p.heap[w.heap.size]?=some (.cells hv.a 148):=by rw[<-F,gA];rfl
 have ak:J.heap[d.heap.size]?=some (.cells kz.a 175):=by rw[<-I,h' _ _ _ rfl];rfl
 have eJ:=h.eJ H;have aL:=H.ok.T;have ay:kR u D P d.heap.size kz w J:=⟨h.eQ H.keep ad,ak,(al.block _ (bp Y) (by simp)).trans Y,ca.ig ad,by omega,by omega⟩
 have aZ:p.cell? ⟨P.C,5,none⟩=some (.map (some P.fA)):=aT (h.eQ H.keep K).c;have a2:Sem.run (ag A) (Instr.lookup 144 (.map (some P.fA)) (.int .i64 left) true) p=.ok (.tuple #[.agg #[.int .i64 0,.int .i64 0,.int .i64 0,.int .i64 0,.int .i64 0],.bool false]) p:=by have:=uA (ag.underlying120 A) rfl vH (aq.keep K (by simp)) left true;rw[ax]at this;exact this
 have aG:=Pj ay;have q:=Pj H;have aD:=Pj F;have aE:=Pj G;have aF:=Pj I;have aX:=Pj af;have aC:=Pj λc x w=>zP (A:=A) d.heap.size c x w
 have aB:=Pj λaK (aR:left<=aK) (aO:aK<=D.e) w h=>EO (A:=A) H left aK aR aO af w h
 clear h K am ad al s1 s2 Y ak aU H aq ax F G I ay eJ aL af;go_enter (S.f Tryz.func52),Tryz.ntmps52;go_upto_region 1 with fail
 rw[aD.out];go_upto_region 4 with fail
 rw[aE.out];go_upto_region 5 with fail
 rw[aF.out];go_wp2;obtain⟨cnt,au⟩:∃n,n=D.e+1-left:=⟨_,rfl⟩
 have V:=Pj au;clear au;go_loopw [9] (λi wr=>∃h:Nat,i=.int .i64 h/\(left<=h/\h<=left+cnt)/\kR u D P d.heap.size (fW D.aX D.e D.carry (bL D.aX D.e D.carry) left (h-left)) w wr) (λi _=>left+cnt+1-(numOf i))
 case atStart=>exact⟨left,rfl,⟨Pk,by omega⟩,by rw[Nat.sub_self];exact aG.out⟩
 case round=>
  obtain⟨h,rfl,aP,bj⟩:=hrel;have a5:wr.cell? ⟨P.C,2,none⟩=some (.int .i64 D.e):=aT bj.h2.c;have a1:=q.out.e;have E:=Pj bj;clear bj;by_cases a3:h<left+cnt
  .have aM:=V.out
   have aQ:h<=D.e:=by omega
   clear aM;have B:=aB.out h aP.1 aQ wr E.out.h2;cases C:(eG D.aX D.e D.carry left h).some
   .rw[C]at B
    have T:=Pj (show fW D.aX D.e D.carry (bL D.aX D.e D.carry) left (h+1-left)=fW D.aX D.e D.carry (bL D.aX D.e D.carry) left (h-left) by rw[show h+1-left=(h-left)+1 by omega];exact AJ (by rw[show left+(h-left)=h by omega];exact C))
    have U:=Pj B;clear B C;go_wp2_with (go_at_call 69;refine U.out.mono ?_;rintro e ai ⟨rfl,M,L⟩)
    have R:=(E.out.na M L).eQ q.out (Pv ai (.cells (eG D.aX D.e D.carry left h).cf.a 148) none);go_roundw
    case rel=>exact⟨h+1,by go_num,by omega,by rw[T.out];exact R⟩
    case measure=>simp[numOf];omega
   .rw[C]at B
    have T:=Pj (show fW D.aX D.e D.carry (bL D.aX D.e D.carry) left (h+1-left)=(fW D.aX D.e D.carry (bL D.aX D.e D.carry) left (h-left)).take (eG D.aX D.e D.carry left h).cf by
     have aS:(eG D.aX D.e D.carry left (left+(h-left))).some=true:=by rw[show left+(h-left)=h by omega];exact C
     rw[show h+1-left=(h-left)+1 by omega,w7 aS,show left+(h-left)=h by omega])
    have U:=Pj B;clear B C;go_wp2_with (first|(go_at_call 69;refine U.out.mono ?_;rintro e ai ⟨rfl,M,L⟩;have R:=Pj ((E.out.na M L).eQ q.out (Pv ai (.cells (eG D.aX D.e D.carry left h).cf.a 148) none));clear M L)|(go_at_call 68;refine(aC.out (fW D.aX D.e D.carry (bL D.aX D.e D.carry) left (h-left)) (eG D.aX D.e D.carry left h).cf _ R.out.ch).mono ?_;rintro e a6 ⟨rfl,aV,aJ⟩))
    go_roundw
    case rel=>exact⟨h+1,by go_num,by omega,by rw[T.out];exact R.out.put q.out aV aJ⟩
    case measure=>simp[numOf];omega
  .obtain rfl:h=left+cnt:=by omega
   have av:(fW D.aX D.e D.carry (bL D.aX D.e D.carry) left (left+cnt-left)).cf=bL D.aX D.e D.carry left:=by rw[Nat.add_sub_cancel_left,V.out,<-wj]
   have aN:=V.out;have t1:decide (((left+cnt:Nat):Int)<=D.e)=false:=by simp;omega
   have t2:decide (left+cnt<=D.e)=false:=by simp;omega
   have aj:=Pj av;clear av aN;generalize ar:fW D.aX D.e D.carry (bL D.aX D.e D.carry) left (left+cnt-left)=c at *;generalize left+cnt=h at *;have j:=E.out;have a0:wr.cell? ⟨P.C,5,none⟩=some (.map (some P.fA)):=aT j.h2.c;have v1:wr.cell? ⟨d.heap.size,1,none⟩=some (.int .i64 c.cf.cost):=aT j.ch;have v2:wr.cell? ⟨d.heap.size,2,none⟩=some (.int .i64 c.cf.ee):=aT j.ch;have v3:wr.cell? ⟨d.heap.size,3,none⟩=some (.int .i64 c.cf.left):=aT j.ch;have v4:wr.cell? ⟨d.heap.size,4,none⟩=some (.int .i64 c.cf.aK):=aT j.ch;have v5:wr.cell? ⟨d.heap.size,5,none⟩=some (.int .i64 c.cf.next):=aT j.ch;obtain⟨bR,ao,aA⟩:=j.h2.k;have ap:iS wr.drew P.fA bR:=ao.keep (row:=none) (fQ (Pw _ _)) (by simp);obtain⟨g,aw,az,z,z9⟩:=A2 (ag.underlying120 A) rfl ap (left:Int) (.agg c.cf.a);replace aw:Sem.run (ag A) (Instr.mapUpdate 144 (.map (some P.fA)) (.int .i64 left) (.agg #[.int .i64 c.cf.cost,.int .i64 c.cf.ee,.int .i64 c.cf.left,.int .i64 c.cf.aK,.int .i64 c.cf.next])) wr.drew=.ok () g:=aw;have ae:wr.grownBy g (some P.fA):=⟨z.os,z.tape,z.output,z.size,z.block⟩
   have f:kR u D P d.heap.size c w g:=j.na (j.h2.Ks q.out.ok q.out.keep ae ⟨_,az,by have:=aA.put left;rw[<-aj.out]at this;exact this⟩) (ca.of ae (λr e=>.inr (.inr (by cases e;rfl))))
   have a7:g.cell? ⟨d.heap.size,1,none⟩=some (.int .i64 c.cf.cost):=aT f.ch;have a8:g.cell? ⟨d.heap.size,2,none⟩=some (.int .i64 c.cf.ee):=aT f.ch;have a9:g.cell? ⟨d.heap.size,3,none⟩=some (.int .i64 c.cf.left):=aT f.ch;have ba:g.cell? ⟨d.heap.size,4,none⟩=some (.int .i64 c.cf.aK):=aT f.ch;have bb:g.cell? ⟨d.heap.size,5,none⟩=some (.int .i64 c.cf.next):=aT f.ch;have bc:g.cell? ⟨w.heap.size,0,none⟩=some (.int .i64 0):=aT f.z;have bd:g.cell? ⟨w.heap.size,1,none⟩=some (.int .i64 0):=aT f.z;have bf:g.cell? ⟨w.heap.size,2,none⟩=some (.int .i64 0):=aT f.z;have bg:g.cell? ⟨w.heap.size,3,none⟩=some (.int .i64 0):=aT f.z;have bh:g.cell? ⟨w.heap.size,4,none⟩=some (.int .i64 0):=aT f.z;have z0:=b1 (o:=0) f.z;have bi:=b1 (o:=1) f.z;have bk:=b1 (o:=2) f.z;have z3:=b1 (o:=3) f.z;have z4:=b1 (o:=4) f.z;have a4:w.heap.size≠d.heap.size:=by have:=f.lt;omega
   have aH:=Pj f;have aW:=Pj ar;clear f ae az z z9 ap ao aA j E ar;go_wp2;go_region
   all_goals (
    go_wp2;have Q:=aH.out;obtain⟨Z,aa,aI⟩:=uT (w:=w) (b:=w.heap.size) (W:=g) (c:=hv.a) c.cf rfl Q.z Pk (X:=P.X) Q.e4;have ah:=Q.h2.keep q.out.keep aI (λb e=>by have:=Q.old;cases e;omega);revert Z aa ah;generalize ((((g.setCell ⟨w.heap.size,0,none⟩ (.int .i64 c.cf.cost)).setCell ⟨w.heap.size,1,none⟩ (.int .i64 c.cf.ee)).setCell ⟨w.heap.size,2,none⟩ (.int .i64 c.cf.left)).setCell ⟨w.heap.size,3,none⟩ (.int .i64 c.cf.aK)).setCell ⟨w.heap.size,4,none⟩ (.int .i64 c.cf.next)=aY;intro Z aa ah;refine bodyPost_ret (results_cell_row rfl _ _ w.heap.size 148 c.cf.a (0,0) _ rfl Z (ag.underlying124 A) rfl u') rfl ?_;exact⟨by rw[<-aj.out],ah,aa⟩)
def AK[S:Std A][eg:gQ A]{c:World->Prop}{D:fb}{P:fc}(H:jf A c D P):∀left,p1 A c D P left:=by
 have key:∀n left,D.e+1-left=n->p1 A c D P left:=by
  intro n;induction n using Nat.strongRecOn with
  |_ n i=>
   intro left p w h;obtain⟨N,d,g⟩:=h.k;cases f:N left with
   |some v=>exact HH H left w h d g f
   |none=>exact HI H left (λl j o=>i (D.e+1-l) (by omega) l rfl) w h d g f
 exact λleft=>key _ left rfl
end
section
variable{A:Array Func}
def HW:∃i,(ag A).info? 108=some i/\i.zero=some (.agg #[.int .i64 0,.int .i64 0,.int .i64 0])/\i.size=3/\i.bytes=24:=⟨_,rfl,rfl,rfl,rfl⟩
def BS{w:World}{base:Nat}{e:TypeId}{size:Nat}{v:Value}{n:Nat}{xs:List Value}(h:w.ownsRow base e size v n xs)(p:n≠0):
 ∃g c,v=.slice (some ⟨g,0,none⟩) n c/\base<=g/\∀j u,xs[j]?=some u->w.cell? ⟨g,j,none⟩=some u:=by
 obtain⟨B,⟨_,rfl⟩|⟨g,c,cur,rfl,i,l,q,r,z,f⟩⟩:=h
 .exact absurd rfl p
 .refine⟨g,c,rfl,i,λj u o=>?_⟩
  rw[aT l,<-Array.getElem?_toList];have d:(cur.toList.take (n*size))[j]?=some u:=by rw[f];exact o
  rw[List.getElem?_take]at d;split at d
  .exact d
  .cases d
def Ew[S:Std A][eg:gQ A](g c:Nat)(w:World)(cH b8 f0 d p f1 f q f2 l r f3:Int)(h:∀(j:Nat) u,([.int .i64 cH,.int .i64 b8,.int .i64 f0,.int .i64 d,.int .i64 p,.int .i64 f1,.int .i64 f,.int .i64 q,.int .i64 f2]++[.int .i64 l,.int .i64 r,.int .i64 f3]:List Value)[j]?=some u->w.cell? ⟨g,j,none⟩=some u)(z:0<=cH/\cH<=b8)(B:0<=d/\d<=p)(C:0<=f/\f<=q)(D:0<=l/\l<=r):
 Calls (ag A) 35 #[.slice (some ⟨g,0,none⟩) 4 c] w λe w'=>e=.returned .nilIface/\w.grownBy w' none:=by
 refine tz g 0 4 c (by omega) w (λi=>match i with|0=>cH|1=>d|2=>f|_=>l) (λi=>match i with|0=>b8|1=>p|2=>q|_=>r) (λi=>match i with|0=>f0|1=>f1|2=>f2|_=>f3) (λi o=>?_) (λi o=>?_) (λi o=>?_) (λi o=>?_)
 .rcases i with _|_|_|_|i<;>first|exact h _ _ rfl|omega
 .rcases i with _|_|_|_|i<;>first|exact h _ _ rfl|omega
 .rcases i with _|_|_|_|i<;>first|exact h _ _ rfl|omega
 .rcases i with _|_|_|_|i
  .exact z
  .exact B
  .exact C
  .exact D
  .omega
def NL[S:Std A][eg:gQ A][P:gg A](d:cR)(ok:d.ok)(p:dU)(k:Nat)(aM:k<d.kinds)(left aK:Nat)(aN:left<=aK)(aL:aK<120)(carry:Nat)(aJ:carry<=30)(w:World)(h:fy w d p)(b:Nat)(hm:w.heap[b]?=some (.cells #[.int .i64 carry,.int .i64 30,.int .i64 3] 108)):
 Calls (ag A) 19 #[.agg (cO d p),.int .i64 k,.agg #[.int .i64 left,.int .i64 aK],.slice (some ⟨b,0,none⟩) 1 1] w (p' d p w):=by
 have aI:=ok.kinds;have C:w.grownBy ((w.alloc (.cells (cO d p) 27)).alloc (.cells #[.int .i64 left,.int .i64 aK] 59)) none:=Pn.trans Pn;have aq:=Pj (xS (A:=A) d ok p _ (h.keep C));have Y:=(C.block b (bp hm) (by simp)).trans hm;have I:=Pj C;have L:=Pj Y;have z:((w.alloc (.cells (cO d p) 27)).alloc (.cells #[.int .i64 left,.int .i64 aK] 59)).cell? ⟨w.heap.size+1,0,none⟩=some (.int .i64 left):=by rw[Pr (by simp)];rfl
 have B:((w.alloc (.cells (cO d p) 27)).alloc (.cells #[.int .i64 left,.int .i64 aK] 59)).cell? ⟨w.heap.size+1,1,none⟩=some (.int .i64 aK):=by rw[Pr (by simp)];rfl
 have az:=Pj z;have aA:=Pj B;obtain⟨i0,r,ad,ae,af⟩:=HW (A:=A);have ao:=Pj r;have au:=Pj ad;have av:=Pj ae;have aw:=Pj af;clear C h z B hm Y r ad ae af;go_enter (S.f Tryz.func19),Tryz.ntmps19;go_wp2_with (go_at_call 22;refine aq.out.mono ?_;rintro e w3 ⟨T,rfl,R,H,q⟩;have z:=q.cell az.out (by simp);have B:=q.cell aA.out (by simp);have t0:w3.cell? ⟨T,0,none⟩=some (.int .i64 d.kinds):=(aT H).trans rfl;have Z:=(q.block b (bp L.out) (by simp)).trans L.out;have M:=Pj Z;have J:=Pj H;have K:=Pj q;have ar:=Pj R;clear H q R Z)
 go_region
 have f:∃W,W=(w3.alloc (.cells #[.int .i64 k,.int .i64 (d.kinds-1),.int .i64 0,.int .i64 left,.int .i64 119,.int .i64 2,.int .i64 aK,.int .i64 119,.int .i64 2] 108)).drew:=⟨_,rfl⟩
 obtain⟨f,D⟩:=f;have l:w3.grownBy f none:=by rw[D];exact fQ Pn
 have G:f.heap[w3.heap.size]?=some (.cells #[.int .i64 k,.int .i64 (d.kinds-1),.int .i64 0,.int .i64 left,.int .i64 119,.int .i64 2,.int .i64 aK,.int .i64 119,.int .i64 2] 108):=by rw[D];exact gA _ _
 have ah:=(l.block b (bp M.out) (by simp)).trans M.out;have own:f.ownsRow w3.heap.size 108 3 (.slice (some ⟨w3.heap.size,0,none⟩) 3 3) 3 [.int .i64 k,.int .i64 (d.kinds-1),.int .i64 0,.int .i64 left,.int .i64 119,.int .i64 2,.int .i64 aK,.int .i64 119,.int .i64 2]:=
  ⟨rfl,.inr ⟨w3.heap.size,3,_,rfl,Pk,G,by omega,by unfold maxLen;omega,rfl,rfl⟩⟩
 have ai:=(l.cell z (by simp))
 have q1:=(l.cell B (by simp))
 have aO:w.heap.size+1<w3.heap.size:=by have:=K.out.size;simp at this;omega
 have ay:=Pj own;have ax:=Pj ah;have aH:=Pj G;have c:=Pj l;have aG:w3.heap.size<=f.heap.size:=l.size;rw[<-D];have ap:=Pj (tV (A:=A));clear own ah G l D z B t0;go_wp2_with (first|(at_builtin;refine wpList_append_own_at _ rfl _ _ 87 rfl w3.heap.size 108 i0 (.agg #[.int .i64 0,.int .i64 0,.int .i64 0]) 3 24 (ag.underlying161 A) ao.out au.out av.out aw.out rfl (by decide) _ 3 _ rfl ay.out ⟨b,0,none⟩ 1 1 [.int .i64 carry,.int .i64 30,.int .i64 3] rfl rfl (λj u X=>by rcases j with _|_|_|j<;>first|(rw[show((⟨b,0,none⟩:Addr).add _)=⟨b,_,none⟩from rfl];rw[aT ax.out];exact X)|(simp at X)) (λu hu=>by simp at hu;rcases hu with rfl|rfl|rfl<;>rfl) (by unfold maxLen;omega) (by omega) aG ?_;intro aP aj aa F aF aD;obtain⟨g,aB,rfl,aE,U⟩:=BS aa (by omega);have ak:=Pj (Ew (A:=A) g aB aj k (d.kinds-1) 0 left 119 2 aK 119 2 carry 30 3 U (by omega) (by omega) (by omega) (by omega));have r0:=F.cell ai (by show some (w.heap.size+1)≠some w3.heap.size;simp;omega);have r1:=F.cell q1 (by show some (w.heap.size+1)≠some w3.heap.size;simp;omega);have o:=Pj F;clear aa F aF aD U aE)|(go_at_call 35;refine ak.out.mono ?_;rintro e aQ ⟨rfl,E⟩;have ai:=E.cell r0 (by simp);have q1:=E.cell r1 (by simp);have al:=Pj E;clear E)|(go_at_call 36;refine(ap.out _).mono ?_;rintro e aR ⟨rfl,V⟩;have am:=Pj V;clear V))
 go_ret2
 have aC:w3.grownBy aj none:=⟨o.out.os.trans c.out.os,o.out.tape.trans c.out.tape,o.out.output.trans c.out.output,Po c.out.size o.out.size,λi r _=>(o.out.block i (Px r c.out.size) (by show some i≠some w3.heap.size;simp;omega)).trans (c.out.block i r (by simp))⟩
 have Q:=(aC.trans al.out).trans am.out;refine⟨T,rfl,?_,(Q.block T (bp J.out) (by simp)).trans J.out,(I.out.trans K.out).trans Q⟩;have:=ar.out;have e:=I.out.size;omega
end
structure tb(aX:Nat->Nat->Int)(e carry:Nat)(g:Nat->dq)(left aK:Nat)(b:dq):Prop where
 ah:b.left=left
 aB:b.aK=aK
 le:left<=aK/\aK<=e
 hQ:(aK=e/\b.next = -1/\b.cost=aX left aK/\b.ee=1)\/∃l:Nat,b.next=l/\aK<=l/\l<=e/\l<=aK+carry/\aK<e/\¬(left=aK/\l=aK)/\b.cost=aX left aK+(g l).cost/\b.ee=(g l).ee+1
def Dr(c:fv)(x:dq):(c.take x).some=true:=by
 unfold fv.take;split
 .rfl
 .rename_i h
  simp at h;exact h.1
def yK(c:fv)(x:dq):(c.take x).cf=x\/(c.some=true/\(c.take x).cf=c.cf):=by
 unfold fv.take;split
 .exact .inl rfl
 .rename_i h
  simp at h;exact .inr ⟨h.1,rfl⟩
def wh{aX:Nat->Nat->Int}{e carry:Nat}{g:Nat->dq}{left aK:Nat}(f:left<=aK)(d:aK<=e):∀j,(j=0\/(aK<e/\aK+j<=min e (aK+carry)+1))->(fJ aX e g left aK j).some=true->tb aX e carry g left aK (fJ aX e g left aK j).cf
 | 0,_,c=>by
  rw[fJ]at c ⊢;split
  .rename_i he
   have:(kz.take ⟨aX left aK,1,left,aK,-1⟩).cf=⟨aX left aK,1,left,aK,-1⟩:=by
    rcases yK kz ⟨aX left aK,1,left,aK,-1⟩with h|⟨h,_⟩
    .exact h
    .cases h
   rw[this];exact⟨rfl,rfl,⟨f,d⟩,.inl ⟨he,rfl,rfl,rfl⟩⟩
  .rename_i he
   rw[if_neg he]at c;cases c
 |j+1,l,c=>by
  rcases l with l|⟨p,r⟩
  .omega
  rw[fJ]at c ⊢;split
  .rename_i i
   rw[if_pos i]at c;exact wh f d j (by omega) c
  .rename_i i
   rcases yK (fJ aX e g left aK j) ⟨aX left aK+(g (aK+j)).cost,(g (aK+j)).ee+1,left,aK,(aK+j:Nat)⟩with h|⟨h,o⟩
   .rw[h]
    exact⟨rfl,rfl,⟨f,d⟩,.inr ⟨aK+j,rfl,by omega,by omega,by omega,p,λq=>i ⟨q.1,by omega⟩,rfl,rfl⟩⟩
   .rw[o]
    exact wh f d j (by omega) h
def EI{aX:Nat->Nat->Int}{e carry left aK:Nat}(d:left<=aK)(c:aK<=e)(f:(eG aX e carry left aK).some=true):tb aX e carry (bL aX e carry) left aK (eG aX e carry left aK).cf:=by
 unfold eG mS at *;refine wh d c _ ?_ f;split
 .right;omega
 .left;rfl
def EJ{aX:Nat->Nat->Int}{e carry left:Nat}:(eG aX e carry left e).some=true:=by unfold eG mS;rw[if_neg (Nat.lt_irrefl _),fJ,if_pos rfl];exact Dr _ _
def w6{aX:Nat->Nat->Int}{e carry left:Nat}:∀j,left+j<=e+1->(fW aX e carry (bL aX e carry) left j).some=true->∃f,tb aX e carry (bL aX e carry) left f (fW aX e carry (bL aX e carry) left j).cf
 | 0,_,c=>by cases c
 |j+1,i,c=>by
  cases d:(eG aX e carry left (left+j)).some
  .rw[AJ d]at c ⊢
   exact w6 j (by omega) c
  .rw[w7 d]at c ⊢
   rcases yK (fW aX e carry (bL aX e carry) left j) (eG aX e carry left (left+j)).cf with h|⟨h,g⟩
   .rw[h]
    exact⟨_,EI (by omega) (by omega) d⟩
   .rw[g]
    exact w6 j (by omega) h
def EW{aX:Nat->Nat->Int}{e carry left:Nat}(d:left<=e):∃f,tb aX e carry (bL aX e carry) left f (bL aX e carry left):=by
 have c:(fW aX e carry (bL aX e carry) left (e+1-left)).some=true:=by rw[show e+1-left=(e-left)+1 by omega,w7 (by rw[show left+(e-left)=e by omega];exact EJ)];exact Dr _ _
 have:=w6 (e+1-left) (by omega) c;rw[<-wj]at this;exact this
def EX{aX:Nat->Nat->Int}{e carry left:Nat}(g:left<=e):(bL aX e carry left).next = -1\/∃l:Nat,(bL aX e carry left).next=l/\left<l/\l<=e:=by
 obtain⟨f,h⟩:=EW (aX:=aX) (carry:=carry) g;rcases h.hQ with⟨_,c,_⟩|⟨l,c,i,d,_,_,j,_⟩
 .exact .inl c
 .have:=h.le
  exact .inr ⟨l,c,by omega,d⟩
def nU(cL:Nat->dq):Nat->dq->List dq
 | 0,b=>[b]
 |n+1,b=>if b.next = -1 then[b]else b::nU cL n (cL b.next.toNat)
def zL{cL:Nat->dq}{b:dq}(h:b.next = -1):∀n,nU cL n b = [b]
 | 0=>rfl
 |n+1=>by rw[nU,if_pos h]
def zM{cL:Nat->dq}{b:dq}{l:Nat}(h:b.next=l)(n:Nat):nU cL (n+1) b=b::nU cL n (cL l):=by rw[nU,if_neg (by omega),h];rfl
def qj(aX:Nat->Nat->Int)(e carry left:Nat):List dq:=nU (bL aX e carry) (e+1) (bL aX e carry left)
def lN(l:List dq):List Value:=l.flatMap λb=>[.int .i64 b.left,.int .i64 b.aK]
def HB(l m:List dq):lN (l++m)=lN l++lN m:=by simp[lN]
def gi(d:cR)(k l f:Nat):Int:=if f<120 then fP (d.first k) (cC d k) l f else 0
def Ni{ba:Nat->Int}(c:∀d,0<=ba d/\ba d<=9)(a n:Nat):0<=jb ba a n/\jb ba a n<=n*9:=by
 induction n with
 |zero=>simp[jb]
 |succ n f=>have:=c (a+n);simp only[jb];omega
def Hj{d:cR}(ok:d.ok){k:Nat}(c:k<d.kinds)(l f:Nat):0<=gi d k l f/\gi d k l f<=1000000:=by
 unfold gi;split
 .have g:=ok.first k c
  have h:=Ni (λx=>oD ok c x) (l / 24+1) (f / 24-l / 24);unfold fP;omega
 .simp
def Nv:(List.range 41).all (λi=>decide ((fW (gi e2 0) 60 2 sT (20+i) (60+1-(20+i))).cf=sT (20+i)))=true:=by kernel_rfl
def zw(l:Nat)(c:20<=l):bL (gi e2 0) 60 2 l=sT l:=by
 refine EY (b4:=20) sT (λl h=>?_) (λl d f=>?_) l c
 .unfold sT
  rw[if_neg (by omega),List.getElem?_eq_none (by show 41<=l-20;omega)];rfl
 .have:=List.all_eq_true.1 Nv (l-20) (List.mem_range.2 (by omega))
  rw[show 20+(l-20)=l by omega]at this;exact of_decide_eq_true this
def zN:(bL (gi e2 0) 60 2 20).cost=5/\qj (gi e2 0) 60 2 20 = [⟨5,2,20,46,48⟩,⟨2,1,48,60,-1⟩]:=by have c:bL (gi e2 0) 60 2 20=⟨5,2,20,46,48⟩:=(zw 20 (by omega)).trans (by kernel_rfl);have d:bL (gi e2 0) 60 2 48=⟨2,1,48,60,-1⟩:=(zw 48 (by omega)).trans (by kernel_rfl);refine⟨by rw[c],?_⟩;unfold qj;rw[c,show(60+1:Nat)=60+1 from rfl,zM (l:=48) rfl,d,zL rfl]
section
variable{A:Array Func}
def HZ:∃i,(ag A).info? 59=some i/\i.zero=some (.agg #[.int .i64 0,.int .i64 0])/\i.size=2/\i.bytes=16:=⟨_,rfl,rfl,rfl,rfl⟩
def kq{w w':World}{base:Nat}{e:TypeId}{size:Nat}{v:Value}{n:Nat}{xs:List Value}(h:w.ownsRow base e size v n xs)(k:∀g,base<=g->g<w.heap.size->w'.heap[g]?=w.heap[g]?):w'.ownsRow base e size v n xs:=by
 obtain⟨i,h|⟨g,c,cur,j,d,f,l,o,p,q⟩⟩:=h
 .exact⟨i,.inl h⟩
 .exact⟨i,.inr ⟨g,c,cur,j,d,(k g d (bp f)).trans f,l,o,p,q⟩⟩
def BR{w:World}{base d:Nat}{e:TypeId}{size:Nat}{v:Value}{n:Nat}{xs:List Value}(h:w.ownsRow base e size v n xs)(k:d<=base):w.ownsRow d e size v n xs:=by
 obtain⟨f,h|⟨g,c,cur,i,r,q,j,l,o,p⟩⟩:=h
 .exact⟨f,.inl h⟩
 .exact⟨f,.inr ⟨g,c,cur,i,by omega,q,j,l,o,p⟩⟩
abbrev o3(d:cR)(k aK carry:Nat):fb:=⟨gi d k,aK,carry,k⟩
abbrev mU(T B:Nat):fc:=⟨B+1+1,T,B,B+1,B⟩
def E5[S:Std A][eg:gQ A][P:gg A]{d:cR}(ok:d.ok){p:dU}{T B k aK carry:Nat}(c:k<d.kinds)(q:aK<120)(C:carry<=30)(j:p.below d B)(i:T<B)(r:p.off d T):jf A (fh d p T B) (o3 d k aK carry) (mU T B) where
 ok:=⟨i,by show B<=B+1+1;omega,Pk,by show B<=B+1;omega,by show B+1+1≠B;omega,by show B+1+1≠B+1;omega,by show B≠B+1;omega⟩
 keep:=λw w' row h g u=>(nx ok j i).keep w w' row h g u
 size:=λw h=>h.dm
 Aw:=λw h l f D o=>by
  have z:=ok.kinds;have:=qs (F:=A) (nx ok j i) (k:=k) c (by omega) (ba:=cC d k) (λday=>by have:=oD ok c day;omega) (pD ok j r c) l f (by omega) o w h;rw[n0 c]at this;have e:gi d k l f=fP (d.first k) (cC d k) l f:=if_pos o;show Calls (ag A) 20 _ w λe w'=>e=.returned (.int .i64 (gi d k l f))/\_/\_
  rw[e];exact this
 gw:=Hj ok c
 e:=q
 carry:=by show carry<=1000;omega
def E6{d:cR}{p:dU}{T:Nat}{w3:World}{k aK carry:Nat}(i:p6 (fh d p T w3.heap.size) w3.heap.size)(j:fh d p T w3.heap.size w3):
 ek (fh d p T w3.heap.size) (o3 d k aK carry) (mU T w3.heap.size) (((w3.alloc (.map #[] 0)).alloc (.map #[] 0)).alloc (.cells #[.pointer (some ⟨T,0,none⟩),.int .i64 k,.int .i64 aK,.int .i64 carry,.map (some w3.heap.size),.map (some (w3.heap.size+1))] 146)):=by
 have c:(((w3.alloc (.map #[] 0)).alloc (.map #[] 0)).alloc (.cells #[.pointer (some ⟨T,0,none⟩),.int .i64 k,.int .i64 aK,.int .i64 carry,.map (some w3.heap.size),.map (some (w3.heap.size+1))] 146)).heap[w3.heap.size]?=some (.map #[] 0):=by rw[Pq (by simp only[Pp];omega),Pq (by simp only[Pp];omega),gA]
 have g:(((w3.alloc (.map #[] 0)).alloc (.map #[] 0)).alloc (.cells #[.pointer (some ⟨T,0,none⟩),.int .i64 k,.int .i64 aK,.int .i64 carry,.map (some w3.heap.size),.map (some (w3.heap.size+1))] 146)).heap[w3.heap.size+1]?=some (.map #[] 0):=by rw[Pq (by simp only[Pp];omega),h' _ _ _ (by simp only[Pp])]
 exact⟨i _ _ none j (Pn.trans (Pn.trans Pn)) (by simp),h' _ _ _ (by simp only[Pp]),⟨_,g3.new _ _ _ c,λl f v h=>by cases h⟩,⟨_,iS.new _ _ _ g,λl v h=>by cases h⟩⟩
structure kv(a8:World->Prop)(D:fb)(P:fc)(aI:World)(eb h1 l left:Nat)(pre:List dq)(v:Value)(w:World):Prop where
 h2:ek a8 D P w
 rR:w.heap[eb]?=some (.cells (bL D.aX D.e D.carry l).a 148)
 own:w.ownsRow h1 59 2 v (pre.length+1) (lN (pre++[bL D.aX D.e D.carry l]))
 e4:aI.grownBy w none
 lt:eb<h1/\h1<=w.heap.size
 new:aI.heap.size<=P.T/\aI.heap.size<=P.fm/\aI.heap.size<=P.fA/\P.T<eb/\P.fm<eb/\P.fA<eb/\P.C<eb/\P.B<=eb
 chain:∃n,D.e<=n+l/\pre++nU (bL D.aX D.e D.carry) n (bL D.aX D.e D.carry l)=qj D.aX D.e D.carry left
 le:l<=D.e/\pre.length<=l
def kv.xL{d:World->Prop}{D:fb}{P:fc}{aI:World}{c f l left:Nat}{pre:List dq}{v:Value}{w:World}(h:kv d D P aI c f l left pre v w){i:Nat}(j:c<=i):¬P.X i:=λg=>by have:=h.new;rcases g with e|e|e<;>omega
def HC(pre:List dq)(b:dq):lN (pre++[b])=lN pre++[.int .i64 b.left,.int .i64 b.aK]:=by rw[HB];rfl
def Ik:Value->Nat
 |.slice _ n _=>n
 |_=>0
def N4(w:World)(x y:Value)(t:TypeId):∀(j:Nat) u,[x,y][j]?=some u->(w.alloc (.cells #[x,y] t)).cell? ((⟨w.heap.size,0,none⟩:Addr).add j)=some u:=by
 intro j u c;rcases j with _|_|j
 .rw[<-c];exact Pr rfl
 .rw[<-c];exact Pr rfl
 .simp at c
def N3(w:World)(n:Nat)(c:n=w.heap.size)(x y:Value)(t:TypeId):∀(j:Nat) u,[x,y][j]?=some u->(w.alloc (.cells #[x,y] t)).cell? ((⟨n,0,none⟩:Addr).add j)=some u:=by subst c;exact N4 w x y t
def kv.OJ{d:World->Prop}{D:fb}{P:fc}{aI:World}{j o l left aH:Nat}{pre:List dq}{v:Value}{w p:World}(H:jf A d D P)(h:kv d D P aI j o l left pre v w)(r:ek d D P p)(q:ca P.X w p){c:World}(B:c.heap[j]?=some (.cells (bL D.aX D.e D.carry aH).a 148))(f:p.grownBy c (some j)):
 ek d D P c/\c.ownsRow o 59 2 v (pre.length+1) (lN (pre++[bL D.aX D.e D.carry l]))/\aI.grownBy c none/\o<=c.heap.size:=by
 have C:=h.lt;have E:=h.new;have F:=q.size;have G:=f.size;refine⟨r.keep H.keep f (λb e=>by cases e;omega),kq h.own (λg I u=>?_),jq (ca.new h.e4 q (λi z=>by rcases z with e|e|e<;>omega)) f (by omega),by omega⟩;rw[f.block g (by omega) (λe=>by have:=Pm e;omega)];exact q.block g u (h.xL (by omega))
def kv.put{f:World->Prop}{D:fb}{P:fc}{aI:World}{c g l left aH:Nat}{pre:List dq}{v:Value}{w d:World}(H:jf A f D P)(h:kv f D P aI c g l left pre v w)(p:ek f D P d)(i:ca P.X w d)(x:dq)(q:x=bL D.aX D.e D.carry aH):
 (((((d.setCell ⟨c,0,none⟩ (.int .i64 x.cost)).setCell ⟨c,1,none⟩ (.int .i64 x.ee)).setCell ⟨c,2,none⟩ (.int .i64 x.left)).setCell ⟨c,3,none⟩ (.int .i64 x.aK)).setCell ⟨c,4,none⟩ (.int .i64 x.next)).heap[c]?=some (.cells (bL D.aX D.e D.carry aH).a 148)/\
 ek f D P (((((d.setCell ⟨c,0,none⟩ (.int .i64 x.cost)).setCell ⟨c,1,none⟩ (.int .i64 x.ee)).setCell ⟨c,2,none⟩ (.int .i64 x.left)).setCell ⟨c,3,none⟩ (.int .i64 x.aK)).setCell ⟨c,4,none⟩ (.int .i64 x.next))/\
 (((((d.setCell ⟨c,0,none⟩ (.int .i64 x.cost)).setCell ⟨c,1,none⟩ (.int .i64 x.ee)).setCell ⟨c,2,none⟩ (.int .i64 x.left)).setCell ⟨c,3,none⟩ (.int .i64 x.aK)).setCell ⟨c,4,none⟩ (.int .i64 x.next)).ownsRow g 59 2 v (pre.length+1) (lN (pre++[bL D.aX D.e D.carry l]))/\
 aI.grownBy (((((d.setCell ⟨c,0,none⟩ (.int .i64 x.cost)).setCell ⟨c,1,none⟩ (.int .i64 x.ee)).setCell ⟨c,2,none⟩ (.int .i64 x.left)).setCell ⟨c,3,none⟩ (.int .i64 x.aK)).setCell ⟨c,4,none⟩ (.int .i64 x.next)) none/\g<=d.heap.size:=by
 subst q;have j:=(i.block _ (bp h.rR) (h.xL Pk)).trans h.rR;have e:=cQ (o:=4) (v:=.int .i64 (bL D.aX D.e D.carry aH).next) (cQ (o:=3) (v:=.int .i64 (bL D.aX D.e D.carry aH).aK) (cQ (o:=2) (v:=.int .i64 (bL D.aX D.e D.carry aH).left) (cQ (o:=1) (v:=.int .i64 (bL D.aX D.e D.carry aH).ee) (cQ (o:=0) (v:=.int .i64 (bL D.aX D.e D.carry aH).cost) j))));have k:=et (o:=4) (v:=.int .i64 (bL D.aX D.e D.carry aH).next) (et (o:=3) (v:=.int .i64 (bL D.aX D.e D.carry aH).aK) (et (o:=2) (v:=.int .i64 (bL D.aX D.e D.carry aH).left) (et (o:=1) (v:=.int .i64 (bL D.aX D.e D.carry aH).ee) (et (o:=0) (v:=.int .i64 (bL D.aX D.e D.carry aH).cost) (Pw d (some c))))));obtain⟨r,u,z,B⟩:=h.OJ H p i e k;refine⟨e,r,u,z,?_⟩;have:=h.lt;have:=i.size;omega
def kv.cells{f:World->Prop}{D:fb}{P:fc}{aI:World}{c g l left:Nat}{pre:List dq}{v:Value}{w d:World}(h:kv f D P aI c g l left pre v w)(i:ca P.X w d):d.heap[c]?=some (.cells (bL D.aX D.e D.carry l).a 148):=(i.block _ (bp h.rR) (h.xL Pk)).trans h.rR
def kv.next{i:World->Prop}{D:fb}{P:fc}{aI:World}{p d l left aH g g' bo:Nat}{n:Nat}{pre:List dq}{v:Value}{w c u r:World}(H:jf A i D P)(h:kv i D P aI p d l left pre v w)(K:l<aH)(he:aH<=D.e)(F:(bL D.aX D.e D.carry l).next=aH)(G:ek i D P c)(I:aI.grownBy c none)(Q:d<=c.heap.size)(j:c.heap[p]?=some (.cells (bL D.aX D.e D.carry aH).a 148))(f:c.grownBy u none)(o:u.grownBy r (some g))(J:d<=g)(own:r.ownsRow d 59 2 (.slice (some ⟨g',0,none⟩) n bo) n (lN (pre++[bL D.aX D.e D.carry l])++[.int .i64 (bL D.aX D.e D.carry aH).left,.int .i64 (bL D.aX D.e D.carry aH).aK]))(E:n=pre.length+1+1):
 kv i D P aI p d aH left (pre++[bL D.aX D.e D.carry l]) (.slice (some ⟨g',0,none⟩) n bo) r:=by
 subst E;have z:=h.lt;have B:=h.new;have hle:=h.le;have L:=f.size;have M:=o.size;obtain⟨m,hm,C⟩:=h.chain;obtain⟨m,rfl⟩:∃q,m=q+1:=⟨m-1,by omega⟩
 refine⟨(G.eQ H.keep f).keep H.keep o (λb e=>by cases e;omega),?_,?_,jq (I.trans f) o (by omega),⟨z.1,by omega⟩,B,⟨m,by omega,?_⟩,he,by simp;omega⟩
 .exact(o.block _ (bp ((f.block _ (bp j) (by simp)).trans j)) (λe=>by have:=Pm e;omega)).trans ((f.block _ (bp j) (by simp)).trans j)
 .rw[HC,List.length_append]
  exact own
 .rw[<-C,zM F,List.append_assoc]
  rfl
def Fh[S:Std A][eg:gQ A][P:gg A](d:cR)(ok:d.ok)(p:dU)(k:Nat)(ad:k<d.kinds)(left aK:Nat)(ae:left<=aK)(aa:aK<120)(carry:Nat)(Z:carry<=30)(w:World)(h:fy w d p):
 Calls (ag A) 32 #[.agg (cO d p),.int .i64 k,.int .i64 left,.int .i64 aK,.int .i64 carry] w λe w'=>∃v,e=.returned (.tuple #[v,.int .i64 (bL (gi d k) aK carry left).cost,.int .i64 0])/\w'.ownsRow w.heap.size 59 2 v (qj (gi d k) aK carry left).length (lN (qj (gi d k) aK carry left))/\w.grownBy w' none:=by
 have aV:=ok.kinds;have G:w.grownBy ((w.alloc (.cells (cO d p) 27)).alloc (.cells #[.int .i64 carry,.int .i64 30,.int .i64 3] 108)) none:=Pn.trans Pn;have hm:((w.alloc (.cells (cO d p) 27)).alloc (.cells #[.int .i64 carry,.int .i64 30,.int .i64 3] 108)).heap[w.heap.size+1]?=some (.cells #[.int .i64 carry,.int .i64 30,.int .i64 3] 108):=h' _ _ _ (by simp only[Pp]);have au:=Pj (NL (A:=A) d ok p k ad left aK ae aa carry Z _ (h.keep G) _ hm);have ax:=Pj λ(T:Nat) (w3:World) (z:((w.alloc (.cells (cO d p) 27)).alloc (.cells #[.int .i64 carry,.int .i64 30,.int .i64 3] 108)).heap.size<=T) (D:w3.heap[T]?=some (.cells (l4 d p) 105)) (E:((w.alloc (.cells (cO d p) 27)).alloc (.cells #[.int .i64 carry,.int .i64 30,.int .i64 3] 108)).grownBy w3 none)=>
  have x:=qP ok (h.keep G) z D E;have H:=E5 (A:=A) (aK:=aK) (carry:=carry) ok ad aa Z x.2.2.1 x.2.2.2 x.2.1
  (⟨x.2.2.2,H,E6 H.keep x.1⟩:T<w3.heap.size/\jf A (fh d p T w3.heap.size) (o3 d k aK carry) (mU T w3.heap.size)/\ek (fh d p T w3.heap.size) (o3 d k aK carry) (mU T w3.heap.size) _)
 have U:=Pj G;have aZ:=@run_makeMap (ag A);obtain⟨i0,I,ai,aj,ak⟩:=HZ (A:=A);have ar:=Pj I;have ay:=Pj ai;have az:=Pj aj;have aA:=Pj ak;clear G hm h I ai aj ak;go_enter (S.f Tryz.func32),Tryz.ntmps32;go_wp2_with (first|(go_at_call 19;refine au.out.mono ?_;rintro e w3 ⟨T,rfl,z,D,E⟩;have X:=Pj (ax.out T w3 z D E);have aq:=Pj (U.out.trans E);have aw:=Pj z;clear D E z)|(go_at_call 52;refine(AK X.out.2.1 left _ X.out.2.2).mono ?_;rintro e f ⟨rfl,V,R⟩)|(go_at_call 21;refine(m' _ _).mono ?_;rintro e w' ⟨rfl,rfl⟩))
 obtain⟨z,H,aF⟩:=X.out;have aN:=aw.out;have aM:=U.out.size;have ao:=R.size;have aO:w.heap.size<=T:=by omega
 have W:w.grownBy (((w3.alloc (.map #[] 0)).alloc (.map #[] 0)).alloc (.cells #[.pointer (some ⟨T,0,none⟩),.int .i64 k,.int .i64 aK,.int .i64 carry,.map (some w3.heap.size),.map (some (w3.heap.size+1))] 146)) none:=aq.out.trans (Pn.trans (Pn.trans Pn));have aS:w3.heap.size+3<=f.heap.size:=by simp only[Pp]at ao;omega
 have Y:w.grownBy f none:=ca.new W R (λi I=>by rcases I with e|e|e<;>(dsimp only at e;omega));have fj:f.grownBy ((f.alloc (.cells (bL (gi d k) aK carry left).a 148)).alloc (.cells #[.int .i64 (bL (gi d k) aK carry left).left,.int .i64 (bL (gi d k) aK carry left).aK] 59)) none:=Pn.trans Pn;have al:kv (fh d p T w3.heap.size) (o3 d k aK carry) (mU T w3.heap.size) w f.heap.size (f.heap.size+1) left left [] (.slice (some ⟨f.heap.size+1,0,none⟩) (([]:List dq).length+1) 1) ((f.alloc (.cells (bL (gi d k) aK carry left).a 148)).alloc (.cells #[.int .i64 (bL (gi d k) aK carry left).left,.int .i64 (bL (gi d k) aK carry left).aK] 59)):=by
  refine⟨V.eQ H.keep fj,?_,⟨rfl,.inr ⟨_,1,_,rfl,Pk,h' _ _ _ (by simp only[Pp]),Pk,by unfold maxLen;omega,rfl,rfl⟩⟩,Y.trans fj,⟨by omega,by simp only[Pp];omega⟩,?_,⟨aK+1,by show aK<=_;omega,rfl⟩,ae,Nat.zero_le _⟩
  .rw[Pq (by simp only[Pp];omega),gA]
  .dsimp only
   omega
 have aB:=Pj al;have J:=Pj H;clear al fj Y W H aF V R aS ao aM aN aO z;go_loopw [18] (λQ wr=>∃pre l g c,Q=.slice (some ⟨g,0,none⟩) (pre.length+1) c/\kv (fh d p T w3.heap.size) (o3 d k aK carry) (mU T w3.heap.size) w f.heap.size (f.heap.size+1) l left pre (.slice (some ⟨g,0,none⟩) (pre.length+1) c) wr) (λQ _=>aK+5-Ik Q)
 case atStart=>exact⟨[],left,_,_,rfl,aB.out⟩
 case round=>
  obtain⟨pre,l,g,aU,rfl,bj⟩:=hrel;have am:wr.cell? ⟨f.heap.size,4,none⟩=some (.int .i64 (bL (gi d k) aK carry l).next):=aT bj.rR;have hle:l<=aK/\pre.length<=l:=bj.le;have aI:f.heap.size+1<=g:=by
   obtain⟨_,⟨h,_⟩|⟨g',bo,cur,h,D,_⟩⟩:=bj.own
   .cases h
   .cases h;exact D
  rcases EX (aX:=gi d k) (carry:=carry) (show l<=aK from hle.1)with B|⟨aH,B,aL,aG⟩
  .rw[B]at am
   have K:=Pj B;have q:=Pj bj;clear B bj;go_wp2;go_ret3
   obtain⟨n,a0,M⟩:=q.out.chain;rw[zL K.out]at M;refine⟨_,rfl,?_,q.out.e4⟩;have af:=BR q.out.own (show w.heap.size<=f.heap.size+1 by have:=q.out.new;omega);rw[M]at af;have hlen:pre.length+1=(qj (gi d k) aK carry left).length:=by rw[<-M];simp
   rw[<-hlen];exact af
  .rw[B]at am
   have a1:((aH:Int) != -1)=true:=by simp
   have a2:((aH:Int) == -1)=false:=by simp
   have K:=Pj B;have q:=Pj bj;clear B bj;have ap:=Pj λ(r:World) (C:ca (mU T w3.heap.size).X wr r)=>(q.out.cells C:r.heap[f.heap.size]?=some (.cells (bL (gi d k) aK carry l).a 148))
   have av:=Pj λ(r:World) (F:ek (fh d p T w3.heap.size) (o3 d k aK carry) (mU T w3.heap.size) r) (C:ca (mU T w3.heap.size).X wr r)=>q.out.put J.out F C (aH:=aH) (bL (gi d k) aK carry aH) rfl
   go_wp2_with (first|(go_at_call 52;refine(AK J.out aH _ q.out.h2).mono ?_;rintro e r ⟨rfl,F,C⟩;have j:=ap.out r C;have a7:=aT (o:=0) j;have a8:=aT (o:=1) j;have a9:=aT (o:=2) j;have ba:=aT (o:=3) j;have bb:=aT (o:=4) j;have z0:=b1 (o:=0) j;have bc:=b1 (o:=1) j;have bd:=b1 (o:=2) j;have z3:=b1 (o:=3) j;have z4:=b1 (o:=4) j;have L:=Pj (av.out r F C);clear j F C)|(at_builtin;refine wpList_append_own_at _ rfl _ _ 81 rfl (f.heap.size+1) 59 i0 (.agg #[.int .i64 0,.int .i64 0]) 2 16 (ag.underlying42 A) ar.out ay.out az.out aA.out rfl (by decide) _ (pre.length+1) _ rfl (kq L.out.2.2.1 (λg _ aE=>Pq aE)) ⟨r.heap.size,0,none⟩ 1 1 [.int .i64 (bL (gi d k) aK carry aH).left,.int .i64 (bL (gi d k) aK carry aH).aK] rfl rfl (N3 _ _ (by simp) _ _ _) (λu hu=>by simp at hu;rcases hu with rfl|rfl<;>rfl) (by unfold maxLen;omega) (by omega) (by have:=L.out.2.2.2.2;simp only[Pp,World.size_setCell];omega) ?_;intro a5 a6 ah aJ a3 aW))
   obtain⟨g',bo,rfl,aY,_⟩:=BS ah (by omega);refine⟨⟨pre++[bL (gi d k) aK carry l],aH,g',bo,?_,?_⟩,?_⟩
   .rw[List.length_append]
    rfl
   .obtain⟨aC,aP,a4,aQ,aR⟩:=L.out
    have hQ:=q.out.next (aH:=aH) (g:=g) (g':=g') (bo:=bo) (n:=pre.length+1+1) J.out aL aG K.out aP aQ (by simp only[World.size_setCell];exact aR) aC (Pv _ _ none) aJ aI ah rfl;rw[List.length_append];exact hQ
   .have aD:=q.out.le
    show aK+5-(pre.length+1+1)<aK+5-(pre.length+1);have:pre.length<=l:=aD.2;omega
end
section
variable{A:Array Func}
def fX(n:Int):Value:=.int .i64 n
abbrev qE(d:gM)(P:il)(m:Nat)(v:Value):Array Value:=#[.slice (some ⟨P.mb,P.qL,none⟩) d.n P.o2,v,.map (some m)]
structure g1(d:gM)(P:il)(L m B:Nat)(v:Value)(pre:List Int)(w:World):Prop where
 blk:w.heap[L]?=some (.cells (qE d P m v) 169)
 rows:∀i,i<d.n->w.cell? ⟨P.mb,P.qL+i,none⟩=some (.slice (some ⟨P.nm i,P.uR i,none⟩) (d.len i) (P.BT i))
 el:∀i,i<d.n->iD w (P.nm i) (P.uR i) (d.len i) (d.num i)
 mp:∃M,j1 w m M/\rB d M
 own:w.ownsRow B 3 1 v pre.length (pre.map fX)
 dm:B<=w.heap.size
structure mN(d:gM)(P:il)(L m y B:Nat):Prop where
 pj:L<B
 fA:m<B
 qC:y<B
 AY:P.mb<B
 AX:∀i,i<d.n->P.nm i<B
 za:L≠m
 Eg:L≠P.mb
 Ef:∀i,i<d.n->L≠P.nm i
 vG:y≠L
 nF:y≠m
 O5:y≠P.mb
 O4:∀i,i<d.n->y≠P.nm i
def g1.ls{d:gM}{P:il}{L m B:Nat}{v:Value}{pre:List Int}{w:World}(h:g1 d P L m B v pre w):j2 w L m d P:=
 ⟨(aT h.blk).trans rfl,(aT h.blk).trans rfl,h.rows,h.el,h.mp⟩
def g1.keep{d:gM}{P:il}{L m y B:Nat}{v:Value}{pre:List Int}{w w':World}{row:Option Nat}(h:g1 d P L m B v pre w)(ok:mN d P L m y B)(g:w.grownBy w' row)(C:∀r,row=some r->r=y\/(B<=r/\some r≠v.ownBlock)):g1 d P L m B v pre w':=by
 obtain⟨M,E,H⟩:=h.mp;have l:∀b,b<B->b≠y->some b≠row:=λb p o e=>by
  rcases C b e.symm with j|⟨j,_⟩
  .exact o j
  .omega
 refine⟨(g.block _ (bp h.blk) (l _ ok.pj ok.vG.symm)).trans h.blk,λi f=>g.cell (h.rows i f) (l _ ok.AY ok.O5.symm),λi f=>(h.el i f).keep g (l _ (ok.AX i f) (ok.O4 i f).symm),⟨M,E.keep g (l _ ok.fA ok.nF.symm),H⟩,?_,Po h.dm g.size⟩;obtain⟨z,⟨rfl,G⟩|⟨b,c,cur,rfl,F,u,p,o,j,D⟩⟩:=h.own
 .exact⟨z,.inl ⟨rfl,G⟩⟩
 .refine⟨z,.inr ⟨b,c,cur,rfl,F,(g.block b (bp u) (λe=>?_)).trans u,p,o,j,D⟩⟩
  rcases C b e.symm with q|⟨_,q⟩
  .have:=ok.qC;omega
  .exact q rfl
def g1.eQ{d:gM}{P:il}{L m y B:Nat}{v:Value}{pre:List Int}{w w':World}(h:g1 d P L m B v pre w)(ok:mN d P L m y B)(g:w.grownBy w' none):g1 d P L m B v pre w':=h.keep ok g (by simp)
def g1.known{d:gM}{P:il}{L m y B:Nat}{v:Value}{pre:List Int}{w w':World}(h:g1 d P L m B v pre w)(ok:mN d P L m y B)(g:w.grownBy w' (some m))(l:j2 w' L m d P):g1 d P L m B v pre w':=by
 have c:∀b,b≠m->some b≠some m:=λb h e=>h (Pm e)
 refine⟨(g.block _ (bp h.blk) (c _ ok.za)).trans h.blk,l.rows,l.el,l.mp,?_,Po h.dm g.size⟩;exact kq h.own λb i f=>g.block b f (c _ (by have:=ok.fA;omega))
def g1.zQ{d:gM}{P:il}{L m y B:Nat}{v o:Value}{pre l:List Int}{w p w':World}{b:Option Nat}(h:g1 d P L m B v pre w)(ok:mN d P L m y B)(g:w.grownBy p b)(C:∀r,b=some r->B<=r)(e:w'.heap[L]?=some (.cells (qE d P m o) 169))(k:p.grownBy w' (some L))(own:p.ownsRow B 3 1 o l.length (l.map fX)):g1 d P L m B o l w':=by
 obtain⟨M,z,D⟩:=h.mp;have j:∀r,r<B->some r≠b:=λr q e=>by have:=C r e.symm;omega
 have f:∀r,L≠r->some r≠some L:=λr h e=>h (Pm e).symm
 refine⟨e,λi c=>k.cell (g.cell (h.rows i c) (j _ ok.AY)) (f _ ok.Eg),λi c=>((h.el i c).keep g (j _ (ok.AX i c))).keep k (f _ (ok.Ef i c)),⟨M,(z.keep g (j _ ok.fA)).keep k (f _ ok.za),D⟩,kq own λr q u=>k.block r u (f _ (by have:=ok.pj;omega)),Po h.dm (Po g.size k.size)⟩
def JA[S:Std A][eg:PJ A](L m b g n cap:Nat)(d:gM)(P:il)(p:n<1000)(u:FrameMode)(w:World)(j:w.cell? ⟨b,0,none⟩=some (.pointer (some ⟨L,0,none⟩)))(c:w.heap[L]?=some (.cells (qE d P m (.slice (some ⟨g,0,none⟩) (n+1) cap)) 169))(l:n+1<=cap):
 CallsD (ag A) 84 #[.pointer (some ⟨b,0,none⟩)] u w λe ay w'=>ay=u/\(e=.returned (.tuple #[])/\(w'.heap[L]?=some (.cells (qE d P m (.slice (some ⟨g,0,none⟩) n cap)) 169)/\w.grownBy w' (some L))):=by
 have i:w.cell? ⟨L,1,none⟩=some (.slice (some ⟨g,0,none⟩) (n+1) cap):=aT c;have q:=b1 (o:=1) c;have E:=cQ (o:=1) (v:=.slice (some ⟨g,0,none⟩) n cap) c;have G:w.grownBy (w.setCell ⟨L,1,none⟩ (.slice (some ⟨g,0,none⟩) n cap)) (some L):=et (Pw _ _);have f:=Pj E;have h:=Pj G;clear E G c;go_enter_d (S.f Tryz.func84),Tryz.ntmps84
 go_wp2;go_region
 all_goals (go_end0;exact⟨rfl,f.out,fQ h.out⟩)
end
section
variable{A:Array Func}
def ik(L m y:Nat)(g:Option Nat)(i:Nat):Prop:=i=L\/i=m\/i=y\/some i=g
def iU(g g':Option Nat)(n:Nat):Prop:=g'=g\/∃r,g'=some r/\n<=r
def iU.trans{g g' c:Option Nat}{n k:Nat}(h:iU g g' n)(q:iU g' c k)(d:n<=k):iU g c n:=by
 rcases q with rfl|⟨r,rfl,f⟩
 .exact h
 .exact .inr ⟨r,rfl,by omega⟩
def ik.step{L m y:Nat}{g g':Option Nat}{a b c:World}(h:ca (ik L m y g) a b)(k:ca (ik L m y g') b c)(q:iU g g' a.heap.size):ca (ik L m y g) a c:=by
 refine⟨k.os.trans h.os,k.tape.trans h.tape,k.output.trans h.output,Po h.size k.size,λi f d=>?_⟩;rw[k.block i (Px f h.size) (λj=>?_),h.block i f d];rcases j with e|e|e|e
 .exact d (.inl e)
 .exact d (.inr (.inl e))
 .exact d (.inr (.inr (.inl e)))
 .rcases q with rfl|⟨r,rfl,l⟩
  .exact d (.inr (.inr (.inr e)))
  .have:=Pm e;omega
def ti(y B:Nat)(br:Option Nat->World->Prop):Prop:=∀g w w' row,br g w->w.grownBy w' row->(∀r,row=some r->r≠y/\(r<B\/some r=g))->br g w'/\∀g',w.heap.size<=g'->br (some g') w'
def xj:∃i,(ag A).info? 3=some i/\i.zero=some (.int .i64 0)/\i.size=1/\i.bytes=8:=⟨_,rfl,rfl,rfl,rfl⟩
def JY{w:World}{B g n cap:Nat}{pre:List Int}{x:Int}(h:w.ownsRow B 3 1 (.slice (some ⟨g,0,none⟩) (n+1) cap) (n+1) ((pre++[x]).map fX))(d:pre.length=n):n+1<=cap/\w.ownsRow B 3 1 (.slice (some ⟨g,0,none⟩) n cap) n (pre.map fX):=by
 obtain⟨r,⟨h,_⟩|⟨b,c,cur,i,p,q,j,l,o,f⟩⟩:=h
 .cases h
 .cases i
  refine⟨j,by simpa using d,.inr ⟨_,_,cur,rfl,p,q,by omega,l,o,?_⟩⟩;rw[Nat.mul_one]at f ⊢;have:(cur.toList.take (n+1)).take n=((pre++[x]).map fX).take n:=by rw[f]
  rw[List.take_take,Nat.min_eq_left (by omega),List.map_append,List.take_append_of_le_length (by simp[d])]at this;rw[this,List.take_of_length_le (by simp[d])]
def JZ{w:World}{B n:Nat}{v:Value}{xs:List Value}(h:w.ownsRow B 3 1 v (n+1) xs):∃g cap,v=.slice (some ⟨g,0,none⟩) (n+1) cap/\B<=g/\g<w.heap.size:=by
 obtain⟨j,⟨_,h⟩|⟨b,c,cur,d,f,i,_⟩⟩:=h
 .omega
 .exact⟨b,c,d,f,bp i⟩
def kp{w:World}{B n:Nat}{v:Value}{xs:List Value}(h:w.ownsRow B 3 1 v n xs)(r:Nat)(e:v.ownBlock=some r):B<=r/\r<w.heap.size:=by
 obtain⟨g,⟨rfl,_⟩|⟨b,c,cur,rfl,d,f,_⟩⟩:=h
 .cases e
 .cases e;exact⟨d,bp f⟩
def E9(w:World){b:Nat}{a:Addr}{v:Value}(h:b≠a.block){o:Nat}:(w.setCell a v).cell? ⟨b,o,none⟩=w.cell? ⟨b,o,none⟩:=World.cell?_of_block (ft h)
def Ph(t:TypeId)(x:Operand):Op:=.load t x
theorem oZ(t:TypeId)(x:Operand):Op.load t x=Ph t x:=rfl
def Pg(t:TypeId)(x:Operand):Ph t x=Op.load t x:=rfl
def D1[S:Std A][eg:PJ A](d:gM)(P:il)(L m y B:Nat)(ok:mN d P L m y B)(x:Int)(v:Value)(pre:List Int)(hlen:pre.length<=100)(w:World)(h:g1 d P L m B v pre w)(br D:Option Nat->World->Prop)(bj:ti y B br)(aN:ti y B D)(i0:br v.ownBlock w)(ae:Array Value)(r:Bool)(Z:∀v1 u,g1 d P L m B v1 (pre++[x]) u->br v1.ownBlock u->iU v.ownBlock v1.ownBlock w.heap.size->ca (ik L m y v.ownBlock) w u->Calls (ag A) 66 ae u λe w2=>∃v2,e=.returned (.bool r)/\g1 d P L m B v2 (pre++[x]) w2/\D v2.ownBlock w2/\iU v1.ownBlock v2.ownBlock u.heap.size/\ca (ik L m y v1.ownBlock) u w2):
 Calls (ag A) 65 #[.pointer (some ⟨L,0,none⟩),.int .i64 x,.func (.func 66) #[] ae] w λe w'=>∃T,e=.returned (.bool r)/\g1 d P L m B T pre w'/\D T.ownBlock w'/\iU v.ownBlock T.ownBlock w.heap.size/\ca (ik L m y v.ownBlock) w w':=by
 obtain⟨aV,H,ak,al,am⟩:=xj (A:=A);have aB:=Pj H;have aD:=Pj ak;have aE:=Pj al;have aF:=Pj am;have bk:=h.dm;have bb:=ok.pj;obtain⟨c,z⟩:∃W,w.alloc (.cells #[.pointer (some ⟨L,0,none⟩)] 135)=W:=⟨_,rfl⟩
 have K:w.grownBy c none:=by rw[<-z];exact Pn
 have s1:c.heap.size=w.heap.size+1:=by rw[<-z];simp
 have aI:c.cell? ⟨w.heap.size,0,none⟩=some (.pointer (some ⟨L,0,none⟩)):=by rw[<-z];exact Pr rfl
 have G:=h.eQ ok K;have a9:c.cell? ⟨L,1,none⟩=some v:=aT G.blk;have a0:L<c.heap.size:=by omega
 have a1:w.heap.size<c.heap.size:=by omega
 have a2:w.heap.size≠L:=by omega
 have C:=Pj G;have eo:=Pj h;have Y:=Pj K;have aC:=Pj z;have a7:=Pj s1;have aA:=Pj Z;have ax:=Pj λ(l cap:Nat) (p:World) (q:((c.alloc (.cells #[.int .i64 x] 3)).drew).grownBy p v.ownBlock)=>(⟨(q.block L (by show L<(c.alloc _).heap.size;simp;omega) (λe=>by have:=kp h.own _ e.symm;omega)).trans ((Pq a0).trans G.blk),trivial⟩:p.heap[L]?=some (.cells (qE d P m v) 169)/\True)
 clear h G K z H ak al am s1 Z;have bi:∀(fn:Fn) (first cap:Array Value) (w:World),(Instr.makeFunc fn first cap).run (ag A) w=.ok (.func fn first cap) w:=λ_ _ _ _=>rfl
 go_enter_defers eg.f91,Tryz.ntmps65
 go_upto_region 1 with fail
 rw[aC.out];simp only[oZ 22];have bg:=Pg;go_region_held3 (λw'=>w'.cell? ⟨w.heap.size,0,none⟩=some (.pointer (some ⟨L,0,none⟩)))
  (first|exact ap|exact aq|go_keep)
  (first|((refine step_append_lies _ (by rfl) _ _ _ (by rfl) B 3 aV (.int .i64 0) 1 8 (ag.underlying22 A) aB.out aD.out aE.out aF.out rfl (by omega) v pre.length (pre.map fX) (by rfl) (kq C.out.own (λg _ aL=>Pq aL)) ⟨c.heap.size,0,none⟩ 1 1 [.int .i64 x] (by rfl) (by rfl) (World.news_of_block (cs:=#[.int .i64 x]) (t:=3) (fr:=(0,0)) (heap_alloc_new c _)) (by simp[Value.oneCell']) (by omega) (by unfold maxLen;omega) (by omega) (by simp;omega) (c.heap.size+1) (by simp) ?_;intro l cap p aj q ai bh;have ap:p.cell? ⟨w.heap.size,0,none⟩=some (.pointer (some ⟨L,0,none⟩)):=q.cell (a:=⟨w.heap.size,0,none⟩) (show(c.alloc (.cells #[.int .i64 x] 3)).cell? ⟨w.heap.size,0,none⟩=_ from(Pz _ _ _ a1).trans aI) (λe=>by have:=kp eo.out.own w.heap.size e.symm;omega);obtain⟨E,bl⟩:=ax.out l cap p q;have aq:(p.setCell ⟨L,1,none⟩ (.slice (some ⟨l,0,none⟩) (pre.length+1) cap)).cell? ⟨w.heap.size,0,none⟩=some (.pointer (some ⟨L,0,none⟩)):=(E9 p a2).trans ap;have q1:=aT (o:=1) E;have bm:=b1 (o:=1) E;have aH:=Pj aj;have GW:=Pj q;have AT:=Pj ai;have aw:=Pj E;clear aj q ai E)))
 all_goals (
  have fj:c.grownBy p v.ownBlock:=⟨GW.out.os,GW.out.tape,GW.out.output,Po (by show c.heap.size<=(c.alloc (.cells #[.int .i64 x] 3)).heap.size;simp) GW.out.size,λi H aR=>(GW.out.block i (by show i<(c.alloc (.cells #[.int .i64 x] 3)).heap.size;simp;omega) aR).trans (Pq H)⟩
  have af:(p.setCell ⟨L,1,none⟩ (.slice (some ⟨l,0,none⟩) (pre.length+1) cap)).heap[L]?=some (.cells (qE d P m (.slice (some ⟨l,0,none⟩) (pre.length+1) cap)) 169):=cQ aw.out;have I:p.grownBy (p.setCell ⟨L,1,none⟩ (.slice (some ⟨l,0,none⟩) (pre.length+1) cap)) (some L):=et (Pw _ _);have ar:p.ownsRow B 3 1 (.slice (some ⟨l,0,none⟩) (pre.length+1) cap) (pre++[x]).length ((pre++[x]).map fX):=by rw[List.length_append,List.map_append];exact aH.out
  have ah:=C.out.zQ ok fj (λr e=>(kp C.out.own r e).1) af I ar;have au:iU v.ownBlock (some l) w.heap.size:=by
   rcases AT.out with e|e
   .exact .inl e.symm
   .exact .inr ⟨l,rfl,by omega⟩
  have X:ca (ik L m y v.ownBlock) w (p.setCell ⟨L,1,none⟩ (.slice (some ⟨l,0,none⟩) (pre.length+1) cap)):=((ca.ig Y.out).step fj (λr e=>.inl (.inr (.inr (.inr e.symm))))).step I (λr e=>.inl (.inl (by cases e;rfl)));have ao:br (some l) (p.setCell ⟨L,1,none⟩ (.slice (some ⟨l,0,none⟩) (pre.length+1) cap)):=by
   have aY:=(bj _ _ _ _ i0 Y.out (by simp)).1;have aS:∀r,v.ownBlock=some r->r≠y/\(r<B\/some r=v.ownBlock):=λr e=>by have:=(kp C.out.own r e).1;have:=ok.qC;exact⟨by omega,.inr e.symm⟩
   have aZ:br (some l) p:=by
    have j:=bj _ _ _ _ aY fj aS;rcases AT.out with e|e
    .rw[e]at j;exact j.1
    .exact j.2 l (by omega)
   exact(bj _ _ _ _ aZ I (λr e=>by cases e;exact⟨ok.vG.symm,.inl ok.pj⟩)).1
  generalize p.setCell ⟨L,1,none⟩ (.slice (some ⟨l,0,none⟩) (pre.length+1) cap)=a8 at *;have a5:=X.size;have az:=Pj ah;have J:=Pj au;have aa:=Pj X;have aG:=Pj ao;clear ah au X ao fj af I ar;go_wp2_with (go_at_call 66;refine Calls.mono (aA.out _ _ az.out aG.out J.out aa.out) ?_;rintro e U ⟨v2,rfl,Q,aW,a3,av⟩)
  have bc:=ok.fA;have bd:=ok.qC;have aJ:U.cell? ⟨w.heap.size,0,none⟩=some (.pointer (some ⟨L,0,none⟩)):=av.cell aq (λaU=>by
   rcases aU with e|e|e|e
   .dsimp only at e;omega
   .dsimp only at e;omega
   .dsimp only at e;omega
   .have e:=Pm e
    dsimp only at e;rcases AT.out with e'|e'
    .have:=kp eo.out.own l e'
     omega
    .omega)
  have R:=Q.own;have aP:(pre++[x]).length=pre.length+1:=by simp
  rw[aP]at R;obtain⟨F,ad,rfl,ba,bf⟩:=JZ R;obtain⟨aO,aQ⟩:=JY R rfl;refine leaves_cons (f:=84) (args:=#[.pointer (some ⟨w.heap.size,0,none⟩)]) (by simp) (by simp[go_sem]) ?_;refine(JA L m w.heap.size F pre.length ad d P (by omega) .returning U aJ Q.blk aO).mono ?_;rintro e ay V ⟨rfl,rfl,aK,M⟩;have aM:g1 d P L m B (.slice (some ⟨F,0,none⟩) pre.length ad) pre V:=Q.zQ ok (Pw U none) (by simp) aK M aQ;have aX:D (some F) V:=(aN _ _ _ _ aW M (λr e=>by cases e;exact⟨ok.vG.symm,.inl ok.pj⟩)).1;have a4:iU v.ownBlock (some F) w.heap.size:=J.out.trans a3 a5;have a6:ca (ik L m y v.ownBlock) w V:=(ik.step aa.out av J.out).step M (λr e=>.inl (.inl (by cases e;rfl)));refine⟨_,results_tmp rfl _ _ _,?_⟩;exact⟨_,rfl,aM,aX,a4,a6⟩)
end
section
variable{A:Array Func}
structure rv(A:Array Func)(ai:Type)(gx:Array Value)(y B:Nat) where
 Inv:Option Nat->ai->World->Prop
 stop:ai->List Int->Bool
 next:ai->List Int->ai
 keep:∀st,ti y B λg w=>Inv g st w
 call:∀st w v pre,Inv v.ownBlock st w->pre.length<=100->w.ownsRow B 3 1 v pre.length (pre.map fX)->Calls (ag A) 50 (#[v]++gx) w λe w'=>e=.returned (.bool (stop st pre))/\Inv v.ownBlock (next st pre) w'/\w.grownBy w' (some y)
section
variable{ai:Type}(stop:ai->List Int->Bool)(next:ai->List Int->ai)
def jo(go:Nat->List Int->ai->Bool×ai)(ways:Nat->Nat)(num:Nat->Int)(p:Nat)(pre:List Int)(st:ai):Nat->Bool×ai
 | 0=>(false,st)
 |j+1=>if (jo go ways num p pre st j).1 then jo go ways num p pre st j else
  if num j<=p/\ways (p-(num j).toNat)≠0 then go (p-(num j).toNat) (pre++[num j]) (jo go ways num p pre st j).2 else jo go ways num p pre st j
def lM(d:gM):Nat->Nat->List Int->ai->Bool×ai
 | 0,_,pre,st=>(stop st pre,next st pre)
 |r+1,p,pre,st=>jo (lM d r) (λq=>f' d r q) (d.num (d.n-(r+1))) p pre st (d.len (d.n-(r+1)))
end
def Ad{ai:Type}{go:Nat->List Int->ai->Bool×ai}{ways:Nat->Nat}{num:Nat->Int}{p:Nat}{pre:List Int}{st c:ai}{j:Nat}(h:jo go ways num p pre st j=(false,c))(d:¬(num j<=p/\ways (p-(num j).toNat)≠0)):jo go ways num p pre st (j+1)=(false,c):=by rw[jo,h,if_neg (by simp),if_neg d]
def F4{ai:Type}{go:Nat->List Int->ai->Bool×ai}{ways:Nat->Nat}{num:Nat->Int}{p:Nat}{pre:List Int}{st c:ai}{j:Nat}(h:jo go ways num p pre st j=(false,c))(d:num j<=p/\ways (p-(num j).toNat)≠0):jo go ways num p pre st (j+1)=go (p-(num j).toNat) (pre++[num j]) c:=by rw[jo,h,if_neg (by simp),if_pos d]
def Ae{ai:Type}{go:Nat->List Int->ai->Bool×ai}{ways:Nat->Nat}{num:Nat->Int}{p:Nat}{pre:List Int}{st c:ai}{j:Nat}(h:jo go ways num p pre st j=(true,c)):∀k,jo go ways num p pre st (j+k)=(true,c)
 | 0=>h
 |k+1=>by have:=Ae h k;rw[<-Nat.add_assoc,jo,this,if_pos rfl]
def td(A:Array Func){ai:Type}{f:Array Value}{y B:Nat}(E:rv A ai f y B)(d:gM)(P:il)(L m:Nat)(r:Nat):Prop:=
 ∀(a p:Nat) (pre:List Int) (st:ai) (v:Value) (w:World),a+r=d.n->p<=999->pre.length+r<=10->g1 d P L m B v pre w->E.Inv v.ownBlock st w->
  Calls (ag A) 49 #[.pointer (some ⟨L,0,none⟩),.agg #[.int .i64 a,.int .i64 p],.func (.func 50) #[] f] w λe w'=>∃c,e=.returned (.bool (lM E.stop E.next d r p pre st).1)/\g1 d P L m B c pre w'/\E.Inv c.ownBlock (lM E.stop E.next d r p pre st).2 w'/\iU v.ownBlock c.ownBlock w.heap.size/\ca (ik L m y v.ownBlock) w w'
def F2[S:Std A][eg:PJ A](d c f L a p:Nat)(g:Array Value)(w:World)(R:Ending->World->Prop)(j:w.cell? ⟨d,0,none⟩=some (.pointer (some ⟨L,0,none⟩)))(o:w.cell? ⟨c,0,none⟩=some (.int .i64 a))(q:w.cell? ⟨c,1,none⟩=some (.int .i64 p))(l:w.cell? ⟨f,0,none⟩=some (.func (.func 50) #[] g))(h:Calls (ag A) 49 #[.pointer (some ⟨L,0,none⟩),.agg #[.int .i64 a,.int .i64 p],.func (.func 50) #[] g] w λe w'=>∃b,e=.returned (.bool b)/\R (.returned (.bool b)) w'):Calls (ag A) 66 #[.pointer (some ⟨d,0,none⟩),.pointer (some ⟨c,0,none⟩),.pointer (some ⟨f,0,none⟩)] w R:=by
 have H:=Pj h;clear h;go_enter (S.f Tryz.func66),Tryz.ntmps66;go_wp2_with (go_at_call 49;refine H.out.mono ?_;rintro e w2 ⟨b,rfl,i⟩)
 exact i
def F8[S:Std A][eg:PJ A]{ai:Type}{g:Array Value}{y B:Nat}(E:rv A ai g y B)(d:gM)(P:il)(L m:Nat)(ok:mN d P L m y B)(Y:d.ok):td A E d P L m 0:=by
 intro a p pre st v w al ap hlen h l;have aq:=h.dm;have am:=ok.pj;have ao:=Y.n;obtain⟨c,f⟩:∃W,((w.alloc (.cells #[.pointer (some ⟨L,0,none⟩)] 135)).alloc (.cells #[.int .i64 a,.int .i64 p] 139)).alloc (.cells #[.func (.func 50) #[] g] 48)=W:=⟨_,rfl⟩
 have q:w.grownBy c none:=by rw[<-f];exact(Pn.trans Pn).trans Pn
 have C:c.cell? ⟨w.heap.size,0,none⟩=some (.pointer (some ⟨L,0,none⟩)):=by rw[<-f];exact(Pz _ _ _ (by simp only[Pp];omega)).trans ((Pz _ _ _ (by simp only[Pp];omega)).trans (Pr rfl))
 have U:c.cell? ⟨w.heap.size+1,0,none⟩=some (.int .i64 a):=by rw[<-f];exact(Pz _ _ _ (by simp only[Pp];omega)).trans (Pr (by simp))
 have D:c.cell? ⟨w.heap.size+1+1,0,none⟩=some (.func (.func 50) #[] g):=by rw[<-f];exact Pr (by simp)
 have j:=h.eQ ok q;have bu:c.cell? ⟨L,0,none⟩=some (.slice (some ⟨P.mb,P.qL,none⟩) d.n P.o2):=aT j.blk;have F:c.cell? ⟨L,1,none⟩=some v:=aT j.blk;have hd:((a:Int) == (d.n:Int))=true:=by rw[beq_iff_eq];omega
 have I:=Pj j;have u:=Pj q;have M:=Pj f;have K:=Pj l;have ak:=Pj h.own;have J:=Pj λW (l:E.Inv v.ownBlock st W) (Z:W.ownsRow B 3 1 v pre.length (pre.map fX))=>E.call st W v pre l (by omega) Z
 clear h j q f l;go_enter (S.f Tryz.func49),Tryz.ntmps49;go_upto_region 1 with fail
 rw[M.out];go_quiet (fail);have i2:E.Inv v.ownBlock st (c.drewN nq).drew:=(E.keep st _ _ _ _ K.out (u.out.trans ((hM c nq).trans (fQ (Pw _ _)))) (by simp)).1;have G:=(I.out.eQ ok (hM c nq)).eQ ok (fQ (Pw _ _));have H:ca (ik L m y v.ownBlock) w (c.drewN nq).drew:=(ca.ig u.out).step ((hM c nq).trans (fQ (Pw _ _))) (by simp);have T:(c.drewN nq).cell? ⟨w.heap.size,0,none⟩=some (.pointer (some ⟨L,0,none⟩)):=C;have V:(c.drewN nq).cell? ⟨w.heap.size+1+1,0,none⟩=some (.func (.func 50) #[] g):=D;have X:(c.drewN nq).cell? ⟨L,1,none⟩=some v:=F;clear C U D bu F;have aa:some w.heap.size≠some y:=by have:=ok.qC;simp;omega
 have ad:some (w.heap.size+1+1)≠some y:=by have:=ok.qC;simp;omega
 have ae:some L≠some y:=by have:=ok.vG;simp;omega
 generalize c.drewN nq=o at *;have z:=Pj G;have R:=Pj H;have Q:=Pj i2;clear G H i2;go_wp2;go_region_held3 (λw'=>w'.cell? ⟨w.heap.size,0,none⟩=some (.pointer (some ⟨L,0,none⟩))/\w'.cell? ⟨w.heap.size+1+1,0,none⟩=some (.func (.func 50) #[] g)/\w'.cell? ⟨L,1,none⟩=some v)
  (first|exact⟨ag,ah,aj⟩|go_keep)
  (first|(go_at_call 50;refine(J.out _ Q.out z.out.own).mono ?_;rintro e w3 ⟨rfl,af,i⟩;have ag:=i.cell (w:=o.drew) T aa;have ah:=i.cell (w:=o.drew) V ad;have aj:=i.cell (w:=o.drew) X ae))
 all_goals (
  go_wp2;go_ret;exact⟨v,rfl,z.out.keep ok i (λr e=>.inl (by cases e;rfl)),af,.inl rfl,R.out.step i (λr e=>.inl (.inr (.inr (.inl (by cases e;rfl)))))⟩)
end
end Go.aN
