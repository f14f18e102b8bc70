/- A part; no conditions. -/
import Derived.Test.YtkifbmfagkjikaaGreatDoorP33
import Derived.Deep.AppendLies
import Derived.Deep.RegionHeld3
import Derived.Deep.Cut
import Derived.Deep.CutRange
import Derived.BigQuiet
set_option maxHeartbeats 8000000
set_option maxRecDepth 100000
set_option linter.all false
namespace Go.aO
open Go.Proofs Go.RowKit
variable{N:Int->Option Value}{xs:List Value}{B L T aN aP b base carry e j k n p size:Nat}{num:Nat->Int}{ways:Nat->Nat}{a7:Nat->Nat->Int}{df:Nat->dY}{g':Option Nat}{aL w w':World}{f:World->Prop}{c:gE}{D:gd}
section
variable{A:Array Func}
structure mg(bf:World->Prop)(D:gd)(P:gl)(b:Nat)(c:gE)(aL w:World):Prop where
 jq:e2 bf D P w
 ch:w.heap[b]?=some (.cells c.a 174)
 z:w.heap[aL.heap.size]?=some (.cells iK.a 135)
 fY:cp P.X aL w
 lt:aL.heap.size+1<=b
 old:P.T<aL.heap.size/\P.B<=aL.heap.size/\P.C<aL.heap.size/\P.fm<aL.heap.size/\P.gJ<aL.heap.size
def mg.fF{d:World->Prop}{P:gl}(h:mg d D P b c aL w)(H:ky A d D P)(g:w.grownBy w' none):mg d D P b c aL w':=
 ⟨h.jq.fF H.keep g,(g.block _ (bu h.ch) aF).trans h.ch,(g.block _ (bu h.z) aF).trans h.z,h.fY.step g aF,h.lt,h.old⟩
def mg.oV{P:gl}(h:mg f D P b c aL w)(k:e2 f D P w')(g:cp P.X w w'):mg f D P b c aL w':=by
 have j:=h.lt;have l:=h.old;have d:∀i,aL.heap.size<=i->¬P.X i:=λi m d=>by rcases d with rfl|rfl|rfl<;>omega
 exact⟨k,(g.block _ (bu h.ch) (d _ U)).trans h.ch,(g.block _ (bu h.z) (d _ U)).trans h.z,h.fY.trans g,h.lt,h.old⟩
def mg.put{d:World->Prop}{P:gl}{bp:gE}(h:mg d D P b c aL w)(H:ky A d D P)(e:w'.heap[b]?=some (.cells bp.a 174))(g:w.grownBy w' (some b)):mg d D P b bp aL w':=by
 have l:=h.lt;have m:=h.old;have j:∀i,i≠b->some i≠some b:=λi f e=>f (bD e)
 exact⟨h.jq.keep H.keep g (λr e=>by cases e;omega),e,(g.block _ (bu h.z) (j _ U)).trans h.z,h.fY.step g (λr e=>.inr (by cases e;omega)),h.lt,h.old⟩
def KS[S:Std A][eY:jx A]{l:World->Prop}{P:gl}(H:ky A l D P)(left:Nat)(w:World)(h:e2 l D P w)(z:j' w P.gJ N)(j3:qy D N){v:Value}(q:N left=some v):
 Calls (ao A) 50 #[.pointer (some ⟨P.C,0,none⟩),.int .i64 left] w λe w'=>e=.returned (.agg (b2 D.a7 D.e D.carry left).a)/\e2 l D P w'/\cp P.X w w':=by
 obtain⟨d,g⟩:∃W,w.alloc (.cells #[.int .i64 0,.int .i64 0,.int .i64 0,.int .i64 0,.int .i64 0] 135)=W:=⟨_,rfl⟩
 have j:w.grownBy d none:=by rw[<-g];exact bT
 have s1:d.heap.size=w.heap.size+1:=by rw[<-g];simp
 have f:d.heap[w.heap.size]?=some (.cells iK.a 135):=by rw[<-g,fM];rfl
 have p:=h.fF H.keep j;have G:=al (h.fv H);have J:d.cell? ⟨P.C,5,none⟩=some (.map (some P.gJ)):=aU p.c;have L:w.heap.size<d.heap.size:=U;obtain rfl:=j3 left v q;have K:Sem.run (ao A) (Instr.lookup 131 (.map (some P.gJ)) (.int .i64 left) true) d=.ok (.tuple #[.agg (b2 D.a7 D.e D.carry left).a,.bool true]) d:=by have:=wT (ao.underlying120 A) rfl yi (z.keep j aF) left true;rw[q]at this;exact this
 have M:d.cell? ⟨w.heap.size,0,none⟩=some (.int .i64 0):=aU f;have Q:d.cell? ⟨w.heap.size,1,none⟩=some (.int .i64 0):=aU f;have R:d.cell? ⟨w.heap.size,2,none⟩=some (.int .i64 0):=aU f;have T:d.cell? ⟨w.heap.size,3,none⟩=some (.int .i64 0):=aU f;have V:d.cell? ⟨w.heap.size,4,none⟩=some (.int .i64 0):=aU f;have z0:=b3 (o:=0) f;have Y:=b3 (o:=1) f;have Z:=b3 (o:=2) f;have z3:=b3 (o:=3) f;have z4:=b3 (o:=4) f;have B:=al f;have E:=al p;have C:=al j;have u:=al H;have F:=al g;clear h j p j3 H s1 f z q g;go_enter (S.f Tryz.func50),Tryz.ntmps50;go_upto_region 1 with fail
 rw[F.out];go_wp2;have LT:=G.out;obtain⟨i,m,I⟩:=xq (w:=w) (b:=w.heap.size) (W:=d) (c:=iK.a) (b2 D.a7 D.e D.carry left) rfl B.out bg (X:=P.X) (cp.jF C.out);have r:=E.out.keep u.out.keep I (λb e=>by cases e;omega);revert i m r;generalize ((((d.setCell ⟨w.heap.size,0,none⟩ (.int .i64 (b2 D.a7 D.e D.carry left).cost)).setCell ⟨w.heap.size,1,none⟩ (.int .i64 (b2 D.a7 D.e D.carry left).eW)).setCell ⟨w.heap.size,2,none⟩ (.int .i64 (b2 D.a7 D.e D.carry left).left)).setCell ⟨w.heap.size,3,none⟩ (.int .i64 (b2 D.a7 D.e D.carry left).aP)).setCell ⟨w.heap.size,4,none⟩ (.int .i64 (b2 D.a7 D.e D.carry left).next)=y;intro i m r;have n:y.grownBy (y.alloc (.cells (b2 D.a7 D.e D.carry left).a 135)) none:=bT;refine bodyPost_ret (results_cell_row rfl _ _ w.heap.size 135 (b2 D.a7 D.e D.carry left).a (0,0) _ rfl ((n.block _ (bu i) aF).trans i) (ao.underlying124 A) rfl xI) rfl ?_;exact⟨rfl,r.fF u.out.keep n,m.trans (cp.jF n)⟩
def KT[S:Std A][eY:jx A]{q:World->Prop}{P:gl}(H:ky A q D P)(left:Nat)(ae:∀l,left<l->l<=D.e->rP A q D P l)(w:World)(h:e2 q D P w)(ap:j' w P.gJ N)(j3:qy D N)(aw:N left=none):
 Calls (ao A) 50 #[.pointer (some ⟨P.C,0,none⟩),.int .i64 left] w λe w'=>e=.returned (.agg (b2 D.a7 D.e D.carry left).a)/\e2 q D P w'/\cp P.X w w':=by
 obtain⟨m,C⟩:∃W,w.alloc (.cells #[.int .i64 0,.int .i64 0,.int .i64 0,.int .i64 0,.int .i64 0] 135)=W:=⟨_,rfl⟩
 obtain⟨d,E⟩:∃W,m.alloc (.cells #[.int .i64 0,.int .i64 0,.int .i64 0,.int .i64 0,.int .i64 0] 135)=W:=⟨_,rfl⟩
 obtain⟨G,F⟩:∃W,d.alloc (.cells #[.func (.func 69) #[] #[],.int .i64 0,.int .i64 0,.int .i64 0,.int .i64 0,.int .i64 0,.bool false] 174)=W:=⟨_,rfl⟩
 have I:w.grownBy m none:=by rw[<-C];exact bT
 have aj:w.grownBy d none:=by rw[<-E];exact I.trans bT
 have aa:w.grownBy G none:=by rw[<-F];exact aj.trans bT
 have ai:m.grownBy G none:=by rw[<-F,<-E];exact bT.trans bT
 have s1:m.heap.size=w.heap.size+1:=by rw[<-C];simp
 have s2:d.heap.size=w.heap.size+2:=by rw[<-E,cV,s1]
 have V:m.heap[w.heap.size]?=some (.cells iK.a 135):=by rw[<-C,fM];rfl
 have cG:G.heap[d.heap.size]?=some (.cells lT.a 174):=by rw[<-F,jA _ _ _ rfl];rfl
 have fv:=h.fv H;have aK:=H.ok.T;have ax:mg q D P d.heap.size lT w G:=⟨h.fF H.keep aa,cG,(ai.block _ (bu V) aF).trans V,cp.jF aa,U,U⟩
 have aY:m.cell? ⟨P.C,5,none⟩=some (.map (some P.gJ)):=aU (h.fF H.keep I).c;have a1:Sem.run (ao A) (Instr.lookup 131 (.map (some P.gJ)) (.int .i64 left) true) m=.ok (.tuple #[.agg #[.int .i64 0,.int .i64 0,.int .i64 0,.int .i64 0,.int .i64 0],.bool false]) m:=by have:=wT (ao.underlying120 A) rfl yi (ap.keep I aF) left true;rw[aw]at this;exact this
 have aG:=al ax;have p:=al H;have aC:=al C;have aD:=al E;have aE:=al F;have aW:=al ae;have aB:=al λc x w=>Cp (A:=A) d.heap.size c x w
 have aA:=al λaP (aR:left<=aP) (aN:aP<=D.e) w h=>HX (A:=A) H left aP aR aN ae w h
 clear h I aj aa ai s1 s2 V cG j3 H ap aw C E F ax fv aK ae;go_enter (S.f Tryz.func50),Tryz.ntmps50;go_upto_region 1 with fail
 rw[aC.out];go_upto_region 4 with fail
 rw[aD.out];go_upto_region 5 with fail
 rw[aE.out];go_wp2;obtain⟨cnt,ar⟩:∃n,n=D.e+1-left:=⟨_,rfl⟩
 have T:=al ar;clear ar;go_loopw [9] (λi wr=>∃h:Nat,i=.int .i64 h/\(left<=h/\h<=left+cnt)/\mg q D P d.heap.size (hc D.a7 D.e D.carry (b2 D.a7 D.e D.carry) left (h-left)) w wr) (λi _=>left+cnt+1-(numOf i))
 case atStart=>exact⟨left,rfl,⟨bg,U⟩,by rw[Nat.sub_self];exact aG.out⟩
 case round=>
  obtain⟨h,rfl,aO,br⟩:=hrel;have a4:wr.cell? ⟨P.C,2,none⟩=some (.int .i64 D.e):=aU br.jq.c;have a0:=p.out.e;have B:=al br;clear br;by_cases a2:h<left+cnt
  .have aL:=T.out
   have aQ:h<=D.e:=U;clear aL;have y:=aA.out h aO.1 aQ wr B.out.jq;cases z:(fq D.a7 D.e D.carry left h).some
   .rw[z]at y
    have Q:=al (show hc D.a7 D.e D.carry (b2 D.a7 D.e D.carry) left (h+1-left)=hc D.a7 D.e D.carry (b2 D.a7 D.e D.carry) left (h-left) by rw[show h+1-left=(h-left)+1 by omega];exact Dd (by rw[show left+(h-left)=h by omega];exact z))
    have R:=al y;clear y z;go_wp2_with (go_at_call 71;refine R.out.mono ?_;rintro e ag ⟨rfl,K,J⟩)
    have M:=(B.out.oV K J).fF p.out (dU ag (.cells (fq D.a7 D.e D.carry left h).cu.a 135) none);go_roundw
    case rel=>exact⟨h+1,by go_num,U,by rw[Q.out];exact M⟩
    case measure=>simp[numOf];omega
   .rw[z]at y
    have Q:=al (show hc D.a7 D.e D.carry (b2 D.a7 D.e D.carry) left (h+1-left)=(hc D.a7 D.e D.carry (b2 D.a7 D.e D.carry) left (h-left)).take (fq D.a7 D.e D.carry left h).cu by
     have aS:(fq D.a7 D.e D.carry left (left+(h-left))).some=true:=by rw[show left+(h-left)=h by omega];exact z
     rw[show h+1-left=(h-left)+1 by omega,zo aS,show left+(h-left)=h by omega])
    have R:=al y;clear y z;go_wp2_with (first|(go_at_call 71;refine R.out.mono ?_;rintro e ag ⟨rfl,K,J⟩;have M:=al ((B.out.oV K J).fF p.out (dU ag (.cells (fq D.a7 D.e D.carry left h).cu.a 135) none));clear K J)|(go_at_call 70;refine(aB.out (hc D.a7 D.e D.carry (b2 D.a7 D.e D.carry) left (h-left)) (fq D.a7 D.e D.carry left h).cu _ M.out.ch).mono ?_;rintro e a5 ⟨rfl,aT,aJ⟩))
    go_roundw
    case rel=>exact⟨h+1,by go_num,U,by rw[Q.out];exact M.out.put p.out aT aJ⟩
    case measure=>simp[numOf];omega
  .obtain rfl:h=left+cnt:=U
   have au:(hc D.a7 D.e D.carry (b2 D.a7 D.e D.carry) left (left+cnt-left)).cu=b2 D.a7 D.e D.carry left:=by rw[Nat.add_sub_cancel_left,T.out,<-yL]
   have aM:=T.out;have t1:decide (((left+cnt:Nat):Int)<=D.e)=false:=cH;have t2:decide (left+cnt<=D.e)=false:=cH;have ah:=al au;clear au aM;generalize aq:hc D.a7 D.e D.carry (b2 D.a7 D.e D.carry) left (left+cnt-left)=c at *;generalize left+cnt=h at *;have j:=B.out;have aZ:wr.cell? ⟨P.C,5,none⟩=some (.map (some P.gJ)):=aU j.jq.c;have v1:wr.cell? ⟨d.heap.size,1,none⟩=some (.int .i64 c.cu.cost):=aU j.ch;have v2:wr.cell? ⟨d.heap.size,2,none⟩=some (.int .i64 c.cu.eW):=aU j.ch;have v3:wr.cell? ⟨d.heap.size,3,none⟩=some (.int .i64 c.cu.left):=aU j.ch;have v4:wr.cell? ⟨d.heap.size,4,none⟩=some (.int .i64 c.cu.aP):=aU j.ch;have v5:wr.cell? ⟨d.heap.size,5,none⟩=some (.int .i64 c.cu.next):=aU j.ch;obtain⟨b7,ak,az⟩:=j.jq.k;have am:j' wr.drew P.gJ b7:=ak.keep (row:=none) (gv (e6 _ _)) aF;obtain⟨g,av,ay,u,z9⟩:=Dt (ao.underlying120 A) rfl am (left:Int) (.agg c.cu.a);replace av:Sem.run (ao A) (Instr.mapUpdate 131 (.map (some P.gJ)) (.int .i64 left) (.agg #[.int .i64 c.cu.cost,.int .i64 c.cu.eW,.int .i64 c.cu.left,.int .i64 c.cu.aP,.int .i64 c.cu.next])) wr.drew=.ok () g:=av;have ad:wr.grownBy g (some P.gJ):=⟨u.os,u.tape,u.output,u.size,u.block⟩
   have f:mg q D P d.heap.size c w g:=j.oV (j.jq.NC p.out.ok p.out.keep ad ⟨_,ay,by have:=az.put left;rw[<-ah.out]at this;exact this⟩) (cp.of ad (λr e=>.inr (.inr (by cases e;rfl))))
   have a6:g.cell? ⟨d.heap.size,1,none⟩=some (.int .i64 c.cu.cost):=aU f.ch;have a7:g.cell? ⟨d.heap.size,2,none⟩=some (.int .i64 c.cu.eW):=aU f.ch;have a8:g.cell? ⟨d.heap.size,3,none⟩=some (.int .i64 c.cu.left):=aU f.ch;have a9:g.cell? ⟨d.heap.size,4,none⟩=some (.int .i64 c.cu.aP):=aU f.ch;have ba:g.cell? ⟨d.heap.size,5,none⟩=some (.int .i64 c.cu.next):=aU f.ch;have bb:g.cell? ⟨w.heap.size,0,none⟩=some (.int .i64 0):=aU f.z;have bc:g.cell? ⟨w.heap.size,1,none⟩=some (.int .i64 0):=aU f.z;have bd:g.cell? ⟨w.heap.size,2,none⟩=some (.int .i64 0):=aU f.z;have bf:g.cell? ⟨w.heap.size,3,none⟩=some (.int .i64 0):=aU f.z;have bh:g.cell? ⟨w.heap.size,4,none⟩=some (.int .i64 0):=aU f.z;have z0:=b3 (o:=0) f.z;have bi:=b3 (o:=1) f.z;have bj:=b3 (o:=2) f.z;have z3:=b3 (o:=3) f.z;have z4:=b3 (o:=4) f.z;have a3:w.heap.size≠d.heap.size:=by have:=f.lt;omega
   have aH:=al f;have aV:=al aq;clear f ad ay u z9 am ak az j B aq;go_wp2;go_region
   all_goals (
    go_wp2;have L:=aH.out;obtain⟨Y,Z,aI⟩:=xq (w:=w) (b:=w.heap.size) (W:=g) (c:=iK.a) c.cu rfl L.z bg (X:=P.X) L.fY;have af:=L.jq.keep p.out.keep aI (λb e=>by have:=L.old;cases e;omega);revert Y Z af;generalize ((((g.setCell ⟨w.heap.size,0,none⟩ (.int .i64 c.cu.cost)).setCell ⟨w.heap.size,1,none⟩ (.int .i64 c.cu.eW)).setCell ⟨w.heap.size,2,none⟩ (.int .i64 c.cu.left)).setCell ⟨w.heap.size,3,none⟩ (.int .i64 c.cu.aP)).setCell ⟨w.heap.size,4,none⟩ (.int .i64 c.cu.next)=aX;intro Y Z af;refine bodyPost_ret (results_cell_row rfl _ _ w.heap.size 135 c.cu.a (0,0) _ rfl Y (ao.underlying124 A) rfl xI) rfl ?_;exact⟨by rw[<-ah.out],af,Z⟩)
def De[S:Std A][eY:jx A]{c:World->Prop}{P:gl}(H:ky A c D P):∀left,rP A c D P left:=by
 have key:∀n left,D.e+1-left=n->rP A c D P left:=by
  intro n;induction n using Nat.strongRecOn with
  |_ n g=>
   intro left m w h;obtain⟨N,d,j3⟩:=h.k;cases f:N left with
   |some v=>exact KS H left w h d j3 f
   |none=>exact KT H left (λl i j=>g (D.e+1-l) U l rfl) w h d j3 f
 exact λleft=>key _ left rfl
def K8:∃i,(ao A).info? 97=some i/\i.zero=some (.agg #[.int .i64 0,.int .i64 0,.int .i64 0])/\i.size=3/\i.bytes=24:=⟨_,rfl,rfl,rfl,rfl⟩
def EC{e:TypeId}{v:Value}(h:w.ownsRow base e size v n xs)(o:n≠0):
 ∃g c,v=.slice (some ⟨g,0,none⟩) n c/\base<=g/\∀j u,xs[j]?=some u->w.cell? ⟨g,j,none⟩=some u:=by
 obtain⟨y,⟨_,rfl⟩|⟨g,c,cur,rfl,i,l,p,q,r,f⟩⟩:=h
 .exact absurd rfl o
 .refine⟨g,c,rfl,i,λj u m=>?_⟩
  rw[aU l,<-Array.getElem?_toList];have d:(cur.toList.take (n*size))[j]?=some u:=by rw[f];exact m
  rw[List.getElem?_take]at d;split at d
  .exact d
  .cases d
def HE[S:Std A][eY:jx A](g c:Nat)(w:World)(cT dx f0 d n f1 f o f2 l p f3:Int)(h:∀(j:Nat) u,([.int .i64 cT,.int .i64 dx,.int .i64 f0,.int .i64 d,.int .i64 n,.int .i64 f1,.int .i64 f,.int .i64 o,.int .i64 f2]++[.int .i64 l,.int .i64 p,.int .i64 f3]:List Value)[j]?=some u->w.cell? ⟨g,j,none⟩=some u)(q:0<=cT/\cT<=dx)(r:0<=d/\d<=n)(y:0<=f/\f<=o)(z:0<=l/\l<=p):
 Calls (ao A) 30 #[.slice (some ⟨g,0,none⟩) 4 c] w λe w'=>e=.returned .nilIface/\w.grownBy w' none:=by
 refine vG g 0 4 c U w (λi=>match i with|0=>cT|1=>d|2=>f|_=>l) (λi=>match i with|0=>dx|1=>n|2=>o|_=>p) (λi=>match i with|0=>f0|1=>f1|2=>f2|_=>f3) (λi m=>?_) (λi m=>?_) (λi m=>?_) (λi m=>?_)
 .rcases i with _|_|_|_|i<;>first|exact h _ _ rfl|omega
 .rcases i with _|_|_|_|i<;>first|exact h _ _ rfl|omega
 .rcases i with _|_|_|_|i<;>first|exact h _ _ rfl|omega
 .rcases i with _|_|_|_|i
  .exact q
  .exact r
  .exact y
  .exact z
  .omega
def Ra[S:Std A][eY:jx A][P:hA A](d:cC)(ok:d.ok)(p:eg)(k:Nat)(aL:k<d.kinds)(left aP:Nat)(aM:left<=aP)(aK:aP<120)(carry:Nat)(aJ:carry<=30)(w:World)(h:e' w d p)(b:Nat)(hm:w.heap[b]?=some (.cells #[.int .i64 carry,.int .i64 30,.int .i64 3] 97)):
 Calls (ao A) 37 #[.agg (dv d p),.int .i64 k,.agg #[.int .i64 left,.int .i64 aP],.slice (some ⟨b,0,none⟩) 1 1] w (rU d p w):=by
 have aI:=ok.kinds;have y:w.grownBy ((w.alloc (.cells (dv d p) 25)).alloc (.cells #[.int .i64 left,.int .i64 aP] 62)) none:=bT.trans bT;have ap:=al (Ab (A:=A) d ok p _ (h.keep y));have V:=(y.block b (bu hm) aF).trans hm;have F:=al y;have I:=al V;have q:((w.alloc (.cells (dv d p) 25)).alloc (.cells #[.int .i64 left,.int .i64 aP] 62)).cell? ⟨w.heap.size+1,0,none⟩=some (.int .i64 left):=by rw[dR aF];rfl
 have r:((w.alloc (.cells (dv d p) 25)).alloc (.cells #[.int .i64 left,.int .i64 aP] 62)).cell? ⟨w.heap.size+1,1,none⟩=some (.int .i64 aP):=by rw[dR aF];rfl
 have ay:=al q;have az:=al r;obtain⟨i0,o,Z,aa,ad⟩:=K8 (A:=A);have ak:=al o;have ar:=al Z;have au:=al aa;have av:=al ad;clear y h q r hm V o Z aa ad;go_enter (S.f Tryz.func37),Tryz.ntmps37;go_wp2_with (go_at_call 28;refine ap.out.mono ?_;rintro e w3 ⟨T,rfl,L,E,n⟩;have q:=n.cell ay.out aF;have r:=n.cell az.out aF;have t0:w3.cell? ⟨T,0,none⟩=some (.int .i64 d.kinds):=(aU E).trans rfl;have X:=(n.block b (bu I.out) aF).trans I.out;have J:=al X;have G:=al E;have H:=al n;have aq:=al L;clear E n L X)
 go_region
 have f:∃W,W=(w3.alloc (.cells #[.int .i64 k,.int .i64 (d.kinds-1),.int .i64 0,.int .i64 left,.int .i64 119,.int .i64 2,.int .i64 aP,.int .i64 119,.int .i64 2] 97)).drew:=⟨_,rfl⟩
 obtain⟨f,z⟩:=f;have l:w3.grownBy f none:=by rw[z];exact gv bT
 have D:f.heap[w3.heap.size]?=some (.cells #[.int .i64 k,.int .i64 (d.kinds-1),.int .i64 0,.int .i64 left,.int .i64 119,.int .i64 2,.int .i64 aP,.int .i64 119,.int .i64 2] 97):=by rw[z];exact fM _ _
 have ae:=(l.block b (bu J.out) aF).trans J.out;have own:f.ownsRow w3.heap.size 97 3 (.slice (some ⟨w3.heap.size,0,none⟩) 3 3) 3 [.int .i64 k,.int .i64 (d.kinds-1),.int .i64 0,.int .i64 left,.int .i64 119,.int .i64 2,.int .i64 aP,.int .i64 119,.int .i64 2]:=
  ⟨rfl,.inr ⟨w3.heap.size,3,_,rfl,bg,D,U,kj,rfl,rfl⟩⟩
 have af:=(l.cell q aF)
 have q1:=(l.cell r aF)
 have aN:w.heap.size+1<w3.heap.size:=by have:=H.out.size;simp at this;omega
 have ax:=al own;have aw:=al ae;have aH:=al D;have c:=al l;have aG:w3.heap.size<=f.heap.size:=l.size;rw[<-z];have am:=al (v' (A:=A));clear own ae D l z q r t0;go_wp2_with (first|(at_builtin;refine wpList_append_own_at _ rfl _ _ 147 rfl w3.heap.size 97 i0 (.agg #[.int .i64 0,.int .i64 0,.int .i64 0]) 3 24 (ao.underlying161 A) ak.out ar.out au.out av.out rfl a6 _ 3 _ rfl ax.out ⟨b,0,none⟩ 1 1 [.int .i64 carry,.int .i64 30,.int .i64 3] rfl rfl (λj u R=>by rcases j with _|_|_|j<;>first|(rw[show((⟨b,0,none⟩:Addr).add _)=⟨b,_,none⟩from rfl];rw[aU aw.out];exact R)|(simp at R)) (λu hu=>by simp at hu;rcases hu with rfl|rfl|rfl<;>rfl) kj U aG ?_;intro aO ag Y C aE aC;obtain⟨g,aA,rfl,aD,M⟩:=EC Y U;have ah:=al (HE (A:=A) g aA ag k (d.kinds-1) 0 left 119 2 aP 119 2 carry 30 3 M U U U U);have r0:=C.cell af (by show some (w.heap.size+1)≠some w3.heap.size;simp;omega);have r1:=C.cell q1 (by show some (w.heap.size+1)≠some w3.heap.size;simp;omega);have m:=al C;clear Y C aE aC M aD)|(go_at_call 30;refine ah.out.mono ?_;rintro e aQ ⟨rfl,B⟩;have af:=B.cell r0 aF;have q1:=B.cell r1 aF;have ai:=al B;clear B)|(go_at_call 29;refine(am.out _).mono ?_;rintro e aR ⟨rfl,Q⟩;have aj:=al Q;clear Q))
 go_ret2
 have aB:w3.grownBy ag none:=⟨m.out.os.trans c.out.os,m.out.tape.trans c.out.tape,m.out.output.trans c.out.output,cL c.out.size m.out.size,λi o _=>(m.out.block i (gu o c.out.size) (by show some i≠some w3.heap.size;simp;omega)).trans (c.out.block i o aF)⟩
 have K:=(aB.trans ai.out).trans aj.out;refine⟨T,rfl,?_,(K.block T (bu G.out) aF).trans G.out,(F.out.trans H.out).trans K⟩;have:=aq.out;have e:=F.out.size;omega
end
structure vl(a7:Nat->Nat->Int)(e carry:Nat)(g:Nat->dY)(left aP:Nat)(b:dY):Prop where
 aj:b.left=left
 aD:b.aP=aP
 le:left<=aP/\aP<=e
 gM:(aP=e/\b.next = -1/\b.cost=a7 left aP/\b.eW=1)\/∃l:Nat,b.next=l/\aP<=l/\l<=e/\l<=aP+carry/\aP<e/\¬(left=aP/\l=aP)/\b.cost=a7 left aP+(g l).cost/\b.eW=(g l).eW+1
def Gr(c:gE)(x:dY):(c.take x).some=true:=by
 unfold gE.take;split
 .rfl
 .rename_i h
  simp at h;exact h.1
def A8(c:gE)(x:dY):(c.take x).cu=x\/(c.some=true/\(c.take x).cu=c.cu):=by
 unfold gE.take;split
 .exact .inl rfl
 .rename_i h
  simp at h;exact .inr ⟨h.1,rfl⟩
def yJ{a7:Nat->Nat->Int}{e carry:Nat}{g:Nat->dY}{left aP:Nat}(f:left<=aP)(d:aP<=e):∀j,(j=0\/(aP<e/\aP+j<=min e (aP+carry)+1))->(gR a7 e g left aP j).some=true->vl a7 e carry g left aP (gR a7 e g left aP j).cu
 | 0,_,c=>by
  rw[gR]at c ⊢;split
  .rename_i he
   have:(lT.take ⟨a7 left aP,1,left,aP,-1⟩).cu=⟨a7 left aP,1,left,aP,-1⟩:=by
    rcases A8 lT ⟨a7 left aP,1,left,aP,-1⟩with h|⟨h,_⟩
    .exact h
    .cases h
   rw[this];exact⟨rfl,rfl,⟨f,d⟩,.inl ⟨he,rfl,rfl,rfl⟩⟩
  .rename_i he
   rw[if_neg he]at c;cases c
 |j+1,l,c=>by
  rcases l with l|⟨n,p⟩
  .omega
  rw[gR]at c ⊢;split
  .rename_i i
   rw[if_pos i]at c;exact yJ f d j U c
  .rename_i i
   rcases A8 (gR a7 e g left aP j) ⟨a7 left aP+(g (aP+j)).cost,(g (aP+j)).eW+1,left,aP,(aP+j:Nat)⟩with h|⟨h,m⟩
   .rw[h]
    exact⟨rfl,rfl,⟨f,d⟩,.inr ⟨aP+j,rfl,U,U,U,n,λo=>i ⟨o.1,U⟩,rfl,rfl⟩⟩
   .rw[m]
    exact yJ f d j U h
def HR{left:Nat}(d:left<=aP)(c:aP<=e)(f:(fq a7 e carry left aP).some=true):vl a7 e carry (b2 a7 e carry) left aP (fq a7 e carry left aP).cu:=by
 unfold fq oC at *;refine yJ d c _ ?_ f;split
 .right;omega
 .left;rfl
def HS{left:Nat}:(fq a7 e carry left e).some=true:=by unfold fq oC;rw[if_neg (Nat.lt_irrefl _),gR,if_pos rfl];exact Gr _ _
def zn{a7:Nat->Nat->Int}{e carry left:Nat}:∀j,left+j<=e+1->(hc a7 e carry (b2 a7 e carry) left j).some=true->∃f,vl a7 e carry (b2 a7 e carry) left f (hc a7 e carry (b2 a7 e carry) left j).cu
 | 0,_,c=>by cases c
 |j+1,i,c=>by
  cases d:(fq a7 e carry left (left+j)).some
  .rw[Dd d]at c ⊢
   exact zn j U c
  .rw[zo d]at c ⊢
   rcases A8 (hc a7 e carry (b2 a7 e carry) left j) (fq a7 e carry left (left+j)).cu with h|⟨h,g⟩
   .rw[h]
    exact⟨_,HR U U d⟩
   .rw[g]
    exact zn j U h
def H5{left:Nat}(d:left<=e):∃f,vl a7 e carry (b2 a7 e carry) left f (b2 a7 e carry left):=by
 have c:(hc a7 e carry (b2 a7 e carry) left (e+1-left)).some=true:=by rw[show e+1-left=(e-left)+1 by omega,zo (by rw[show left+(e-left)=e by omega];exact HS)];exact Gr _ _
 have:=zn (e+1-left) U c;rw[<-yL]at this;exact this
def H6{left:Nat}(g:left<=e):(b2 a7 e carry left).next = -1\/∃l:Nat,(b2 a7 e carry left).next=l/\left<l/\l<=e:=by
 obtain⟨f,h⟩:=H5 (a7:=a7) (carry:=carry) g;rcases h.gM with⟨_,c,_⟩|⟨l,c,i,d,_,_,j,_⟩
 .exact .inl c
 .have:=h.le
  exact .inr ⟨l,c,U,d⟩
def pM(df:Nat->dY):Nat->dY->List dY
 | 0,b=>[b]
 |n+1,b=>if b.next = -1 then[b]else b::pM df n (df b.next.toNat)
def Cg{b:dY}(h:b.next = -1):∀n,pM df n b = [b]
 | 0=>rfl
 |n+1=>by rw[pM,if_pos h]
def Ch{b:dY}{l:Nat}(h:b.next=l)(n:Nat):pM df (n+1) b=b::pM df n (df l):=by rw[pM,if_neg U,h];rfl
def r'(a7:Nat->Nat->Int)(e carry left:Nat):List dY:=pM (b2 a7 e carry) (e+1) (b2 a7 e carry left)
def nb(l:List dY):List Value:=l.flatMap λb=>[.int .i64 b.left,.int .i64 b.aP]
def KP(l m:List dY):nb (l++m)=nb l++nb m:=by simp[nb]
def hj(d:cC)(k l f:Nat):Int:=if f<120 then ha (d.first k) (cX d k) l f else 0
def QI{bj:Nat->Int}(c:∀d,0<=bj d/\bj d<=9)(a n:Nat):0<=ks bj a n/\ks bj a n<=n*9:=by
 induction n with
 |zero=>simp[ks]
 |succ n f=>have:=c (a+n);simp only[ks];omega
def Kv{d:cC}(ok:d.ok)(c:k<d.kinds)(l f:Nat):0<=hj d k l f/\hj d k l f<=1000000:=by
 unfold hj;split
 .have g:=ok.first k c
  have h:=QI (λx=>ql ok c x) (l / 24+1) (f / 24-l / 24);unfold ha;omega
 .simp
def QV:(List.range 41).all (λi=>decide ((hc (hj fW 0) 60 2 uZ (20+i) (60+1-(20+i))).cu=uZ (20+i)))=true:=av
def BZ(l:Nat)(c:20<=l):b2 (hj fW 0) 60 2 l=uZ l:=by
 refine H7 (bY:=20) uZ (λl h=>?_) (λl d f=>?_) l c
 .unfold uZ
  rw[if_neg U,List.getElem?_eq_none (by show 41<=l-20;omega)];rfl
 .have:=List.all_eq_true.1 QV (l-20) (List.mem_range.2 U)
  rw[show 20+(l-20)=l by omega]at this;exact of_decide_eq_true this
def Ci:(b2 (hj fW 0) 60 2 20).cost=5/\r' (hj fW 0) 60 2 20 = [⟨5,2,20,46,48⟩,⟨2,1,48,60,-1⟩]:=by have c:b2 (hj fW 0) 60 2 20=⟨5,2,20,46,48⟩:=(BZ 20 U).trans av;have d:b2 (hj fW 0) 60 2 48=⟨2,1,48,60,-1⟩:=(BZ 48 U).trans av;refine⟨by rw[c],?_⟩;unfold r';rw[c,show(60+1:Nat)=60+1 from rfl,Ch (l:=48) rfl,d,Cg rfl]
section
variable{A:Array Func}
def K':∃i,(ao A).info? 62=some i/\i.zero=some (.agg #[.int .i64 0,.int .i64 0])/\i.size=2/\i.bytes=16:=⟨_,rfl,rfl,rfl,rfl⟩
def j4{e:TypeId}{v:Value}(h:w.ownsRow base e size v n xs)(k:∀g,base<=g->g<w.heap.size->w'.heap[g]?=w.heap[g]?):w'.ownsRow base e size v n xs:=by
 obtain⟨i,h|⟨g,c,cur,j,d,f,l,m,o,p⟩⟩:=h
 .exact⟨i,.inl h⟩
 .exact⟨i,.inr ⟨g,c,cur,j,d,(k g d (bu f)).trans f,l,m,o,p⟩⟩
def EB{d:Nat}{e:TypeId}{v:Value}(h:w.ownsRow base e size v n xs)(k:d<=base):w.ownsRow d e size v n xs:=by
 obtain⟨f,h|⟨g,c,cur,i,q,p,j,l,m,o⟩⟩:=h
 .exact⟨f,.inl h⟩
 .exact⟨f,.inr ⟨g,c,cur,i,U,p,j,l,m,o⟩⟩
abbrev qO(d:cC)(k aP carry:Nat):gd:=⟨hj d k,aP,carry,k⟩
abbrev oD(T B:Nat):gl:=⟨B+1+1,T,B,B+1,B⟩
def Ik[S:Std A][eY:jx A][P:hA A]{d:cC}(ok:d.ok){p:eg}(c:k<d.kinds)(n:aP<120)(u:carry<=30)(j:p.below d B)(i:T<B)(o:p.off d T):ky A (gp d p T B) (qO d k aP carry) (oD T B) where
 ok:=⟨i,by show B<=B+1+1;omega,bg,by show B<=B+1;omega,by show B+1+1≠B;omega,by show B+1+1≠B+1;omega,by show B≠B+1;omega⟩
 keep:=λw w' row h g q=>(pg ok j i).keep w w' row h g q
 size:=λw h=>h.dD
 C3:=λw h l f y m=>by
  have r:=ok.kinds;have:=si (F:=A) (pg ok j i) (k:=k) c U (bj:=cX d k) (λday=>by have:=ql ok c day;omega) (rk ok j o c) l f U m w h;rw[pT c]at this;have e:hj d k l f=ha (d.first k) (cX d k) l f:=if_pos m;show Calls (ao A) 32 _ w λe w'=>e=.returned (.int .i64 (hj d k l f))/\_/\_
  rw[e];exact this
 hL:=Kv ok c
 e:=n
 carry:=by show carry<=1000;omega
def Il{d:cC}{p:eg}{w3:World}(i:rR (gp d p T w3.heap.size) w3.heap.size)(j:gp d p T w3.heap.size w3):
 e2 (gp d p T w3.heap.size) (qO d k aP carry) (oD T w3.heap.size) (((w3.alloc (.map #[] 0)).alloc (.map #[] 0)).alloc (.cells #[.pointer (some ⟨T,0,none⟩),.int .i64 k,.int .i64 aP,.int .i64 carry,.map (some w3.heap.size),.map (some (w3.heap.size+1))] 133)):=by
 have c:(((w3.alloc (.map #[] 0)).alloc (.map #[] 0)).alloc (.cells #[.pointer (some ⟨T,0,none⟩),.int .i64 k,.int .i64 aP,.int .i64 carry,.map (some w3.heap.size),.map (some (w3.heap.size+1))] 133)).heap[w3.heap.size]?=some (.map #[] 0):=by rw[dm (by simp only[cV];omega),dm (by simp only[cV];omega),fM]
 have g:(((w3.alloc (.map #[] 0)).alloc (.map #[] 0)).alloc (.cells #[.pointer (some ⟨T,0,none⟩),.int .i64 k,.int .i64 aP,.int .i64 carry,.map (some w3.heap.size),.map (some (w3.heap.size+1))] 133)).heap[w3.heap.size+1]?=some (.map #[] 0):=by rw[dm (by simp only[cV];omega),jA _ _ _ (by simp only[cV])]
 exact⟨i _ _ none j (bT.trans (bT.trans bT)) aF,jA _ _ _ (by simp only[cV]),⟨_,ij.new _ _ _ c,λl f v h=>by cases h⟩,⟨_,j'.new _ _ _ g,λl v h=>by cases h⟩⟩
structure lQ(bf:World->Prop)(D:gd)(P:gl)(aL:World)(eT jo l left:Nat)(pre:List dY)(v:Value)(w:World):Prop where
 jq:e2 bf D P w
 tO:w.heap[eT]?=some (.cells (b2 D.a7 D.e D.carry l).a 135)
 own:w.ownsRow jo 62 2 v (pre.length+1) (nb (pre++[b2 D.a7 D.e D.carry l]))
 fY:aL.grownBy w none
 lt:eT<jo/\jo<=w.heap.size
 new:aL.heap.size<=P.T/\aL.heap.size<=P.fm/\aL.heap.size<=P.gJ/\P.T<eT/\P.fm<eT/\P.gJ<eT/\P.C<eT/\P.B<=eT
 chain:∃n,D.e<=n+l/\pre++pM (b2 D.a7 D.e D.carry) n (b2 D.a7 D.e D.carry l)=r' D.a7 D.e D.carry left
 le:l<=D.e/\pre.length<=l
def lQ.z6{d:World->Prop}{P:gl}{c f l left:Nat}{pre:List dY}{v:Value}(h:lQ d D P aL c f l left pre v w){i:Nat}(j:c<=i):¬P.X i:=λg=>by have:=h.new;rcases g with e|e|e<;>omega
def KQ(pre:List dY)(b:dY):nb (pre++[b])=nb pre++[.int .i64 b.left,.int .i64 b.aP]:=by rw[KP];rfl
def Lv:Value->Nat
 |.slice _ n _=>n
 |_=>0
def Rr(w:World)(x y:Value)(t:TypeId):∀(j:Nat) u,[x,y][j]?=some u->(w.alloc (.cells #[x,y] t)).cell? ((⟨w.heap.size,0,none⟩:Addr).add j)=some u:=by
 intro j u c;rcases j with _|_|j
 .rw[<-c];exact dR rfl
 .rw[<-c];exact dR rfl
 .simp at c
def Rq(w:World)(n:Nat)(c:n=w.heap.size)(x y:Value)(t:TypeId):∀(j:Nat) u,[x,y][j]?=some u->(w.alloc (.cells #[x,y] t)).cell? ((⟨n,0,none⟩:Addr).add j)=some u:=by subst c;exact Rr w x y t
def lQ.R7{d:World->Prop}{P:gl}{m l left:Nat}{pre:List dY}{v:Value}{n:World}(H:ky A d D P)(h:lQ d D P aL j m l left pre v w)(p:e2 d D P n)(o:cp P.X w n){c:World}(u:c.heap[j]?=some (.cells (b2 D.a7 D.e D.carry aN).a 135))(f:n.grownBy c (some j)):
 e2 d D P c/\c.ownsRow m 62 2 v (pre.length+1) (nb (pre++[b2 D.a7 D.e D.carry l]))/\aL.grownBy c none/\m<=c.heap.size:=by
 have y:=h.lt;have z:=h.new;have B:=o.size;have C:=f.size;refine⟨p.keep H.keep f (λb e=>by cases e;omega),j4 h.own (λg E q=>?_),kH (cp.new h.fY o (λi r=>by rcases r with e|e|e<;>omega)) f U,U⟩;rw[f.block g U (λe=>by have:=bD e;omega)];exact o.block g q (h.z6 U)
def lQ.put{P:gl}{c g l left:Nat}{pre:List dY}{v:Value}{d:World}(H:ky A f D P)(h:lQ f D P aL c g l left pre v w)(m:e2 f D P d)(i:cp P.X w d)(x:dY)(n:x=b2 D.a7 D.e D.carry aN):
 (((((d.setCell ⟨c,0,none⟩ (.int .i64 x.cost)).setCell ⟨c,1,none⟩ (.int .i64 x.eW)).setCell ⟨c,2,none⟩ (.int .i64 x.left)).setCell ⟨c,3,none⟩ (.int .i64 x.aP)).setCell ⟨c,4,none⟩ (.int .i64 x.next)).heap[c]?=some (.cells (b2 D.a7 D.e D.carry aN).a 135)/\
 e2 f D P (((((d.setCell ⟨c,0,none⟩ (.int .i64 x.cost)).setCell ⟨c,1,none⟩ (.int .i64 x.eW)).setCell ⟨c,2,none⟩ (.int .i64 x.left)).setCell ⟨c,3,none⟩ (.int .i64 x.aP)).setCell ⟨c,4,none⟩ (.int .i64 x.next))/\
 (((((d.setCell ⟨c,0,none⟩ (.int .i64 x.cost)).setCell ⟨c,1,none⟩ (.int .i64 x.eW)).setCell ⟨c,2,none⟩ (.int .i64 x.left)).setCell ⟨c,3,none⟩ (.int .i64 x.aP)).setCell ⟨c,4,none⟩ (.int .i64 x.next)).ownsRow g 62 2 v (pre.length+1) (nb (pre++[b2 D.a7 D.e D.carry l]))/\
 aL.grownBy (((((d.setCell ⟨c,0,none⟩ (.int .i64 x.cost)).setCell ⟨c,1,none⟩ (.int .i64 x.eW)).setCell ⟨c,2,none⟩ (.int .i64 x.left)).setCell ⟨c,3,none⟩ (.int .i64 x.aP)).setCell ⟨c,4,none⟩ (.int .i64 x.next)) none/\g<=d.heap.size:=by
 subst n;have j:=(i.block _ (bu h.tO) (h.z6 bg)).trans h.tO;have e:=cU (o:=4) (v:=.int .i64 (b2 D.a7 D.e D.carry aN).next) (cU (o:=3) (v:=.int .i64 (b2 D.a7 D.e D.carry aN).aP) (cU (o:=2) (v:=.int .i64 (b2 D.a7 D.e D.carry aN).left) (cU (o:=1) (v:=.int .i64 (b2 D.a7 D.e D.carry aN).eW) (cU (o:=0) (v:=.int .i64 (b2 D.a7 D.e D.carry aN).cost) j))));have k:=e7 (o:=4) (v:=.int .i64 (b2 D.a7 D.e D.carry aN).next) (e7 (o:=3) (v:=.int .i64 (b2 D.a7 D.e D.carry aN).aP) (e7 (o:=2) (v:=.int .i64 (b2 D.a7 D.e D.carry aN).left) (e7 (o:=1) (v:=.int .i64 (b2 D.a7 D.e D.carry aN).eW) (e7 (o:=0) (v:=.int .i64 (b2 D.a7 D.e D.carry aN).cost) (e6 d (some c))))));obtain⟨p,q,r,u⟩:=h.R7 H m i e k;refine⟨e,p,q,r,?_⟩;have:=h.lt;have:=i.size;omega
def lQ.cells{P:gl}{c g l left:Nat}{pre:List dY}{v:Value}{d:World}(h:lQ f D P aL c g l left pre v w)(i:cp P.X w d):d.heap[c]?=some (.cells (b2 D.a7 D.e D.carry l).a 135):=(i.block _ (bu h.tO) (h.z6 bg)).trans h.tO
def lQ.next{i:World->Prop}{P:gl}{d l left g g' bp:Nat}{pre:List dY}{v:Value}{c u r:World}(H:ky A i D P)(h:lQ i D P aL p d l left pre v w)(J:l<aN)(he:aN<=D.e)(E:(b2 D.a7 D.e D.carry l).next=aN)(F:e2 i D P c)(G:aL.grownBy c none)(M:d<=c.heap.size)(j:c.heap[p]?=some (.cells (b2 D.a7 D.e D.carry aN).a 135))(f:c.grownBy u none)(o:u.grownBy r (some g))(I:d<=g)(own:r.ownsRow d 62 2 (.slice (some ⟨g',0,none⟩) n bp) n (nb (pre++[b2 D.a7 D.e D.carry l])++[.int .i64 (b2 D.a7 D.e D.carry aN).left,.int .i64 (b2 D.a7 D.e D.carry aN).aP]))(C:n=pre.length+1+1):
 lQ i D P aL p d aN left (pre++[b2 D.a7 D.e D.carry l]) (.slice (some ⟨g',0,none⟩) n bp) r:=by
 subst C;have y:=h.lt;have z:=h.new;have hle:=h.le;have K:=f.size;have L:=o.size;obtain⟨m,hm,B⟩:=h.chain;obtain⟨m,rfl⟩:∃q,m=q+1:=⟨m-1,U⟩
 refine⟨(F.fF H.keep f).keep H.keep o (λb e=>by cases e;omega),?_,?_,kH (G.trans f) o U,⟨y.1,U⟩,z,⟨m,U,?_⟩,he,cH⟩
 .exact(o.block _ (bu ((f.block _ (bu j) aF).trans j)) (λe=>by have:=bD e;omega)).trans ((f.block _ (bu j) aF).trans j)
 .rw[KQ,List.length_append]
  exact own
 .rw[<-B,Ch E,List.append_assoc]
  rfl
def Iz[S:Std A][eY:jx A][P:hA A](d:cC)(ok:d.ok)(p:eg)(k:Nat)(aa:k<d.kinds)(left aP:Nat)(ad:left<=aP)(Z:aP<120)(carry:Nat)(Y:carry<=30)(w:World)(h:e' w d p):
 Calls (ao A) 20 #[.agg (dv d p),.int .i64 k,.int .i64 left,.int .i64 aP,.int .i64 carry] w λe w'=>∃v,e=.returned (.tuple #[v,.int .i64 (b2 (hj d k) aP carry left).cost,.int .i64 0])/\w'.ownsRow w.heap.size 62 2 v (r' (hj d k) aP carry left).length (nb (r' (hj d k) aP carry left))/\w.grownBy w' none:=by
 have aW:=ok.kinds;have E:w.grownBy ((w.alloc (.cells (dv d p) 25)).alloc (.cells #[.int .i64 carry,.int .i64 30,.int .i64 3] 97)) none:=bT.trans bT;have hm:((w.alloc (.cells (dv d p) 25)).alloc (.cells #[.int .i64 carry,.int .i64 30,.int .i64 3] 97)).heap[w.heap.size+1]?=some (.cells #[.int .i64 carry,.int .i64 30,.int .i64 3] 97):=jA _ _ _ (by simp only[cV]);have au:=al (Ra (A:=A) d ok p k aa left aP ad Z carry Y _ (h.keep E) _ hm);have ax:=al λ(T:Nat) (w3:World) (r:((w.alloc (.cells (dv d p) 25)).alloc (.cells #[.int .i64 carry,.int .i64 30,.int .i64 3] 97)).heap.size<=T) (B:w3.heap[T]?=some (.cells (nD d p) 94)) (C:((w.alloc (.cells (dv d p) 25)).alloc (.cells #[.int .i64 carry,.int .i64 30,.int .i64 3] 97)).grownBy w3 none)=>
  have x:=sO ok (h.keep E) r B C;have H:=Ik (A:=A) (aP:=aP) (carry:=carry) ok aa Z Y x.2.2.1 x.2.2.2 x.2.1
  (⟨x.2.2.2,H,Il H.keep x.1⟩:T<w3.heap.size/\ky A (gp d p T w3.heap.size) (qO d k aP carry) (oD T w3.heap.size)/\e2 (gp d p T w3.heap.size) (qO d k aP carry) (oD T w3.heap.size) _)
 have Q:=al E;have aZ:=@run_makeMap (ao A);obtain⟨i0,F,ag,ah,ai⟩:=K' (A:=A);have ar:=al F;have ay:=al ag;have az:=al ah;have aA:=al ai;clear E hm h F ag ah ai;go_enter (S.f Tryz.func20),Tryz.ntmps20;go_wp2_with (first|(go_at_call 37;refine au.out.mono ?_;rintro e w3 ⟨T,rfl,r,B,C⟩;have X:=al (ax.out T w3 r B C);have aq:=al (Q.out.trans C);have aw:=al r;clear B C r)|(go_at_call 50;refine(De X.out.2.1 left _ X.out.2.2).mono ?_;rintro e f ⟨rfl,R,M⟩)|(go_at_call 33;refine(oT _ _).mono ?_;rintro e w' ⟨rfl,rfl⟩))
 obtain⟨r,H,aG⟩:=X.out;have aM:=aw.out;have aL:=Q.out.size;have am:=M.size;have aO:w.heap.size<=T:=U;have V:w.grownBy (((w3.alloc (.map #[] 0)).alloc (.map #[] 0)).alloc (.cells #[.pointer (some ⟨T,0,none⟩),.int .i64 k,.int .i64 aP,.int .i64 carry,.map (some w3.heap.size),.map (some (w3.heap.size+1))] 133)) none:=aq.out.trans (bT.trans (bT.trans bT));have aT:w3.heap.size+3<=f.heap.size:=by simp only[cV]at am;omega
 have W:w.grownBy f none:=cp.new V M (λi F=>by rcases F with e|e|e<;>(dsimp only at e;omega));have gr:f.grownBy ((f.alloc (.cells (b2 (hj d k) aP carry left).a 135)).alloc (.cells #[.int .i64 (b2 (hj d k) aP carry left).left,.int .i64 (b2 (hj d k) aP carry left).aP] 62)) none:=bT.trans bT;have aj:lQ (gp d p T w3.heap.size) (qO d k aP carry) (oD T w3.heap.size) w f.heap.size (f.heap.size+1) left left [] (.slice (some ⟨f.heap.size+1,0,none⟩) (([]:List dY).length+1) 1) ((f.alloc (.cells (b2 (hj d k) aP carry left).a 135)).alloc (.cells #[.int .i64 (b2 (hj d k) aP carry left).left,.int .i64 (b2 (hj d k) aP carry left).aP] 62)):=by
  refine⟨R.fF H.keep gr,?_,⟨rfl,.inr ⟨_,1,_,rfl,bg,jA _ _ _ (by simp only[cV]),bg,kj,rfl,rfl⟩⟩,W.trans gr,⟨U,by simp only[cV];omega⟩,?_,⟨aP+1,by show aP<=_;omega,rfl⟩,ad,Nat.zero_le _⟩
  .rw[dm (by simp only[cV];omega),fM]
  .dsimp only
   omega
 have aB:=al aj;have G:=al H;clear aj gr W V H aG R M aT am aL aM aO r;go_loopw [18] (λL wr=>∃pre l g c,L=.slice (some ⟨g,0,none⟩) (pre.length+1) c/\lQ (gp d p T w3.heap.size) (qO d k aP carry) (oD T w3.heap.size) w f.heap.size (f.heap.size+1) l left pre (.slice (some ⟨g,0,none⟩) (pre.length+1) c) wr) (λL _=>aP+5-Lv L)
 case atStart=>exact⟨[],left,_,_,rfl,aB.out⟩
 case round=>
  obtain⟨pre,l,g,aV,rfl,br⟩:=hrel;have ak:wr.cell? ⟨f.heap.size,4,none⟩=some (.int .i64 (b2 (hj d k) aP carry l).next):=aU br.tO;have hle:l<=aP/\pre.length<=l:=br.le;have aI:f.heap.size+1<=g:=by
   obtain⟨_,⟨h,_⟩|⟨g',bp,cur,h,B,_⟩⟩:=br.own
   .cases h
   .cases h;exact B
  rcases H6 (a7:=hj d k) (carry:=carry) (show l<=aP from hle.1)with y|⟨aN,y,aK,aH⟩
  .rw[y]at ak
   have I:=al y;have m:=al br;clear y br;go_wp2;go_ret3
   obtain⟨n,a0,K⟩:=m.out.chain;rw[Cg I.out]at K;refine⟨_,rfl,?_,m.out.fY⟩;have ae:=EB m.out.own (show w.heap.size<=f.heap.size+1 by have:=m.out.new;omega);rw[K]at ae;have hlen:pre.length+1=(r' (hj d k) aP carry left).length:=by rw[<-K];simp
   rw[<-hlen];exact ae
  .rw[y]at ak
   have a1:((aN:Int) != -1)=true:=aF;have a2:((aN:Int) == -1)=false:=aF;have I:=al y;have m:=al br;clear y br;have ap:=al λ(q:World) (z:cp (oD T w3.heap.size).X wr q)=>(m.out.cells z:q.heap[f.heap.size]?=some (.cells (b2 (hj d k) aP carry l).a 135))
   have av:=al λ(q:World) (D:e2 (gp d p T w3.heap.size) (qO d k aP carry) (oD T w3.heap.size) q) (z:cp (oD T w3.heap.size).X wr q)=>m.out.put G.out D z (aN:=aN) (b2 (hj d k) aP carry aN) rfl
   go_wp2_with (first|(go_at_call 50;refine(De G.out aN _ m.out.jq).mono ?_;rintro e q ⟨rfl,D,z⟩;have j:=ap.out q z;have a9:=aU (o:=0) j;have ba:=aU (o:=1) j;have bb:=aU (o:=2) j;have bc:=aU (o:=3) j;have bd:=aU (o:=4) j;have z0:=b3 (o:=0) j;have bf:=b3 (o:=1) j;have bh:=b3 (o:=2) j;have z3:=b3 (o:=3) j;have z4:=b3 (o:=4) j;have J:=al (av.out q D z);clear j D z)|(at_builtin;refine wpList_append_own_at _ rfl _ _ 55 rfl (f.heap.size+1) 62 i0 (.agg #[.int .i64 0,.int .i64 0]) 2 16 (ao.underlying42 A) ar.out ay.out az.out aA.out rfl a6 _ (pre.length+1) _ rfl (j4 J.out.2.2.1 (λg _ aE=>dm aE)) ⟨q.heap.size,0,none⟩ 1 1 [.int .i64 (b2 (hj d k) aP carry aN).left,.int .i64 (b2 (hj d k) aP carry aN).aP] rfl rfl (Rq _ _ aF _ _ _) (λu hu=>by simp at hu;rcases hu with rfl|rfl<;>rfl) kj U (by have:=J.out.2.2.2.2;simp only[cV,World.size_setCell];omega) ?_;intro a5 a8 af aJ a3 aX))
   obtain⟨g',bp,rfl,aY,_⟩:=EC af U;refine⟨⟨pre++[b2 (hj d k) aP carry l],aN,g',bp,?_,?_⟩,?_⟩
   .rw[List.length_append]
    rfl
   .obtain⟨aC,aQ,a4,aR,aS⟩:=J.out
    have gM:=m.out.next (aN:=aN) (g:=g) (g':=g') (bp:=bp) (n:=pre.length+1+1) G.out aK aH I.out aQ aR (by simp only[World.size_setCell];exact aS) aC (dU _ _ none) aJ aI af rfl;rw[List.length_append];exact gM
   .have aD:=m.out.le
    show aP+5-(pre.length+1+1)<aP+5-(pre.length+1);have:pre.length<=l:=aD.2;omega
def gi(n:Int):Value:=.int .i64 n
abbrev sB(d:h1)(P:jL)(m:Nat)(v:Value):Array Value:=#[.slice (some ⟨P.nN,P.sJ,none⟩) d.n P.qN,v,.map (some m)]
structure ih(d:h1)(P:jL)(L m B:Nat)(v:Value)(pre:List Int)(w:World):Prop where
 blk:w.heap[L]?=some (.cells (sB d P m v) 168)
 rows:∀i,i<d.n->w.cell? ⟨P.nN,P.sJ+i,none⟩=some (.slice (some ⟨P.o7 i,P.xl i,none⟩) (d.len i) (P.ED i))
 el:∀i,i<d.n->gn w (P.o7 i) (P.xl i) (d.len i) (d.num i)
 mp:∃M,lu w m M/\tx d M
 own:w.ownsRow B 3 1 v pre.length (pre.map gi)
 dD:B<=w.heap.size
structure ow(d:h1)(P:jL)(L m y B:Nat):Prop where
 q5:L<B
 gJ:m<B
 sz:y<B
 sx:P.nN<B
 Dq:∀i,i<d.n->P.o7 i<B
 BD:L≠m
 Ho:L≠P.nN
 Hn:∀i,i<d.n->L≠P.o7 i
 yh:y≠L
 ps:y≠m
 Sx:y≠P.nN
 Sw:∀i,i<d.n->y≠P.o7 i
def ih.ls{d:h1}{P:jL}{m:Nat}{v:Value}{pre:List Int}(h:ih d P L m B v pre w):lv w L m d P:=
 ⟨(aU h.blk).trans rfl,(aU h.blk).trans rfl,h.rows,h.el,h.mp⟩
def ih.keep{d:h1}{P:jL}{m y:Nat}{v:Value}{pre:List Int}{row:Option Nat}(h:ih d P L m B v pre w)(ok:ow d P L m y B)(g:w.grownBy w' row)(z:∀r,row=some r->r=y\/(B<=r/\some r≠v.ownBlock)):ih d P L m B v pre w':=by
 obtain⟨M,D,G⟩:=h.mp;have l:∀b,b<B->b≠y->some b≠row:=λb o n e=>by
  rcases z b e.symm with j|⟨j,_⟩
  .exact n j
  .omega
 refine⟨(g.block _ (bu h.blk) (l _ ok.q5 ok.yh.symm)).trans h.blk,λi f=>g.cell (h.rows i f) (l _ ok.sx ok.Sx.symm),λi f=>(h.el i f).keep g (l _ (ok.Dq i f) (ok.Sw i f).symm),⟨M,D.keep g (l _ ok.gJ ok.ps.symm),G⟩,?_,cL h.dD g.size⟩;obtain⟨u,⟨rfl,F⟩|⟨b,c,cur,rfl,E,q,o,n,j,C⟩⟩:=h.own
 .exact⟨u,.inl ⟨rfl,F⟩⟩
 .refine⟨u,.inr ⟨b,c,cur,rfl,E,(g.block b (bu q) (λe=>?_)).trans q,o,n,j,C⟩⟩
  rcases z b e.symm with p|⟨_,p⟩
  .have:=ok.sz;omega
  .exact p rfl
def ih.fF{d:h1}{P:jL}{m y:Nat}{v:Value}{pre:List Int}(h:ih d P L m B v pre w)(ok:ow d P L m y B)(g:w.grownBy w' none):ih d P L m B v pre w':=h.keep ok g aF
def ih.known{d:h1}{P:jL}{m y:Nat}{v:Value}{pre:List Int}(h:ih d P L m B v pre w)(ok:ow d P L m y B)(g:w.grownBy w' (some m))(l:lv w' L m d P):ih d P L m B v pre w':=by
 have c:∀b,b≠m->some b≠some m:=λb h e=>h (bD e)
 refine⟨(g.block _ (bu h.blk) (c _ ok.BD)).trans h.blk,l.rows,l.el,l.mp,?_,cL h.dD g.size⟩;exact j4 h.own λb i f=>g.block b f (c _ (by have:=ok.gJ;omega))
def ih.Cq{d:h1}{P:jL}{m y:Nat}{v n:Value}{pre l:List Int}{o:World}{b:Option Nat}(h:ih d P L m B v pre w)(ok:ow d P L m y B)(g:w.grownBy o b)(z:∀r,b=some r->B<=r)(e:w'.heap[L]?=some (.cells (sB d P m n) 168))(k:o.grownBy w' (some L))(own:o.ownsRow B 3 1 n l.length (l.map gi)):ih d P L m B n l w':=by
 obtain⟨M,u,C⟩:=h.mp;have j:∀r,r<B->some r≠b:=λr p e=>by have:=z r e.symm;omega
 have f:∀r,L≠r->some r≠some L:=λr h e=>h (bD e).symm
 refine⟨e,λi c=>k.cell (g.cell (h.rows i c) (j _ ok.sx)) (f _ ok.Ho),λi c=>((h.el i c).keep g (j _ (ok.Dq i c))).keep k (f _ (ok.Hn i c)),⟨M,(u.keep g (j _ ok.gJ)).keep k (f _ ok.BD),C⟩,j4 own λr p q=>k.block r q (f _ (by have:=ok.q5;omega)),cL h.dD (cL g.size k.size)⟩
def MK[S:Std A][eY:oA A](L m b g n cap:Nat)(d:h1)(P:jL)(p:n<1000)(u:FrameMode)(w:World)(j:w.cell? ⟨b,0,none⟩=some (.pointer (some ⟨L,0,none⟩)))(c:w.heap[L]?=some (.cells (sB d P m (.slice (some ⟨g,0,none⟩) (n+1) cap)) 168))(l:n+1<=cap):
 CallsD (ao A) 91 #[.pointer (some ⟨b,0,none⟩)] u w λe aC w'=>aC=u/\(e=.returned (.tuple #[])/\(w'.heap[L]?=some (.cells (sB d P m (.slice (some ⟨g,0,none⟩) n cap)) 168)/\w.grownBy w' (some L))):=by
 have i:w.cell? ⟨L,1,none⟩=some (.slice (some ⟨g,0,none⟩) (n+1) cap):=aU c;have q:=b3 (o:=1) c;have E:=cU (o:=1) (v:=.slice (some ⟨g,0,none⟩) n cap) c;have G:w.grownBy (w.setCell ⟨L,1,none⟩ (.slice (some ⟨g,0,none⟩) n cap)) (some L):=e7 (e6 _ _);have f:=al E;have h:=al G;clear E G c;go_enter_d (S.f Tryz.func91),Tryz.ntmps91
 go_wp2;go_region
 all_goals (go_end0;exact⟨rfl,f.out,gv h.out⟩)
def jK(L m y:Nat)(g:Option Nat)(i:Nat):Prop:=i=L\/i=m\/i=y\/some i=g
def kh(g g':Option Nat)(n:Nat):Prop:=g'=g\/∃r,g'=some r/\n<=r
def kh.trans{g c:Option Nat}(h:kh g g' n)(q:kh g' c k)(d:n<=k):kh g c n:=by
 rcases q with rfl|⟨r,rfl,f⟩
 .exact h
 .exact .inr ⟨r,rfl,U⟩
def jK.step{m y:Nat}{g:Option Nat}{a b c:World}(h:cp (jK L m y g) a b)(k:cp (jK L m y g') b c)(q:kh g g' a.heap.size):cp (jK L m y g) a c:=by
 refine⟨k.os.trans h.os,k.tape.trans h.tape,k.output.trans h.output,cL h.size k.size,λi f d=>?_⟩;rw[k.block i (gu f h.size) (λj=>?_),h.block i f d];rcases j with e|e|e|e
 .exact d (.inl e)
 .exact d (.inr (.inl e))
 .exact d (.inr (.inr (.inl e)))
 .rcases q with rfl|⟨r,rfl,l⟩
  .exact d (.inr (.inr (.inr e)))
  .have:=bD e;omega
def vs(y B:Nat)(bn:Option Nat->World->Prop):Prop:=∀g w w' row,bn g w->w.grownBy w' row->(∀r,row=some r->r≠y/\(r<B\/some r=g))->bn g w'/\∀g',w.heap.size<=g'->bn (some g') w'
def wL:∃i,(ao A).info? 3=some i/\i.zero=some (.int .i64 0)/\i.size=1/\i.bytes=8:=⟨_,rfl,rfl,rfl,rfl⟩
def M6{g cap:Nat}{pre:List Int}{x:Int}(h:w.ownsRow B 3 1 (.slice (some ⟨g,0,none⟩) (n+1) cap) (n+1) ((pre++[x]).map gi))(d:pre.length=n):n+1<=cap/\w.ownsRow B 3 1 (.slice (some ⟨g,0,none⟩) n cap) n (pre.map gi):=by
 obtain⟨q,⟨h,_⟩|⟨b,c,cur,i,o,p,j,l,m,f⟩⟩:=h
 .cases h
 .cases i
  refine⟨j,by simpa using d,.inr ⟨_,_,cur,rfl,o,p,U,l,m,?_⟩⟩;rw[Nat.mul_one]at f ⊢;have:(cur.toList.take (n+1)).take n=((pre++[x]).map gi).take n:=by rw[f]
  rw[List.take_take,Nat.min_eq_left U,List.map_append,List.take_append_of_le_length (by simp[d])]at this;rw[this,List.take_of_length_le (by simp[d])]
def M8{v:Value}(h:w.ownsRow B 3 1 v (n+1) xs):∃g cap,v=.slice (some ⟨g,0,none⟩) (n+1) cap/\B<=g/\g<w.heap.size:=by
 obtain⟨j,⟨_,h⟩|⟨b,c,cur,d,f,i,_⟩⟩:=h
 .omega
 .exact⟨b,c,d,f,bu i⟩
def lM{v:Value}(h:w.ownsRow B 3 1 v n xs)(r:Nat)(e:v.ownBlock=some r):B<=r/\r<w.heap.size:=by
 obtain⟨g,⟨rfl,_⟩|⟨b,c,cur,rfl,d,f,_⟩⟩:=h
 .cases e
 .cases e;exact⟨d,bu f⟩
def pL(w:World){a:Addr}{v:Value}(h:b≠a.block){o:Nat}:(w.setCell a v).cell? ⟨b,o,none⟩=w.cell? ⟨b,o,none⟩:=World.cell?_of_block (e1 h)
def DD(t:TypeId)(x:Operand):Op:=.load t x
theorem wV(t:TypeId)(x:Operand):Op.load t x=DD t x:=rfl
def wW(t:TypeId)(x:Operand):DD t x=Op.load t x:=rfl
def G5[S:Std A][eY:oA A](d:h1)(P:jL)(L m y B:Nat)(ok:ow d P L m y B)(x:Int)(v:Value)(pre:List Int)(hlen:pre.length<=100)(w:World)(h:ih d P L m B v pre w)(bn C:Option Nat->World->Prop)(br:vs y B bn)(aP:vs y B C)(i0:bn v.ownBlock w)(ae:Array Value)(r:Bool)(Z:∀v1 q,ih d P L m B v1 (pre++[x]) q->bn v1.ownBlock q->kh v.ownBlock v1.ownBlock w.heap.size->cp (jK L m y v.ownBlock) w q->Calls (ao A) 68 ae q λe w2=>∃v2,e=.returned (.bool r)/\ih d P L m B v2 (pre++[x]) w2/\C v2.ownBlock w2/\kh v1.ownBlock v2.ownBlock q.heap.size/\cp (jK L m y v1.ownBlock) q w2):
 Calls (ao A) 67 #[.pointer (some ⟨L,0,none⟩),.int .i64 x,.func (.func 68) #[] ae] w λe w'=>∃R,e=.returned (.bool r)/\ih d P L m B R pre w'/\C R.ownBlock w'/\kh v.ownBlock R.ownBlock w.heap.size/\cp (jK L m y v.ownBlock) w w':=by
 obtain⟨aX,G,aj,ak,am⟩:=wL (A:=A);have aB:=al G;have aE:=al aj;have aG:=al ak;have aH:=al am;have bl:=h.dD;have bd:=ok.q5;obtain⟨c,u⟩:∃W,w.alloc (.cells #[.pointer (some ⟨L,0,none⟩)] 122)=W:=⟨_,rfl⟩
 have J:w.grownBy c none:=by rw[<-u];exact bT
 have s1:c.heap.size=w.heap.size+1:=by rw[<-u];simp
 have aK:c.cell? ⟨w.heap.size,0,none⟩=some (.pointer (some ⟨L,0,none⟩)):=by rw[<-u];exact dR rfl
 have F:=h.fF ok J;have bb:c.cell? ⟨L,1,none⟩=some v:=aU F.blk;have a2:L<c.heap.size:=U;have a3:w.heap.size<c.heap.size:=U;have a4:w.heap.size≠L:=U;have z:=al F;have ek:=al h;have Y:=al J;have aD:=al u;have a9:=al s1;have aA:=al Z;have ay:=al λ(l cap:Nat) (n:World) (p:((c.alloc (.cells #[.int .i64 x] 3)).drew).grownBy n v.ownBlock)=>(⟨(p.block L (by show L<(c.alloc _).heap.size;simp;omega) (λe=>by have:=lM h.own _ e.symm;omega)).trans ((dm a2).trans F.blk),trivial⟩:n.heap[L]?=some (.cells (sB d P m v) 168)/\True)
 clear h F J u G aj ak am s1 Z;have bk:∀(fn:Fn) (first cap:Array Value) (w:World),(Instr.makeFunc fn first cap).run (ao A) w=.ok (.func fn first cap) w:=λ_ _ _ _=>rfl
 go_enter_defers eY.f91,Tryz.ntmps67
 go_upto_region 1 with fail
 rw[aD.out];simp only[wV 22];have bi:=wW;go_region_held3 (λw'=>w'.cell? ⟨w.heap.size,0,none⟩=some (.pointer (some ⟨L,0,none⟩)))
  (first|exact aq|exact ar|go_keep)
  (first|((refine step_append_lies _ (by rfl) _ _ _ (by rfl) B 3 aX (.int .i64 0) 1 8 (ao.underlying22 A) aB.out aE.out aG.out aH.out rfl U v pre.length (pre.map gi) (by rfl) (j4 z.out.own (λg _ aN=>dm aN)) ⟨c.heap.size,0,none⟩ 1 1 [.int .i64 x] (by rfl) (by rfl) (World.news_of_block (cs:=#[.int .i64 x]) (t:=3) (fr:=(0,0)) (heap_alloc_new c _)) (by simp[Value.oneCell']) U kj U cH (c.heap.size+1) aF ?_;intro l cap n ai p ah bj;have aq:n.cell? ⟨w.heap.size,0,none⟩=some (.pointer (some ⟨L,0,none⟩)):=p.cell (a:=⟨w.heap.size,0,none⟩) (show(c.alloc (.cells #[.int .i64 x] 3)).cell? ⟨w.heap.size,0,none⟩=_ from(hD _ _ _ a3).trans aK) (λe=>by have:=lM ek.out.own w.heap.size e.symm;omega);obtain⟨D,bm⟩:=ay.out l cap n p;have ar:(n.setCell ⟨L,1,none⟩ (.slice (some ⟨l,0,none⟩) (pre.length+1) cap)).cell? ⟨w.heap.size,0,none⟩=some (.pointer (some ⟨L,0,none⟩)):=(pL n a4).trans aq;have q1:=aU (o:=1) D;have bo:=b3 (o:=1) D;have aJ:=al ai;have GW:=al p;have AT:=al ah;have ax:=al D;clear ai p ah D)))
 all_goals (
  have gr:c.grownBy n v.ownBlock:=⟨GW.out.os,GW.out.tape,GW.out.output,cL (by show c.heap.size<=(c.alloc (.cells #[.int .i64 x] 3)).heap.size;simp) GW.out.size,λi G aT=>(GW.out.block i (by show i<(c.alloc (.cells #[.int .i64 x] 3)).heap.size;simp;omega) aT).trans (dm G)⟩
  have af:(n.setCell ⟨L,1,none⟩ (.slice (some ⟨l,0,none⟩) (pre.length+1) cap)).heap[L]?=some (.cells (sB d P m (.slice (some ⟨l,0,none⟩) (pre.length+1) cap)) 168):=cU ax.out;have H:n.grownBy (n.setCell ⟨L,1,none⟩ (.slice (some ⟨l,0,none⟩) (pre.length+1) cap)) (some L):=e7 (e6 _ _);have au:n.ownsRow B 3 1 (.slice (some ⟨l,0,none⟩) (pre.length+1) cap) (pre++[x]).length ((pre++[x]).map gi):=by rw[List.length_append,List.map_append];exact aJ.out
  have ag:=z.out.Cq ok gr (λr e=>(lM z.out.own r e).1) af H au;have av:kh v.ownBlock (some l) w.heap.size:=by
   rcases AT.out with e|e
   .exact .inl e.symm
   .exact .inr ⟨l,rfl,U⟩
  have X:cp (jK L m y v.ownBlock) w (n.setCell ⟨L,1,none⟩ (.slice (some ⟨l,0,none⟩) (pre.length+1) cap)):=((cp.jF Y.out).step gr (λr e=>.inl (.inr (.inr (.inr e.symm))))).step H (λr e=>.inl (.inl (by cases e;rfl)));have ap:bn (some l) (n.setCell ⟨L,1,none⟩ (.slice (some ⟨l,0,none⟩) (pre.length+1) cap)):=by
   have a0:=(br _ _ _ _ i0 Y.out aF).1;have aV:∀r,v.ownBlock=some r->r≠y/\(r<B\/some r=v.ownBlock):=λr e=>by have:=(lM z.out.own r e).1;have:=ok.sz;exact⟨U,.inr e.symm⟩
   have a1:bn (some l) n:=by
    have j:=br _ _ _ _ a0 gr aV;rcases AT.out with e|e
    .rw[e]at j;exact j.1
    .exact j.2 l U
   exact(br _ _ _ _ a1 H (λr e=>by cases e;exact⟨ok.yh.symm,.inl ok.q5⟩)).1
  generalize n.setCell ⟨L,1,none⟩ (.slice (some ⟨l,0,none⟩) (pre.length+1) cap)=ba at *;have a7:=X.size;have az:=al ag;have I:=al av;have aa:=al X;have aI:=al ap;clear ag av X ap gr af H au;go_wp2_with (go_at_call 68;refine Calls.mono (aA.out _ _ az.out aI.out I.out aa.out) ?_;rintro e T ⟨v2,rfl,M,aY,a5,aw⟩)
  have bf:=ok.gJ;have bg:=ok.sz;have aL:T.cell? ⟨w.heap.size,0,none⟩=some (.pointer (some ⟨L,0,none⟩)):=aw.cell ar (λaW=>by
   rcases aW with e|e|e|e
   .dsimp only at e;omega
   .dsimp only at e;omega
   .dsimp only at e;omega
   .have e:=bD e
    dsimp only at e;rcases AT.out with e'|e'
    .have:=lM ek.out.own l e'
     omega
    .omega)
  have Q:=M.own;have aR:(pre++[x]).length=pre.length+1:=aF;rw[aR]at Q;obtain⟨E,ad,rfl,bc,bh⟩:=M8 Q;obtain⟨aQ,aS⟩:=M6 Q rfl;refine leaves_cons (f:=91) (args:=#[.pointer (some ⟨w.heap.size,0,none⟩)]) aF (by simp[go_sem]) ?_;refine(MK L m w.heap.size E pre.length ad d P U .returning T aL M.blk aQ).mono ?_;rintro e aC V ⟨rfl,rfl,aM,K⟩;have aO:ih d P L m B (.slice (some ⟨E,0,none⟩) pre.length ad) pre V:=M.Cq ok (e6 T none) aF aM K aS;have aZ:C (some E) V:=(aP _ _ _ _ aY K (λr e=>by cases e;exact⟨ok.yh.symm,.inl ok.q5⟩)).1;have a6:kh v.ownBlock (some E) w.heap.size:=I.out.trans a5 a7;have a8:cp (jK L m y v.ownBlock) w V:=(jK.step aa.out aw I.out).step K (λr e=>.inl (.inl (by cases e;rfl)));refine⟨_,results_tmp rfl _ _ _,?_⟩;exact⟨_,rfl,aO,aZ,a6,a8⟩)
end
section
variable{A:Array Func}
structure ts(A:Array Func)(ai:Type)(hM:Array Value)(y B:Nat) where
 Inv:Option Nat->ai->World->Prop
 stop:ai->List Int->Bool
 next:ai->List Int->ai
 keep:∀st,vs y B λg w=>Inv g st w
 call:∀st w v pre,Inv v.ownBlock st w->pre.length<=100->w.ownsRow B 3 1 v pre.length (pre.map gi)->Calls (ao A) 48 (#[v]++hM) w λe w'=>e=.returned (.bool (stop st pre))/\Inv v.ownBlock (next st pre) w'/\w.grownBy w' (some y)
section
variable{ai:Type}(stop:ai->List Int->Bool)(next:ai->List Int->ai)
def kF(go:Nat->List Int->ai->Bool×ai)(ways:Nat->Nat)(num:Nat->Int)(p:Nat)(pre:List Int)(st:ai):Nat->Bool×ai
 | 0=>(false,st)
 |j+1=>if (kF go ways num p pre st j).1 then kF go ways num p pre st j else
  if num j<=p/\ways (p-(num j).toNat)≠0 then go (p-(num j).toNat) (pre++[num j]) (kF go ways num p pre st j).2 else kF go ways num p pre st j
def na(d:h1):Nat->Nat->List Int->ai->Bool×ai
 | 0,_,pre,st=>(stop st pre,next st pre)
 |r+1,p,pre,st=>kF (na d r) (λq=>hg d r q) (d.num (d.n-(r+1))) p pre st (d.len (d.n-(r+1)))
end
def CM{ai:Type}{go:Nat->List Int->ai->Bool×ai}{pre:List Int}{st c:ai}(h:kF go ways num p pre st j=(false,c))(d:¬(num j<=p/\ways (p-(num j).toNat)≠0)):kF go ways num p pre st (j+1)=(false,c):=by rw[kF,h,if_neg aF,if_neg d]
def Jo{ai:Type}{go:Nat->List Int->ai->Bool×ai}{pre:List Int}{st c:ai}(h:kF go ways num p pre st j=(false,c))(d:num j<=p/\ways (p-(num j).toNat)≠0):kF go ways num p pre st (j+1)=go (p-(num j).toNat) (pre++[num j]) c:=by rw[kF,h,if_neg aF,if_pos d]
def CN{ai:Type}{go:Nat->List Int->ai->Bool×ai}{ways:Nat->Nat}{num:Nat->Int}{p:Nat}{pre:List Int}{st c:ai}{j:Nat}(h:kF go ways num p pre st j=(true,c)):∀k,kF go ways num p pre st (j+k)=(true,c)
 | 0=>h
 |k+1=>by have:=CN h k;rw[<-Nat.add_assoc,kF,this,if_pos rfl]
def vn(A:Array Func){ai:Type}{f:Array Value}{y:Nat}(E:ts A ai f y B)(d:h1)(P:jL)(L m:Nat)(r:Nat):Prop:=
 ∀(a p:Nat) (pre:List Int) (st:ai) (v:Value) (w:World),a+r=d.n->p<=999->pre.length+r<=10->ih d P L m B v pre w->E.Inv v.ownBlock st w->
  Calls (ao A) 47 #[.pointer (some ⟨L,0,none⟩),.agg #[.int .i64 a,.int .i64 p],.func (.func 48) #[] f] w λe w'=>∃c,e=.returned (.bool (na E.stop E.next d r p pre st).1)/\ih d P L m B c pre w'/\E.Inv c.ownBlock (na E.stop E.next d r p pre st).2 w'/\kh v.ownBlock c.ownBlock w.heap.size/\cp (jK L m y v.ownBlock) w w'
def Jm[S:Std A][eY:oA A](cG c d L a p:Nat)(f:Array Value)(w:World)(R:Ending->World->Prop)(i:w.cell? ⟨cG,0,none⟩=some (.pointer (some ⟨L,0,none⟩)))(l:w.cell? ⟨c,0,none⟩=some (.int .i64 a))(m:w.cell? ⟨c,1,none⟩=some (.int .i64 p))(j:w.cell? ⟨d,0,none⟩=some (.func (.func 48) #[] f))(h:Calls (ao A) 47 #[.pointer (some ⟨L,0,none⟩),.agg #[.int .i64 a,.int .i64 p],.func (.func 48) #[] f] w λe w'=>∃b,e=.returned (.bool b)/\R (.returned (.bool b)) w'):Calls (ao A) 68 #[.pointer (some ⟨cG,0,none⟩),.pointer (some ⟨c,0,none⟩),.pointer (some ⟨d,0,none⟩)] w R:=by
 have H:=al h;clear h;go_enter (S.f Tryz.func68),Tryz.ntmps68;go_wp2_with (go_at_call 47;refine H.out.mono ?_;rintro e w2 ⟨b,rfl,g⟩)
 exact g
def Js[S:Std A][eY:oA A]{ai:Type}{g:Array Value}{y:Nat}(E:ts A ai g y B)(d:h1)(P:jL)(L m:Nat)(ok:ow d P L m y B)(Y:d.ok):vn A E d P L m 0:=by
 intro a p pre st v w am hp hlen h l;have aq:=h.dD;have ao:=ok.q5;have ap:=Y.n;obtain⟨c,f⟩:∃W,((w.alloc (.cells #[.pointer (some ⟨L,0,none⟩)] 122)).alloc (.cells #[.int .i64 a,.int .i64 p] 126)).alloc (.cells #[.func (.func 48) #[] g] 128)=W:=⟨_,rfl⟩
 have o:w.grownBy c none:=by rw[<-f];exact(bT.trans bT).trans bT
 have z:c.cell? ⟨w.heap.size,0,none⟩=some (.pointer (some ⟨L,0,none⟩)):=by rw[<-f];exact(hD _ _ _ (by simp only[cV];omega)).trans ((hD _ _ _ (by simp only[cV];omega)).trans (dR rfl))
 have T:c.cell? ⟨w.heap.size+1,0,none⟩=some (.int .i64 a):=by rw[<-f];exact(hD _ _ _ (by simp only[cV];omega)).trans (dR aF)
 have C:c.cell? ⟨w.heap.size+1+1,0,none⟩=some (.func (.func 48) #[] g):=by rw[<-f];exact dR aF
 have j:=h.fF ok o;have bx:c.cell? ⟨L,0,none⟩=some (.slice (some ⟨P.nN,P.sJ,none⟩) d.n P.qN):=aU j.blk;have D:c.cell? ⟨L,1,none⟩=some v:=aU j.blk;have hd:((a:Int) == (d.n:Int))=true:=by rw[beq_iff_eq];omega
 have H:=al j;have q:=al o;have K:=al f;have J:=al l;have ak:=al h.own;have I:=al λW (l:E.Inv v.ownBlock st W) (Z:W.ownsRow B 3 1 v pre.length (pre.map gi))=>E.call st W v pre l U Z
 clear h j o f l;go_enter (S.f Tryz.func47),Tryz.ntmps47;go_upto_region 1 with fail
 rw[K.out];go_quiet (fail);have i2:E.Inv v.ownBlock st (c.drewN nq).drew:=(E.keep st _ _ _ _ J.out (q.out.trans ((hl c nq).trans (gv (e6 _ _)))) aF).1;have F:=(H.out.fF ok (hl c nq)).fF ok (gv (e6 _ _));have G:cp (jK L m y v.ownBlock) w (c.drewN nq).drew:=(cp.jF q.out).step ((hl c nq).trans (gv (e6 _ _))) aF;have R:(c.drewN nq).cell? ⟨w.heap.size,0,none⟩=some (.pointer (some ⟨L,0,none⟩)):=z;have V:(c.drewN nq).cell? ⟨w.heap.size+1+1,0,none⟩=some (.func (.func 48) #[] g):=C;have X:(c.drewN nq).cell? ⟨L,1,none⟩=some v:=D;clear z T C bx D;have aa:some w.heap.size≠some y:=by have:=ok.sz;simp;omega
 have ad:some (w.heap.size+1+1)≠some y:=by have:=ok.sz;simp;omega
 have ae:some L≠some y:=by have:=ok.yh;simp;omega
 generalize c.drewN nq=n at *;have u:=al F;have Q:=al G;have M:=al i2;clear F G i2;go_wp2;go_region_held3 (λw'=>w'.cell? ⟨w.heap.size,0,none⟩=some (.pointer (some ⟨L,0,none⟩))/\w'.cell? ⟨w.heap.size+1+1,0,none⟩=some (.func (.func 48) #[] g)/\w'.cell? ⟨L,1,none⟩=some v)
  (first|exact⟨ag,ah,aj⟩|go_keep)
  (first|(go_at_call 48;refine(I.out _ M.out u.out.own).mono ?_;rintro e w3 ⟨rfl,af,i⟩;have ag:=i.cell (w:=n.drew) R aa;have ah:=i.cell (w:=n.drew) V ad;have aj:=i.cell (w:=n.drew) X ae))
 all_goals (
  go_wp2;go_ret;exact⟨v,rfl,u.out.keep ok i (λr e=>.inl (by cases e;rfl)),af,.inl rfl,Q.out.step i (λr e=>.inl (.inr (.inr (.inl (by cases e;rfl)))))⟩)
end
end Go.aO
