/- A part. -/
import Derived.Test.YtoebddanaobpaaaGreatDoorP28
import Derived.Deep.AppendLies
import Derived.Deep.RegionHeld3
import Derived.Deep.Cut
import Derived.Deep.CutRange
import Derived.BigQuiet
set_option maxHeartbeats 8000000
set_option maxRecDepth 100000
set_option linter.all false
namespace Go.aO
open Go.Proofs Tryz Go.RowKit
variable{N:Int->TZ}{B L T Tc Tr aN aP b e j k n p size:Nat}{a7:Nat->Nat->Int}{df:Nat->dY}{aL w w':S7}{ways:T2}{g':TN}{xs:TP}{f:TQ}{num:Ty}{c:gE}{D:gd}
section
variable{A:TJ}
structure mg(bf:TQ)(D:gd)(P:gl)(b:Nat)(c:gE)(aL w:S7):Prop where
 jq:e2 bf D P w
 ch:w.heap[b]?=some (.cells c.a 150)
 z:w.heap[aL.heap.size]?=some (.cells iK.a 84)
 fY:cp P.X aL w
 lt:aL.heap.size+1<=b
 old:P.T<aL.heap.size/\P.B<=aL.heap.size/\P.C<aL.heap.size/\P.fm<aL.heap.size/\P.gJ<aL.heap.size
def mg.fF{d:TQ}{P:gl}(h:mg d D P b c aL w)(H:ky A d D P)(g:w.grownBy w' none):mg d D P b c aL w':=
 ⟨h.jq.fF H.keep g,(g.block _ (bu h.ch) aF).trans h.ch,(g.block _ (bu h.z) aF).trans h.z,h.fY.step g aF,h.lt,h.old⟩
def mg.oV{P:gl}(h:mg f D P b c aL w)(k:e2 f D P w')(g:cp P.X w w'):mg f D P b c aL w':=by
 have j:=h.lt;have l:=h.old;have d:∀i,aL.heap.size<=i->¬P.X i:=λi m d=>by rcases d with rfl|rfl|rfl<;>omega
 exact⟨k,(g.block _ (bu h.ch) (d _ U)).trans h.ch,(g.block _ (bu h.z) (d _ U)).trans h.z,h.fY.trans g,h.lt,h.old⟩
def mg.put{d:TQ}{P:gl}{bp:gE}(h:mg d D P b c aL w)(H:ky A d D P)(e:w'.heap[b]?=some (.cells bp.a 150))(g:w.grownBy w' (some b)):mg d D P b bp aL w':=by
 have l:=h.lt;have m:=h.old;have j:∀i,i≠b->some i≠some b:=λi f e=>f (bD e)
 exact⟨h.jq.keep H.keep g (λr e=>by cases e;omega),e,(g.block _ (bu h.z) (j _ U)).trans h.z,h.fY.step g (λr e=>.inr (by cases e;omega)),h.lt,h.old⟩
def KS[S:Std A][eY:jx A]{l:TQ}{P:gl}(H:ky A l D P)(S':Nat)(w:S7)(h:e2 l D P w)(z:j' w P.gJ N)(j3:qy D N){v:S9}(q:N S'=some v):
 Calls (ao A) 30 #[Tj P.C,ah S'] w λe w'=>e=.returned (.agg (D.TK S').a)/\e2 l D P w'/\cp P.X w w':=by
 obtain⟨d,g⟩:∃W,w.alloc (.cells #[ah 0,ah 0,ah 0,ah 0,ah 0] 84)=W:=⟨_,S6⟩
 have j:w.grownBy d none:=by rw[<-g];exact bT
 have s1:d.heap.size=w.heap.size+1:=by rw[<-g];simp
 have f:d.heap[w.heap.size]?=some (.cells iK.a 84):=by rw[<-g,fM];rfl
 have p:=h.fF H.keep j;have G:=al (h.fv H);have J:d.cell? (S8 P.C 5)=some (.map (some P.gJ)):=aU p.c;have L:w.heap.size<d.heap.size:=U;obtain rfl:=j3 S' v q;have K:Sem.run (ao A) (Instr.lookup 79 (.map (some P.gJ)) (ah S') true) d=.ok (.tuple #[.agg (D.TK S').a,.bool true]) d:=by have:=wT (ao.underlying120 A) S6 yi (z.keep j aF) S' true;rw[q]at this;exact this
 have M:d.cell? (Ti w.heap.size)=Tn 0:=aU f;have Q:d.cell? (S8 w.heap.size 1)=Tn 0:=aU f;have R:d.cell? (S8 w.heap.size 2)=Tn 0:=aU f;have T:d.cell? (S8 w.heap.size 3)=Tn 0:=aU f;have V:d.cell? (S8 w.heap.size 4)=Tn 0:=aU f;have z0:=b3 (o:=0) f;have Y:=b3 (o:=1) f;have Z:=b3 (o:=2) f;have z3:=b3 (o:=3) f;have z4:=b3 (o:=4) f;have B:=al f;have E:=al p;have C:=al j;have u:=al H;have F:=al g;clear h j p j3 H s1 f z q g;go_enter (S.f func30),ntmps30;go_upto_region 1 with fail
 rw[F.out];go_wp2;have LT:=G.out;let⟨i,m,I⟩:=xq (w:=w) (b:=w.heap.size) (W:=d) (c:=iK.a) (D.TK S') S6 B.out bg (X:=P.X) (cp.jF C.out);have r:=E.out.keep u.out.keep I (λb e=>by cases e;omega);revert i m r;generalize ((((d.setCell (Ti w.heap.size) (ah (D.TK S').cost)).setCell (S8 w.heap.size 1) (ah (D.TK S').eW)).setCell (S8 w.heap.size 2) (ah (D.TK S').left)).setCell (S8 w.heap.size 3) (ah (D.TK S').aP)).setCell (S8 w.heap.size 4) (ah (D.TK S').next)=y;intro i m r;have n:y.grownBy (y.alloc (.cells (D.TK S').a 84)) none:=bT;refine bodyPost_ret (results_cell_row S6 _ _ w.heap.size 84 (D.TK S').a (0,0) _ S6 ((n.block _ (bu i) aF).trans i) (ao.underlying124 A) S6 xI) S6 ?_;exact⟨S6,r.fF u.out.keep n,m.trans (cp.jF n)⟩
def KT[S:Std A][eY:jx A]{q:TQ}{P:gl}(H:ky A q D P)(S':Nat)(au:∀l,S'<l->l<=D.e->rP A q D P l)(w:S7)(h:e2 q D P w)(ap:j' w P.gJ N)(j3:qy D N)(aw:N S'=none):
 Calls (ao A) 30 #[Tj P.C,ah S'] w λe w'=>e=.returned (.agg (D.TK S').a)/\e2 q D P w'/\cp P.X w w':=by
 obtain⟨m,C⟩:∃W,w.alloc (.cells #[ah 0,ah 0,ah 0,ah 0,ah 0] 84)=W:=⟨_,S6⟩
 obtain⟨d,E⟩:∃W,m.alloc (.cells #[ah 0,ah 0,ah 0,ah 0,ah 0] 84)=W:=⟨_,S6⟩
 obtain⟨G,F⟩:∃W,d.alloc (.cells #[.func (.func 54) #[] #[],ah 0,ah 0,ah 0,ah 0,ah 0,.bool false] 150)=W:=⟨_,S6⟩
 have I:w.grownBy m none:=by rw[<-C];exact bT
 have aj:w.grownBy d none:=by rw[<-E];exact I.trans bT
 have aa:w.grownBy G none:=by rw[<-F];exact aj.trans bT
 have ai:m.grownBy G none:=by rw[<-F,<-E];exact bT.trans bT
 have s1:m.heap.size=w.heap.size+1:=by rw[<-C];simp
 have s2:d.heap.size=w.heap.size+2:=by rw[<-E,cV,s1]
 have V:m.heap[w.heap.size]?=some (.cells iK.a 84):=by rw[<-C,fM];rfl
 have cG:G.heap[d.heap.size]?=some (.cells lT.a 150):=by rw[<-F,jA _ _ _ S6];rfl
 have fv:=h.fv H;have aK:=H.ok.T;have ax:mg q D P d.heap.size lT w G:=⟨h.fF H.keep aa,cG,(ai.block _ (bu V) aF).trans V,cp.jF aa,U,U⟩
 have aX:m.cell? (S8 P.C 5)=some (.map (some P.gJ)):=aU (h.fF H.keep I).c;have a0:Sem.run (ao A) (Instr.lookup 79 (.map (some P.gJ)) (ah S') true) m=.ok (.tuple #[.agg #[ah 0,ah 0,ah 0,ah 0,ah 0],.bool false]) m:=by have:=wT (ao.underlying120 A) S6 yi (ap.keep I aF) S' true;rw[aw]at this;exact this
 have aG:=al ax;have p:=al H;have aC:=al C;have aD:=al E;have aE:=al F;have aB:=al λc x w=>Cp (A:=A) d.heap.size c x w
 have aA:=al λaP (aS:S'<=aP) (aO:aP<=D.e) w h=>HX (A:=A) H S' aP aS aO au w h
 clear h I aj aa ai s1 s2 V cG j3 H ap aw C E F ax fv aK au;go_enter (S.f func30),ntmps30;go_upto_region 1 with fail
 rw[aC.out];go_upto_region 4 with fail
 rw[aD.out];go_upto_region 5 with fail
 rw[aE.out];go_wp2;obtain⟨cnt,aq⟩:∃n,n=D.e+1-S':=⟨_,S6⟩
 have T:=al aq;clear aq;go_loopw [9] (λi wr=>∃h:Nat,i=ah h/\(S'<=h/\h<=S'+cnt)/\mg q D P d.heap.size (hc D.a7 D.e D.carry D.TK S' (h-S')) w wr) (λi _=>S'+cnt+1-(numOf i))
 case atStart=>exact⟨S',S6,⟨bg,U⟩,by rw[Nat.sub_self];exact aG.out⟩
 case round=>
  obtain⟨h,rfl,aQ,br⟩:=hrel;have a2:wr.cell? (S8 P.C 2)=Tn D.e:=aU br.jq.c;have aZ:=p.out.e;have B:=al br;clear br;by_cases a1:h<S'+cnt
  .have aL:=T.out
   have aR:h<=D.e:=U;clear aL;have y:=aA.out h aQ.1 aR wr B.out.jq;cases z:(D.T3 S' h).some
   .rw[z]at y
    have Q:=al (show hc D.a7 D.e D.carry D.TK S' (h+1-S')=hc D.a7 D.e D.carry D.TK S' (h-S') by rw[show h+1-S'=(h-S')+1 by omega];exact Dd (by rw[show S'+(h-S')=h by omega];exact z))
    have R:=al y;clear y z;go_wp2_with (go_at_call 56;refine R.out.mono ?_;rintro e af ⟨rfl,K,J⟩)
    have M:=(B.out.oV K J).fF p.out (dU af (.cells (D.T3 S' h).cu.a 84) none);go_roundw
    case rel=>exact⟨h+1,by go_num,U,by rw[Q.out];exact M⟩
    case measure=>simp[numOf];omega
   .rw[z]at y
    have Q:=al (show hc D.a7 D.e D.carry D.TK S' (h+1-S')=(hc D.a7 D.e D.carry D.TK S' (h-S')).take (D.T3 S' h).cu by
     have aT:(D.T3 S' (S'+(h-S'))).some=true:=by rw[show S'+(h-S')=h by omega];exact z
     rw[show h+1-S'=(h-S')+1 by omega,zo aT,show S'+(h-S')=h by omega])
    have R:=al y;clear y z;go_wp2_with (first|(go_at_call 56;refine R.out.mono ?_;rintro e af ⟨rfl,K,J⟩;have M:=al ((B.out.oV K J).fF p.out (dU af (.cells (D.T3 S' h).cu.a 84) none));clear K J)|(go_at_call 55;refine(aB.out (hc D.a7 D.e D.carry D.TK S' (h-S')) (D.T3 S' h).cu _ M.out.ch).mono ?_;rintro e a3 ⟨rfl,aV,aJ⟩))
    go_roundw
    case rel=>exact⟨h+1,by go_num,U,by rw[Q.out];exact M.out.put p.out aV aJ⟩
    case measure=>simp[numOf];omega
  .obtain rfl:h=S'+cnt:=U
   have ar:(hc D.a7 D.e D.carry D.TK S' (S'+cnt-S')).cu=D.TK S':=by rw[Nat.add_sub_cancel_left,T.out,<-yL]
   have aN:=T.out;have t2:decide (S'+cnt<=D.e)=false:=cH;have ag:=al ar;clear ar aN;generalize aM:hc D.a7 D.e D.carry D.TK S' (S'+cnt-S')=c at *;generalize S'+cnt=h at *;have j:=B.out;have aY:wr.cell? (S8 P.C 5)=some (.map (some P.gJ)):=aU j.jq.c;have v1:wr.cell? (S8 d.heap.size 1)=Tn c.cu.cost:=aU j.ch;have v2:wr.cell? (S8 d.heap.size 2)=Tn c.cu.eW:=aU j.ch;have v3:wr.cell? (S8 d.heap.size 3)=Tn c.cu.left:=aU j.ch;have v4:wr.cell? (S8 d.heap.size 4)=Tn c.cu.aP:=aU j.ch;have v5:wr.cell? (S8 d.heap.size 5)=Tn c.cu.next:=aU j.ch;let⟨b7,ak,az⟩:=j.jq.k;have am:j' wr.drew P.gJ b7:=ak.keep (row:=none) (gv (e6 _ _)) aF;let⟨g,av,ay,u,z9⟩:=Dt (ao.underlying120 A) S6 am (S':Int) (.agg c.cu.a);replace av:Sem.run (ao A) (Instr.mapUpdate 79 (.map (some P.gJ)) (ah S') (.agg #[ah c.cu.cost,ah c.cu.eW,ah c.cu.left,ah c.cu.aP,ah c.cu.next])) wr.drew=.ok () g:=av;have ad:wr.grownBy g (some P.gJ):=⟨u.os,u.tape,u.output,u.size,u.block⟩
   have f:mg q D P d.heap.size c w g:=j.oV (j.jq.NC p.out.ok p.out.keep ad ⟨_,ay,by have:=az.put S';rw[<-ag.out]at this;exact this⟩) (cp.of ad (λr e=>.inr (.inr (by cases e;rfl))))
   have a4:g.cell? (S8 d.heap.size 1)=Tn c.cu.cost:=aU f.ch;have a5:g.cell? (S8 d.heap.size 2)=Tn c.cu.eW:=aU f.ch;have a6:g.cell? (S8 d.heap.size 3)=Tn c.cu.left:=aU f.ch;have a7:g.cell? (S8 d.heap.size 4)=Tn c.cu.aP:=aU f.ch;have a8:g.cell? (S8 d.heap.size 5)=Tn c.cu.next:=aU f.ch;have a9:g.cell? (Ti w.heap.size)=Tn 0:=aU f.z;have ba:g.cell? (S8 w.heap.size 1)=Tn 0:=aU f.z;have bb:g.cell? (S8 w.heap.size 2)=Tn 0:=aU f.z;have bc:g.cell? (S8 w.heap.size 3)=Tn 0:=aU f.z;have bd:g.cell? (S8 w.heap.size 4)=Tn 0:=aU f.z;have z0:=b3 (o:=0) f.z;have bf:=b3 (o:=1) f.z;have bh:=b3 (o:=2) f.z;have z3:=b3 (o:=3) f.z;have z4:=b3 (o:=4) f.z;have aH:=al f;clear f ad ay u z9 am ak az j B aM;go_wp2;go_region
   all_goals (
    go_wp2;have L:=aH.out;let⟨Y,Z,aI⟩:=xq (w:=w) (b:=w.heap.size) (W:=g) (c:=iK.a) c.cu S6 L.z bg (X:=P.X) L.fY;have ae:=L.jq.keep p.out.keep aI (λb e=>by have:=L.old;cases e;omega);revert Y Z ae;generalize ((((g.setCell (Ti w.heap.size) (ah c.cu.cost)).setCell (S8 w.heap.size 1) (ah c.cu.eW)).setCell (S8 w.heap.size 2) (ah c.cu.left)).setCell (S8 w.heap.size 3) (ah c.cu.aP)).setCell (S8 w.heap.size 4) (ah c.cu.next)=aW;intro Y Z ae;refine bodyPost_ret (results_cell_row S6 _ _ w.heap.size 84 c.cu.a (0,0) _ S6 Y (ao.underlying124 A) S6 xI) S6 ?_;exact⟨by rw[<-ag.out],ae,Z⟩)
def De[S:Std A][eY:jx A]{c:TQ}{P:gl}(H:ky A c D P):∀S',rP A c D P S':=by
 have key:∀n S',D.e+1-S'=n->rP A c D P S':=by
  intro n;induction n using Nat.strongRecOn with
  |_ n g=>
   intro S' m w h;let⟨N,d,j3⟩:=h.k;cases f:N S' with
   |some v=>exact KS H S' w h d j3 f
   |none=>exact KT H S' (λl i j=>g (D.e+1-l) U l S6) w h d j3 f
 exact λS'=>key _ S' S6
def K8:∃i,(ao A).info? 76=some i/\i.zero=some (.agg #[ah 0,ah 0,ah 0])/\i.size=3/\i.bytes=24:=⟨_,S6,S6,S6,S6⟩
def EC{e:Tg}{v:S9}(h:w.ownsRow Tc e size v n xs)(o:n≠0):
 ∃g c,v=Ts g n c/\Tc<=g/\∀j u,xs[j]?=some u->w.cell? (S8 g j)=some u:=by
 obtain⟨y,⟨_,rfl⟩|⟨g,c,cur,rfl,i,l,p,q,r,f⟩⟩:=h
 .exact Td S6 o
 .refine⟨g,c,S6,i,λj u m=>?_⟩
  rw[aU l,<-Ue];have d:(cur.toList.take (n*size))[j]?=some u:=by rw[f];exact m
  rw[List.getElem?_take]at d;split at d
  .exact d
  .cases d
def HE[S:Std A][eY:jx A](g c:Nat)(w:S7)(cT dx f0 d n f1 f o f2 l p f3:Int)(h:∀(j:Nat) u,([ah cT,ah dx,ah f0,ah d,ah n,ah f1,ah f,ah o,ah f2]++[ah l,ah p,ah f3]:TP)[j]?=some u->w.cell? (S8 g j)=some u)(q:0<=cT/\cT<=dx)(r:0<=d/\d<=n)(y:0<=f/\f<=o)(z:0<=l/\l<=p):
 Calls (ao A) 45 #[Ts g 4 c] w λe w'=>e=.returned .nilIface/\w.grownBy w' none:=by
 refine vG g 0 4 c U w (λi=>match i with|0=>cT|1=>d|2=>f|_=>l) (λi=>match i with|0=>dx|1=>n|2=>o|_=>p) (λi=>match i with|0=>f0|1=>f1|2=>f2|_=>f3) (λi m=>?_) (λi m=>?_) (λi m=>?_) (λi m=>?_)
 .rcases i with _|_|_|_|i<;>first|exact h _ _ S6|omega
 .rcases i with _|_|_|_|i<;>first|exact h _ _ S6|omega
 .rcases i with _|_|_|_|i<;>first|exact h _ _ S6|omega
 .rcases i with _|_|_|_|i
  .exact q
  .exact r
  .exact y
  .exact z
  .omega
def Ra[S:Std A][eY:jx A][P:hA A](d:cC)(ok:d.ok)(p:eg)(k:Nat)(aL:k<d.kinds)(S' aP:Nat)(aM:S'<=aP)(aK:aP<120)(Tr:Nat)(aJ:Tr<=30)(w:S7)(h:e' w d p)(b:Nat)(hm:w.heap[b]?=some (.cells #[ah Tr,ah 30,ah 3] 76)):
 Calls (ao A) 29 #[.agg (dv d p),ah k,.agg #[ah S',ah aP],Ts b 1 1] w (rU d p w):=by
 have aI:=ok.kinds;have y:w.grownBy ((w.alloc (.cells (dv d p) 25)).alloc (.cells #[ah S',ah aP] 63)) none:=bT.trans bT;have aq:=al (Ab (A:=A) d ok p _ (h.keep y));have V:=(y.block b (bu hm) aF).trans hm;have E:=al y;have H:=al V;have q:((w.alloc (.cells (dv d p) 25)).alloc (.cells #[ah S',ah aP] 63)).cell? (Ti (w.heap.size+1))=Tn S':=by rw[dR aF];rfl
 have r:((w.alloc (.cells (dv d p) 25)).alloc (.cells #[ah S',ah aP] 63)).cell? (S8 (w.heap.size+1) 1)=Tn aP:=by rw[dR aF];rfl
 have az:=al q;have aA:=al r;let⟨i0,o,Z,aa,ad⟩:=K8 (A:=A);have am:=al o;have au:=al Z;have av:=al aa;have aw:=al ad;clear y h q r hm V o Z aa ad;go_enter (S.f func29),ntmps29;go_wp2_with (go_at_call 37;refine aq.out.mono ?_;rintro e w3 ⟨T,rfl,L,D,n⟩;have q:=n.cell az.out aF;have r:=n.cell aA.out aF;have t0:w3.cell? (Ti T)=Tn d.kinds:=(aU D).trans S6;have X:=(n.block b (bu H.out) aF).trans H.out;have I:=al X;have F:=al D;have G:=al n;have ar:=al L;clear D n L X)
 go_region
 have f:∃W,W=(w3.alloc (.cells #[ah k,ah (d.kinds-1),ah 0,ah S',ah 119,ah 2,ah aP,ah 119,ah 2] 76)).drew:=⟨_,S6⟩
 obtain⟨f,z⟩:=f;have l:w3.grownBy f none:=by rw[z];exact gv bT
 have J:f.heap[w3.heap.size]?=some (.cells #[ah k,ah (d.kinds-1),ah 0,ah S',ah 119,ah 2,ah aP,ah 119,ah 2] 76):=by rw[z];exact fM _ _
 have ae:=(l.block b (bu I.out) aF).trans I.out;have own:f.ownsRow w3.heap.size 76 3 (Ts w3.heap.size 3 3) 3 [ah k,ah (d.kinds-1),ah 0,ah S',ah 119,ah 2,ah aP,ah 119,ah 2]:=
  ⟨rfl,.inr ⟨w3.heap.size,3,_,rfl,bg,J,U,kj,rfl,rfl⟩⟩
 have af:=(l.cell q aF)
 have q1:=(l.cell r aF)
 have aN:w.heap.size+1<w3.heap.size:=by have:=G.out.size;simp at this;omega
 have ay:=al own;have ax:=al ae;have c:=al l;have aH:w3.heap.size<=f.heap.size:=l.size;rw[<-z];have ap:=al (v' (A:=A));clear own ae J l z q r t0;go_wp2_with (first|(at_builtin;refine wpList_append_own_at _ S6 _ _ 144 S6 w3.heap.size 76 i0 (.agg #[ah 0,ah 0,ah 0]) 3 24 (ao.underlying161 A) am.out au.out av.out aw.out S6 a6 _ 3 _ S6 ay.out (Ti b) 1 1 [ah Tr,ah 30,ah 3] S6 S6 (λj u R=>by rcases j with _|_|_|j<;>first|(rw[show(((Ti b):TD).add _)=⟨b,_,none⟩from S6];rw[aU ax.out];exact R)|(simp at R)) (λu hu=>by simp at hu;rcases hu with rfl|rfl|rfl<;>rfl) kj U aH ?_;intro aO ag Y C aG aD;obtain⟨g,aB,rfl,aE,M⟩:=EC Y U;have ai:=al (HE (A:=A) g aB ag k (d.kinds-1) 0 S' 119 2 aP 119 2 Tr 30 3 M U U U U);have r0:=C.cell af (by show some (w.heap.size+1)≠some w3.heap.size;simp;omega);have r1:=C.cell q1 (by show some (w.heap.size+1)≠some w3.heap.size;simp;omega);have m:=al C;clear Y C aG aD M aE)|(go_at_call 45;refine ai.out.mono ?_;rintro e aQ ⟨rfl,B⟩;have af:=B.cell r0 aF;have q1:=B.cell r1 aF;have aj:=al B;clear B)|(go_at_call 44;refine(ap.out _).mono ?_;rintro e aR ⟨rfl,Q⟩;have ak:=al Q;clear Q))
 go_ret2
 have aC:w3.grownBy ag none:=⟨m.out.os.trans c.out.os,m.out.tape.trans c.out.tape,m.out.output.trans c.out.output,cL c.out.size m.out.size,λi o _=>(m.out.block i (gu o c.out.size) (by show some i≠some w3.heap.size;simp;omega)).trans (c.out.block i o aF)⟩
 have K:=(aC.trans aj.out).trans ak.out;refine⟨T,S6,?_,(K.block T (bu F.out) aF).trans F.out,(E.out.trans G.out).trans K⟩;have:=ar.out;have e:=E.out.size;omega
end
structure vl(a7:Nat->Nat->Int)(e Tr:Nat)(g:Nat->dY)(S' aP:Nat)(b:dY):Prop where
 aj:b.left=S'
 aD:b.aP=aP
 le:S'<=aP/\aP<=e
 gM:(aP=e/\b.next = -1/\b.cost=a7 S' aP/\b.eW=1)\/∃l:Nat,b.next=l/\aP<=l/\l<=e/\l<=aP+Tr/\aP<e/\¬(S'=aP/\l=aP)/\b.cost=a7 S' aP+(g l).cost/\b.eW=(g l).eW+1
def Gr(c:gE)(x:dY):(c.take x).some=true:=by
 unfold gE.take;split
 .rfl
 .rename_i h
  simp at h;exact h.1
def A8(c:gE)(x:dY):(c.take x).cu=x\/(c.some=true/\(c.take x).cu=c.cu):=by
 unfold gE.take;split
 .exact .inl S6
 .rename_i h
  simp at h;exact .inr ⟨h.1,S6⟩
def yJ{a7:Nat->Nat->Int}{e Tr:Nat}{g:Nat->dY}{S' aP:Nat}(f:S'<=aP)(d:aP<=e):∀j,(j=0\/(aP<e/\aP+j<=min e (aP+Tr)+1))->(gR a7 e g S' aP j).some=true->vl a7 e Tr g S' aP (gR a7 e g S' aP j).cu
 | 0,_,c=>by
  rw[gR]at c ⊢;split
  .rename_i he
   have:(lT.take ⟨a7 S' aP,1,S',aP,-1⟩).cu=⟨a7 S' aP,1,S',aP,-1⟩:=by
    rcases A8 lT ⟨a7 S' aP,1,S',aP,-1⟩with h|⟨h,_⟩
    .exact h
    .cases h
   rw[this];exact⟨S6,S6,⟨f,d⟩,.inl ⟨he,S6,S6,S6⟩⟩
  .rename_i he
   rw[Tm he]at c;cases c
 |j+1,l,c=>by
  rcases l with l|⟨n,p⟩
  .omega
  rw[gR]at c ⊢;split
  .rename_i i
   rw[Tq i]at c;exact yJ f d j U c
  .rename_i i
   rcases A8 (gR a7 e g S' aP j) ⟨a7 S' aP+(g (aP+j)).cost,(g (aP+j)).eW+1,S',aP,(aP+j:Nat)⟩with h|⟨h,m⟩
   .rw[h]
    exact⟨S6,S6,⟨f,d⟩,.inr ⟨aP+j,S6,U,U,U,n,λo=>i ⟨o.1,U⟩,S6,S6⟩⟩
   .rw[m]
    exact yJ f d j U h
def HR{S':Nat}(d:S'<=aP)(c:aP<=e)(f:(fq a7 e Tr S' aP).some=true):vl a7 e Tr (b2 a7 e Tr) S' aP (fq a7 e Tr S' aP).cu:=by
 unfold fq oC at *;refine yJ d c _ ?_ f;split
 .right;omega
 .left;rfl
def HS{S':Nat}:(fq a7 e Tr S' e).some=true:=by unfold fq oC;rw[Tm (Nat.lt_irrefl _),gR,Tq S6];exact Gr _ _
def zn{a7:Nat->Nat->Int}{e Tr S':Nat}:∀j,S'+j<=e+1->(hc a7 e Tr (b2 a7 e Tr) S' j).some=true->∃f,vl a7 e Tr (b2 a7 e Tr) S' f (hc a7 e Tr (b2 a7 e Tr) S' j).cu
 | 0,_,c=>by cases c
 |j+1,i,c=>by
  cases d:(fq a7 e Tr S' (S'+j)).some
  .rw[Dd d]at c ⊢
   exact zn j U c
  .rw[zo d]at c ⊢
   rcases A8 (hc a7 e Tr (b2 a7 e Tr) S' j) (fq a7 e Tr S' (S'+j)).cu with h|⟨h,g⟩
   .rw[h]
    exact⟨_,HR U U d⟩
   .rw[g]
    exact zn j U h
def H5{S':Nat}(d:S'<=e):∃f,vl a7 e Tr (b2 a7 e Tr) S' f (b2 a7 e Tr S'):=by
 have c:(hc a7 e Tr (b2 a7 e Tr) S' (e+1-S')).some=true:=by rw[show e+1-S'=(e-S')+1 by omega,zo (by rw[show S'+(e-S')=e by omega];exact HS)];exact Gr _ _
 have:=zn (e+1-S') U c;rw[<-yL]at this;exact this
def H6{S':Nat}(g:S'<=e):(b2 a7 e Tr S').next = -1\/∃l:Nat,(b2 a7 e Tr S').next=l/\S'<l/\l<=e:=by
 let⟨f,h⟩:=H5 (a7:=a7) (Tr:=Tr) g;rcases h.gM with⟨_,c,_⟩|⟨l,c,i,d,_,_,j,_⟩
 .exact .inl c
 .have:=h.le
  exact .inr ⟨l,c,U,d⟩
def pM(df:Nat->dY):Nat->dY->Tb dY
 | 0,b=>[b]
 |n+1,b=>if b.next = -1 then[b]else b::pM df n (df b.next.toNat)
def Cg{b:dY}(h:b.next = -1):∀n,pM df n b = [b]
 | 0=>rfl
 |n+1=>by rw[pM,Tq h]
def Ch{b:dY}{l:Nat}(h:b.next=l)(n:Nat):pM df (n+1) b=b::pM df n (df l):=by rw[pM,Tm U,h];rfl
def r'(a7:Nat->Nat->Int)(e Tr S':Nat):Tb dY:=pM (b2 a7 e Tr) (e+1) (b2 a7 e Tr S')
def nb(l:Tb dY):TP:=l.flatMap λb=>[ah b.left,ah b.aP]
def KP(l m:Tb dY):nb (l++m)=nb l++nb m:=by simp[nb]
def hj(d:cC)(k l f:Nat):Int:=if f<120 then ha (d.first k) (cX d k) l f else 0
def QI{bj:Ty}(c:∀d,0<=bj d/\bj d<=9)(a n:Nat):0<=ks bj a n/\ks bj a n<=n*9:=by
 induction n with
 |zero=>simp[ks]
 |succ n f=>have:=c (a+n);simp only[ks];omega
def Kv{d:cC}(ok:d.ok)(c:k<d.kinds)(l f:Nat):0<=hj d k l f/\hj d k l f<=1000000:=by
 unfold hj;split
 .have g:=ok.first k c
  have h:=QI (λx=>ql ok c x) (l / 24+1) (f / 24-l / 24);unfold ha;omega
 .simp
def QV:(List.range 41).all (λi=>decide ((hc (hj fW 0) 60 2 uZ (20+i) (60+1-(20+i))).cu=uZ (20+i)))=true:=av
def BZ(l:Nat)(c:20<=l):b2 (hj fW 0) 60 2 l=uZ l:=by
 refine H7 (bY:=20) uZ (λl h=>?_) (λl d f=>?_) l c
 .unfold uZ
  rw[Tm U,List.getElem?_eq_none (by show 41<=l-20;omega)];rfl
 .have:=List.all_eq_true.1 QV (l-20) (List.mem_range.2 U)
  rw[show 20+(l-20)=l by omega]at this;exact Uu this
def Ci:(b2 (hj fW 0) 60 2 20).cost=5/\r' (hj fW 0) 60 2 20 = [⟨5,2,20,46,48⟩,⟨2,1,48,60,-1⟩]:=by have c:b2 (hj fW 0) 60 2 20=⟨5,2,20,46,48⟩:=(BZ 20 U).trans av;have d:b2 (hj fW 0) 60 2 48=⟨2,1,48,60,-1⟩:=(BZ 48 U).trans av;refine⟨by rw[c],?_⟩;unfold r';rw[c,show(60+1:Nat)=60+1 from S6,Ch (l:=48) S6,d,Cg S6]
section
variable{A:TJ}
def K':∃i,(ao A).info? 63=some i/\i.zero=some (.agg #[ah 0,ah 0])/\i.size=2/\i.bytes=16:=⟨_,S6,S6,S6,S6⟩
def j4{e:Tg}{v:S9}(h:w.ownsRow Tc e size v n xs)(k:∀g,Tc<=g->g<w.heap.size->w'.heap[g]?=w.heap[g]?):w'.ownsRow Tc e size v n xs:=by
 obtain⟨i,h|⟨g,c,cur,j,d,f,l,m,o,p⟩⟩:=h
 .exact⟨i,.inl h⟩
 .exact⟨i,.inr ⟨g,c,cur,j,d,(k g d (bu f)).trans f,l,m,o,p⟩⟩
def EB{d:Nat}{e:Tg}{v:S9}(h:w.ownsRow Tc e size v n xs)(k:d<=Tc):w.ownsRow d e size v n xs:=by
 obtain⟨f,h|⟨g,c,cur,i,q,p,j,l,m,o⟩⟩:=h
 .exact⟨f,.inl h⟩
 .exact⟨f,.inr ⟨g,c,cur,i,U,p,j,l,m,o⟩⟩
abbrev qO(d:cC)(k aP Tr:Nat):gd:=⟨hj d k,aP,Tr,k⟩
abbrev oD(T B:Nat):gl:=⟨B+1+1,T,B,B+1,B⟩
def Ik[S:Std A][eY:jx A][P:hA A]{d:cC}(ok:d.ok){p:eg}(c:k<d.kinds)(n:aP<120)(u:Tr<=30)(j:p.below d B)(i:T<B)(o:p.off d T):ky A (gp d p T B) (qO d k aP Tr) (oD T B) where
 ok:=⟨i,by show B<=B+1+1;omega,bg,by show B<=B+1;omega,by show B+1+1≠B;omega,by show B+1+1≠B+1;omega,by show B≠B+1;omega⟩
 keep:=λw w' row h g q=>(pg ok j i).keep w w' row h g q
 size:=λw h=>h.dD
 C3:=λw h l f y m=>by
  have r:=ok.kinds;have:=si (F:=A) (pg ok j i) (k:=k) c U (bj:=cX d k) (λday=>by have:=ql ok c day;omega) (rk ok j o c) l f U m w h;rw[pT c]at this;have e:hj d k l f=ha (d.first k) (cX d k) l f:=Tq m;show Calls (ao A) 36 _ w λe w'=>e=.returned (ah (hj d k l f))/\_/\_
  rw[e];exact this
 hL:=Kv ok c
 e:=n
 carry:=by show Tr<=1000;omega
def Il{d:cC}{p:eg}{w3:S7}(i:rR (gp d p T w3.heap.size) w3.heap.size)(j:gp d p T w3.heap.size w3):
 e2 (gp d p T w3.heap.size) (qO d k aP Tr) (oD T w3.heap.size) (((w3.alloc (.map #[] 0)).alloc (.map #[] 0)).alloc (.cells #[Tj T,ah k,ah aP,ah Tr,.map (some w3.heap.size),.map (some (w3.heap.size+1))] 81)):=by
 have c:(((w3.alloc (.map #[] 0)).alloc (.map #[] 0)).alloc (.cells #[Tj T,ah k,ah aP,ah Tr,.map (some w3.heap.size),.map (some (w3.heap.size+1))] 81)).heap[w3.heap.size]?=some (.map #[] 0):=by rw[dm (by simp only[cV];omega),dm (by simp only[cV];omega),fM]
 have g:(((w3.alloc (.map #[] 0)).alloc (.map #[] 0)).alloc (.cells #[Tj T,ah k,ah aP,ah Tr,.map (some w3.heap.size),.map (some (w3.heap.size+1))] 81)).heap[w3.heap.size+1]?=some (.map #[] 0):=by rw[dm (by simp only[cV];omega),jA _ _ _ (by simp only[cV])]
 exact⟨i _ _ none j (bT.trans (bT.trans bT)) aF,jA _ _ _ (by simp only[cV]),⟨_,ij.new _ _ _ c,λl f v h=>by cases h⟩,⟨_,j'.new _ _ _ g,λl v h=>by cases h⟩⟩
structure lQ(bf:TQ)(D:gd)(P:gl)(aL:S7)(eT jo l S':Nat)(pre:Tb dY)(v:S9)(w:S7):Prop where
 jq:e2 bf D P w
 tO:w.heap[eT]?=some (.cells (D.TK l).a 84)
 own:w.ownsRow jo 63 2 v (pre.length+1) (nb (pre++[D.TK l]))
 fY:aL.grownBy w none
 lt:eT<jo/\jo<=w.heap.size
 new:aL.heap.size<=P.T/\aL.heap.size<=P.fm/\aL.heap.size<=P.gJ/\P.T<eT/\P.fm<eT/\P.gJ<eT/\P.C<eT/\P.B<=eT
 chain:∃n,D.e<=n+l/\pre++pM D.TK n (D.TK l)=r' D.a7 D.e D.carry S'
 le:l<=D.e/\pre.length<=l
def lQ.z6{d:TQ}{P:gl}{c f l S':Nat}{pre:Tb dY}{v:S9}(h:lQ d D P aL c f l S' pre v w){i:Nat}(j:c<=i):¬P.X i:=λg=>by have:=h.new;rcases g with e|e|e<;>omega
def KQ(pre:Tb dY)(b:dY):nb (pre++[b])=nb pre++[ah b.left,ah b.aP]:=by rw[KP];rfl
def Lv:S9->Nat
 |.slice _ n _=>n
 |_=>0
def Rr(w:S7)(x y:S9)(t:Tg):∀(j:Nat) u,[x,y][j]?=some u->(w.alloc (.cells #[x,y] t)).cell? (((Ti w.heap.size):TD).add j)=some u:=by
 intro j u c;rcases j with _|_|j
 .rw[<-c];exact dR S6
 .rw[<-c];exact dR S6
 .simp at c
def Rq(w:S7)(n:Nat)(c:n=w.heap.size)(x y:S9)(t:Tg):∀(j:Nat) u,[x,y][j]?=some u->(w.alloc (.cells #[x,y] t)).cell? (((Ti n):TD).add j)=some u:=by subst c;exact Rr w x y t
def lQ.R7{d:TQ}{P:gl}{m l S':Nat}{pre:Tb dY}{v:S9}{n:S7}(H:ky A d D P)(h:lQ d D P aL j m l S' pre v w)(p:e2 d D P n)(o:cp P.X w n){c:S7}(u:c.heap[j]?=some (.cells (D.TK aN).a 84))(f:n.grownBy c (some j)):
 e2 d D P c/\c.ownsRow m 63 2 v (pre.length+1) (nb (pre++[D.TK l]))/\aL.grownBy c none/\m<=c.heap.size:=by
 have y:=h.lt;have z:=h.new;have B:=o.size;have C:=f.size;refine⟨p.keep H.keep f (λb e=>by cases e;omega),j4 h.own (λg E q=>?_),kH (cp.new h.fY o (λi r=>by rcases r with e|e|e<;>omega)) f U,U⟩;rw[f.block g U (λe=>by have:=bD e;omega)];exact o.block g q (h.z6 U)
def lQ.put{P:gl}{c g l S':Nat}{pre:Tb dY}{v:S9}{d:S7}(H:ky A f D P)(h:lQ f D P aL c g l S' pre v w)(m:e2 f D P d)(i:cp P.X w d)(x:dY)(n:x=D.TK aN):
 (((((d.setCell (Ti c) (ah x.cost)).setCell (S8 c 1) (ah x.eW)).setCell (S8 c 2) (ah x.left)).setCell (S8 c 3) (ah x.aP)).setCell (S8 c 4) (ah x.next)).heap[c]?=some (.cells (D.TK aN).a 84)/\
 e2 f D P (((((d.setCell (Ti c) (ah x.cost)).setCell (S8 c 1) (ah x.eW)).setCell (S8 c 2) (ah x.left)).setCell (S8 c 3) (ah x.aP)).setCell (S8 c 4) (ah x.next))/\
 (((((d.setCell (Ti c) (ah x.cost)).setCell (S8 c 1) (ah x.eW)).setCell (S8 c 2) (ah x.left)).setCell (S8 c 3) (ah x.aP)).setCell (S8 c 4) (ah x.next)).ownsRow g 63 2 v (pre.length+1) (nb (pre++[D.TK l]))/\
 aL.grownBy (((((d.setCell (Ti c) (ah x.cost)).setCell (S8 c 1) (ah x.eW)).setCell (S8 c 2) (ah x.left)).setCell (S8 c 3) (ah x.aP)).setCell (S8 c 4) (ah x.next)) none/\g<=d.heap.size:=by
 subst n;have j:=(i.block _ (bu h.tO) (h.z6 bg)).trans h.tO;have e:=cU (o:=4) (v:=ah (D.TK aN).next) (cU (o:=3) (v:=ah (D.TK aN).aP) (cU (o:=2) (v:=ah (D.TK aN).left) (cU (o:=1) (v:=ah (D.TK aN).eW) (cU (o:=0) (v:=ah (D.TK aN).cost) j))));have k:=e7 (o:=4) (v:=ah (D.TK aN).next) (e7 (o:=3) (v:=ah (D.TK aN).aP) (e7 (o:=2) (v:=ah (D.TK aN).left) (e7 (o:=1) (v:=ah (D.TK aN).eW) (e7 (o:=0) (v:=ah (D.TK aN).cost) (e6 d (some c))))));let⟨p,q,r,u⟩:=h.R7 H m i e k;refine⟨e,p,q,r,?_⟩;have:=h.lt;have:=i.size;omega
def lQ.cells{P:gl}{c g l S':Nat}{pre:Tb dY}{v:S9}{d:S7}(h:lQ f D P aL c g l S' pre v w)(i:cp P.X w d):d.heap[c]?=some (.cells (D.TK l).a 84):=(i.block _ (bu h.tO) (h.z6 bg)).trans h.tO
def lQ.next{i:TQ}{P:gl}{d l S' g g' bp:Nat}{pre:Tb dY}{v:S9}{c u r:S7}(H:ky A i D P)(h:lQ i D P aL p d l S' pre v w)(J:l<aN)(he:aN<=D.e)(E:(D.TK l).next=aN)(F:e2 i D P c)(G:aL.grownBy c none)(M:d<=c.heap.size)(j:c.heap[p]?=some (.cells (D.TK aN).a 84))(f:c.grownBy u none)(o:u.grownBy r (some g))(I:d<=g)(own:r.ownsRow d 63 2 (Ts g' n bp) n (nb (pre++[D.TK l])++[ah (D.TK aN).left,ah (D.TK aN).aP]))(C:n=pre.length+1+1):
 lQ i D P aL p d aN S' (pre++[D.TK l]) (Ts g' n bp) r:=by
 subst C;have y:=h.lt;have z:=h.new;have hle:=h.le;have K:=f.size;have L:=o.size;let⟨m,hm,B⟩:=h.chain;obtain⟨m,rfl⟩:∃q,m=q+1:=⟨m-1,U⟩
 refine⟨(F.fF H.keep f).keep H.keep o (λb e=>by cases e;omega),?_,?_,kH (G.trans f) o U,⟨y.1,U⟩,z,⟨m,U,?_⟩,he,cH⟩
 .exact(o.block _ (bu ((f.block _ (bu j) aF).trans j)) (λe=>by have:=bD e;omega)).trans ((f.block _ (bu j) aF).trans j)
 .rw[KQ,Ug]
  exact own
 .rw[<-B,Ch E,List.append_assoc]
  rfl
def Iz[S:Std A][eY:jx A][P:hA A](d:cC)(ok:d.ok)(p:eg)(k:Nat)(aa:k<d.kinds)(S' aP:Nat)(ad:S'<=aP)(Z:aP<120)(Tr:Nat)(Y:Tr<=30)(w:S7)(h:e' w d p):
 Calls (ao A) 11 #[.agg (dv d p),ah k,ah S',ah aP,ah Tr] w λe w'=>∃v,e=.returned (.tuple #[v,ah (b2 (hj d k) aP Tr S').cost,ah 0])/\w'.ownsRow w.heap.size 63 2 v (r' (hj d k) aP Tr S').length (nb (r' (hj d k) aP Tr S'))/\w.grownBy w' none:=by
 have E:w.grownBy ((w.alloc (.cells (dv d p) 25)).alloc (.cells #[ah Tr,ah 30,ah 3] 76)) none:=bT.trans bT;have hm:((w.alloc (.cells (dv d p) 25)).alloc (.cells #[ah Tr,ah 30,ah 3] 76)).heap[w.heap.size+1]?=some (.cells #[ah Tr,ah 30,ah 3] 76):=jA _ _ _ (by simp only[cV]);have av:=al (Ra (A:=A) d ok p k aa S' aP ad Z Tr Y _ (h.keep E) _ hm);have ay:=al λ(T:Nat) (w3:S7) (r:((w.alloc (.cells (dv d p) 25)).alloc (.cells #[ah Tr,ah 30,ah 3] 76)).heap.size<=T) (B:w3.heap[T]?=some (.cells (nD d p) 132)) (C:((w.alloc (.cells (dv d p) 25)).alloc (.cells #[ah Tr,ah 30,ah 3] 76)).grownBy w3 none)=>
  have x:=sO ok (h.keep E) r B C;have H:=Ik (A:=A) (aP:=aP) (Tr:=Tr) ok aa Z Y x.2.2.1 x.2.2.2 x.2.1
  (⟨x.2.2.2,H,Il H.keep x.1⟩:T<w3.heap.size/\ky A (gp d p T w3.heap.size) (qO d k aP Tr) (oD T w3.heap.size)/\e2 (gp d p T w3.heap.size) (qO d k aP Tr) (oD T w3.heap.size) _)
 have Q:=al E;have aZ:=@run_makeMap (ao A);let⟨i0,F,ag,ai,aj⟩:=K' (A:=A);have au:=al F;have az:=al ag;have aA:=al ai;have aB:=al aj;clear E hm h F ag ai aj;go_enter (S.f func11),ntmps11;go_wp2_with (first|(go_at_call 29;refine av.out.mono ?_;rintro e w3 ⟨T,rfl,r,B,C⟩;have X:=al (ay.out T w3 r B C);have ar:=al (Q.out.trans C);have ax:=al r;clear B C r)|(go_at_call 30;refine(De X.out.2.1 S' _ X.out.2.2).mono ?_;rintro e f ⟨rfl,R,M⟩)|(go_at_call 31;refine(oT _ _).mono ?_;rintro e w' ⟨rfl,rfl⟩))
 let⟨r,H,aH⟩:=X.out;have aO:=ax.out;have aM:=Q.out.size;have ap:=M.size;have aQ:w.heap.size<=T:=U;have V:w.grownBy (((w3.alloc (.map #[] 0)).alloc (.map #[] 0)).alloc (.cells #[Tj T,ah k,ah aP,ah Tr,.map (some w3.heap.size),.map (some (w3.heap.size+1))] 81)) none:=ar.out.trans (bT.trans (bT.trans bT));have aV:w3.heap.size+3<=f.heap.size:=by simp only[cV]at ap;omega
 have W:w.grownBy f none:=cp.new V M (λi F=>by rcases F with e|e|e<;>(dsimp only at e;omega));have gr:f.grownBy ((f.alloc (.cells (b2 (hj d k) aP Tr S').a 84)).alloc (.cells #[ah (b2 (hj d k) aP Tr S').left,ah (b2 (hj d k) aP Tr S').aP] 63)) none:=bT.trans bT;have ak:lQ (gp d p T w3.heap.size) (qO d k aP Tr) (oD T w3.heap.size) w f.heap.size (f.heap.size+1) S' S' [] (Ts (f.heap.size+1) (([]:Tb dY).length+1) 1) ((f.alloc (.cells (b2 (hj d k) aP Tr S').a 84)).alloc (.cells #[ah (b2 (hj d k) aP Tr S').left,ah (b2 (hj d k) aP Tr S').aP] 63)):=by
  refine⟨R.fF H.keep gr,?_,⟨S6,.inr ⟨_,1,_,S6,bg,jA _ _ _ (by simp only[cV]),bg,kj,S6,S6⟩⟩,W.trans gr,⟨U,by simp only[cV];omega⟩,?_,⟨aP+1,by show aP<=_;omega,S6⟩,ad,T' _⟩
  .rw[dm (by simp only[cV];omega),fM]
  .dsimp only
   omega
 have aC:=al ak;have G:=al H;clear ak gr W V H aH R M aV ap aM aO aQ r;go_loopw [18] (λL wr=>∃pre l g c,L=Ts g (pre.length+1) c/\lQ (gp d p T w3.heap.size) (qO d k aP Tr) (oD T w3.heap.size) w f.heap.size (f.heap.size+1) l S' pre (Ts g (pre.length+1) c) wr) (λL _=>aP+5-Lv L)
 case atStart=>exact⟨[],S',_,_,S6,aC.out⟩
 case round=>
  obtain⟨pre,l,g,aW,rfl,br⟩:=hrel;have am:wr.cell? (S8 f.heap.size 4)=Tn (b2 (hj d k) aP Tr l).next:=aU br.tO;have hle:l<=aP/\pre.length<=l:=br.le;have aJ:f.heap.size+1<=g:=by
   obtain⟨_,⟨h,_⟩|⟨g',bp,cur,h,B,_⟩⟩:=br.own
   .cases h
   .cases h;exact B
  rcases H6 (a7:=hj d k) (Tr:=Tr) (show l<=aP from hle.1)with y|⟨aN,y,aL,aI⟩
  .rw[y]at am
   have I:=al y;have m:=al br;clear y br;go_wp2;go_ret3
   let⟨n,a0,K⟩:=m.out.chain;rw[Cg I.out]at K;refine⟨_,S6,?_,m.out.fY⟩;have ae:=EB m.out.own (show w.heap.size<=f.heap.size+1 by have:=m.out.new;omega);rw[K]at ae;have hlen:pre.length+1=(r' (hj d k) aP Tr S').length:=by rw[<-K];simp
   rw[<-hlen];exact ae
  .rw[y]at am
   have a1:((aN:Int) != -1)=true:=aF;have I:=al y;have m:=al br;clear y br;have aq:=al λ(q:S7) (z:cp (oD T w3.heap.size).X wr q)=>(m.out.cells z:q.heap[f.heap.size]?=some (.cells (b2 (hj d k) aP Tr l).a 84))
   have aw:=al λ(q:S7) (D:e2 (gp d p T w3.heap.size) (qO d k aP Tr) (oD T w3.heap.size) q) (z:cp (oD T w3.heap.size).X wr q)=>m.out.put G.out D z (aN:=aN) (b2 (hj d k) aP Tr aN) S6
   go_wp2_with (first|(go_at_call 30;refine(De G.out aN _ m.out.jq).mono ?_;rintro e q ⟨rfl,D,z⟩;have j:=aq.out q z;have a8:=aU (o:=0) j;have a9:=aU (o:=1) j;have ba:=aU (o:=2) j;have bb:=aU (o:=3) j;have bc:=aU (o:=4) j;have z0:=b3 (o:=0) j;have bd:=b3 (o:=1) j;have bf:=b3 (o:=2) j;have z3:=b3 (o:=3) j;have z4:=b3 (o:=4) j;have J:=al (aw.out q D z);clear j D z)|(at_builtin;refine wpList_append_own_at _ S6 _ _ 37 S6 (f.heap.size+1) 63 i0 (.agg #[ah 0,ah 0]) 2 16 (ao.underlying42 A) au.out az.out aA.out aB.out S6 a6 _ (pre.length+1) _ S6 (j4 J.out.2.2.1 (λg _ aG=>dm aG)) (Ti q.heap.size) 1 1 [ah (b2 (hj d k) aP Tr aN).left,ah (b2 (hj d k) aP Tr aN).aP] S6 S6 (Rq _ _ aF _ _ _) (λu hu=>by simp at hu;rcases hu with rfl|rfl<;>rfl) kj U (by have:=J.out.2.2.2.2;simp only[cV,World.size_setCell];omega) ?_;intro a4 a5 af aK a2 aX))
   obtain⟨g',bp,rfl,aY,_⟩:=EC af U;refine⟨⟨pre++[b2 (hj d k) aP Tr l],aN,g',bp,?_,?_⟩,?_⟩
   .rw[Ug]
    rfl
   .let⟨aD,aR,a3,aS,aT⟩:=J.out
    have gM:=m.out.next (aN:=aN) (g:=g) (g':=g') (bp:=bp) (n:=pre.length+1+1) G.out aL aI I.out aR aS (by simp only[World.size_setCell];exact aT) aD (dU _ _ none) aK aJ af S6;rw[Ug];exact gM
   .have aE:=m.out.le
    show aP+5-(pre.length+1+1)<aP+5-(pre.length+1);have:pre.length<=l:=aE.2;omega
def gi(n:Int):S9:=ah n
abbrev sB(d:h1)(P:jL)(m:Nat)(v:S9):Te:=#[TW P.nN P.sJ d.n P.qN,v,.map (some m)]
structure ih(d:h1)(P:jL)(L m B:Nat)(v:S9)(pre:TX)(w:S7):Prop where
 blk:w.heap[L]?=some (.cells (sB d P m v) 179)
 rows:∀i,i<d.n->w.cell? (S8 P.nN (P.sJ+i))=some (TW (P.o7 i) (P.xl i) (d.len i) (P.ED i))
 el:∀i,i<d.n->gn w (P.o7 i) (P.xl i) (d.len i) (d.num i)
 mp:∃M,lu w m M/\tx d M
 own:w.ownsRow B 3 1 v pre.length (pre.map gi)
 dD:B<=w.heap.size
structure ow(d:h1)(P:jL)(L m y B:Nat):Prop where
 q5:L<B
 gJ:m<B
 sz:y<B
 sx:P.nN<B
 Dq:∀i,i<d.n->P.o7 i<B
 BD:L≠m
 Ho:L≠P.nN
 Hn:∀i,i<d.n->L≠P.o7 i
 yh:y≠L
 ps:y≠m
 Sx:y≠P.nN
 Sw:∀i,i<d.n->y≠P.o7 i
def ih.ls{d:h1}{P:jL}{m:Nat}{v:S9}{pre:TX}(h:ih d P L m B v pre w):lv w L m d P:=
 ⟨(aU h.blk).trans rfl,(aU h.blk).trans rfl,h.rows,h.el,h.mp⟩
def ih.keep{d:h1}{P:jL}{m y:Nat}{v:S9}{pre:TX}{row:TN}(h:ih d P L m B v pre w)(ok:ow d P L m y B)(g:w.grownBy w' row)(z:∀r,row=some r->r=y\/(B<=r/\some r≠v.ownBlock)):ih d P L m B v pre w':=by
 let⟨M,D,G⟩:=h.mp;have l:∀b,b<B->b≠y->some b≠row:=λb o n e=>by
  rcases z b e.symm with j|⟨j,_⟩
  .exact n j
  .omega
 refine⟨(g.block _ (bu h.blk) (l _ ok.q5 ok.yh.symm)).trans h.blk,λi f=>g.cell (h.rows i f) (l _ ok.sx ok.Sx.symm),λi f=>(h.el i f).keep g (l _ (ok.Dq i f) (ok.Sw i f).symm),⟨M,D.keep g (l _ ok.gJ ok.ps.symm),G⟩,?_,cL h.dD g.size⟩;obtain⟨u,⟨rfl,F⟩|⟨b,c,cur,rfl,E,q,o,n,j,C⟩⟩:=h.own
 .exact⟨u,.inl ⟨S6,F⟩⟩
 .refine⟨u,.inr ⟨b,c,cur,S6,E,(g.block b (bu q) (λe=>?_)).trans q,o,n,j,C⟩⟩
  rcases z b e.symm with p|⟨_,p⟩
  .have:=ok.sz;omega
  .exact p S6
def ih.fF{d:h1}{P:jL}{m y:Nat}{v:S9}{pre:TX}(h:ih d P L m B v pre w)(ok:ow d P L m y B)(g:w.grownBy w' none):ih d P L m B v pre w':=h.keep ok g aF
def ih.known{d:h1}{P:jL}{m y:Nat}{v:S9}{pre:TX}(h:ih d P L m B v pre w)(ok:ow d P L m y B)(g:w.grownBy w' (some m))(l:lv w' L m d P):ih d P L m B v pre w':=by
 have c:∀b,b≠m->some b≠some m:=λb h e=>h (bD e)
 refine⟨(g.block _ (bu h.blk) (c _ ok.BD)).trans h.blk,l.rows,l.el,l.mp,?_,cL h.dD g.size⟩;exact j4 h.own λb i f=>g.block b f (c _ (by have:=ok.gJ;omega))
def ih.Cq{d:h1}{P:jL}{m y:Nat}{v n:S9}{pre l:TX}{o:S7}{b:TN}(h:ih d P L m B v pre w)(ok:ow d P L m y B)(g:w.grownBy o b)(z:∀r,b=some r->B<=r)(e:w'.heap[L]?=some (.cells (sB d P m n) 179))(k:o.grownBy w' (some L))(own:o.ownsRow B 3 1 n l.length (l.map gi)):ih d P L m B n l w':=by
 let⟨M,u,C⟩:=h.mp;have j:∀r,r<B->some r≠b:=λr p e=>by have:=z r e.symm;omega
 have f:∀r,L≠r->some r≠some L:=λr h e=>h (bD e).symm
 refine⟨e,λi c=>k.cell (g.cell (h.rows i c) (j _ ok.sx)) (f _ ok.Ho),λi c=>((h.el i c).keep g (j _ (ok.Dq i c))).keep k (f _ (ok.Hn i c)),⟨M,(u.keep g (j _ ok.gJ)).keep k (f _ ok.BD),C⟩,j4 own λr p q=>k.block r q (f _ (by have:=ok.q5;omega)),cL h.dD (cL g.size k.size)⟩
def MK[S:Std A][eY:oA A](L m b g n cap:Nat)(d:h1)(P:jL)(p:n<1000)(u:FrameMode)(w:S7)(j:w.cell? (Ti b)=some (Tj L))(c:w.heap[L]?=some (.cells (sB d P m (Ts g (n+1) cap)) 179))(l:n+1<=cap):
 CallsD (ao A) 94 #[Tj b] u w λe aC w'=>aC=u/\(e=.returned (.tuple #[])/\(w'.heap[L]?=some (.cells (sB d P m (Ts g n cap)) 179)/\w.grownBy w' (some L))):=by
 have i:w.cell? (S8 L 1)=some (Ts g (n+1) cap):=aU c;have q:=b3 (o:=1) c;have E:=cU (o:=1) (v:=Ts g n cap) c;have G:w.grownBy (w.setCell (S8 L 1) (Ts g n cap)) (some L):=e7 (e6 _ _);have f:=al E;have h:=al G;clear E G c;go_enter_d (S.f func94),ntmps94
 go_wp2;go_region
 all_goals (go_end0;exact⟨S6,f.out,gv h.out⟩)
def jK(L m y:Nat)(g:TN)(i:Nat):Prop:=i=L\/i=m\/i=y\/some i=g
def kh(g g':TN)(n:Nat):Prop:=g'=g\/∃r,g'=some r/\n<=r
def kh.trans{g c:TN}(h:kh g g' n)(q:kh g' c k)(d:n<=k):kh g c n:=by
 rcases q with rfl|⟨r,rfl,f⟩
 .exact h
 .exact .inr ⟨r,S6,U⟩
def jK.step{m y:Nat}{g:TN}{a b c:S7}(h:cp (jK L m y g) a b)(k:cp (jK L m y g') b c)(q:kh g g' a.heap.size):cp (jK L m y g) a c:=by
 refine⟨k.os.trans h.os,k.tape.trans h.tape,k.output.trans h.output,cL h.size k.size,λi f d=>?_⟩;rw[k.block i (gu f h.size) (λj=>?_),h.block i f d];rcases j with e|e|e|e
 .exact d (.inl e)
 .exact d (.inr (.inl e))
 .exact d (.inr (.inr (.inl e)))
 .rcases q with rfl|⟨r,rfl,l⟩
  .exact d (.inr (.inr (.inr e)))
  .have:=bD e;omega
def vs(y B:Nat)(bn:TN->S7->Prop):Prop:=∀g w w' row,bn g w->w.grownBy w' row->(∀r,row=some r->r≠y/\(r<B\/some r=g))->bn g w'/\∀g',w.heap.size<=g'->bn (some g') w'
def wL:∃i,(ao A).info? 3=some i/\i.zero=Tn 0/\i.size=1/\i.bytes=8:=⟨_,S6,S6,S6,S6⟩
def M6{g cap:Nat}{pre:TX}{x:Int}(h:w.ownsRow B 3 1 (Ts g (n+1) cap) (n+1) ((pre++[x]).map gi))(d:pre.length=n):n+1<=cap/\w.ownsRow B 3 1 (Ts g n cap) n (pre.map gi):=by
 obtain⟨q,⟨h,_⟩|⟨b,c,cur,i,o,p,j,l,m,f⟩⟩:=h
 .cases h
 .cases i
  refine⟨j,by simpa using d,.inr ⟨_,_,cur,S6,o,p,U,l,m,?_⟩⟩;rw[Nat.mul_one]at f ⊢;have:(cur.toList.take (n+1)).take n=((pre++[x]).map gi).take n:=by rw[f]
  rw[List.take_take,Nat.min_eq_left U,List.map_append,List.take_append_of_le_length (by simp[d])]at this;rw[this,List.take_of_length_le (by simp[d])]
def M8{v:S9}(h:w.ownsRow B 3 1 v (n+1) xs):∃g cap,v=Ts g (n+1) cap/\B<=g/\g<w.heap.size:=by
 obtain⟨j,⟨_,h⟩|⟨b,c,cur,d,f,i,_⟩⟩:=h
 .omega
 .exact⟨b,c,d,f,bu i⟩
def lM{v:S9}(h:w.ownsRow B 3 1 v n xs)(r:Nat)(e:v.ownBlock=some r):B<=r/\r<w.heap.size:=by
 obtain⟨g,⟨rfl,_⟩|⟨b,c,cur,rfl,d,f,_⟩⟩:=h
 .cases e
 .cases e;exact⟨d,bu f⟩
def pL(w:S7){a:TD}{v:S9}(h:b≠a.block){o:Nat}:(w.setCell a v).cell? (S8 b o)=w.cell? (S8 b o):=World.cell?_of_block (e1 h)
def DD(t:Tg)(x:Operand):Op:=.load t x
theorem wV(t:Tg)(x:Operand):Op.load t x=DD t x:=S6
def wW(t:Tg)(x:Operand):DD t x=Op.load t x:=S6
def G5[S:Std A][eY:oA A](d:h1)(P:jL)(L m y B:Nat)(ok:ow d P L m y B)(x:Int)(v:S9)(pre:TX)(hlen:pre.length<=100)(w:S7)(h:ih d P L m B v pre w)(bn C:TN->S7->Prop)(br:vs y B bn)(aQ:vs y B C)(i0:bn v.ownBlock w)(ae:Te)(r:Ta)(Z:∀v1 q,ih d P L m B v1 (pre++[x]) q->bn v1.ownBlock q->kh v.ownBlock v1.ownBlock w.heap.size->cp (jK L m y v.ownBlock) w q->Calls (ao A) 73 ae q λe w2=>∃v2,e=.returned (.bool r)/\ih d P L m B v2 (pre++[x]) w2/\C v2.ownBlock w2/\kh v1.ownBlock v2.ownBlock q.heap.size/\cp (jK L m y v1.ownBlock) q w2):
 Calls (ao A) 72 #[Tj L,ah x,.func (.func 73) #[] ae] w λe w'=>∃R,e=.returned (.bool r)/\ih d P L m B R pre w'/\C R.ownBlock w'/\kh v.ownBlock R.ownBlock w.heap.size/\cp (jK L m y v.ownBlock) w w':=by
 let⟨aY,G,ak,am,ap⟩:=wL (A:=A);have aD:=al G;have aG:=al ak;have aH:=al am;have aI:=al ap;have bk:=h.dD;have bd:=ok.q5;obtain⟨c,u⟩:∃W,w.alloc (.cells #[.pointer (some ⟨L,0,none⟩)] 135)=W:=⟨_,S6⟩
 have J:w.grownBy c none:=by rw[<-u];exact bT
 have s1:c.heap.size=w.heap.size+1:=by rw[<-u];simp
 have aL:c.cell? (Ti w.heap.size)=some (Tj L):=by rw[<-u];exact dR S6
 have F:=h.fF ok J;have bb:c.cell? (S8 L 1)=some v:=aU F.blk;have a3:L<c.heap.size:=U;have a4:w.heap.size<c.heap.size:=U;have a5:w.heap.size≠L:=U;have z:=al F;have ek:=al h;have Y:=al J;have aE:=al u;have aB:=al Z;have az:=al λ(l cap:Nat) (n:S7) (p:((c.alloc (.cells #[ah x] 3)).drew).grownBy n v.ownBlock)=>(⟨(p.block L (by show L<(c.alloc _).heap.size;simp;omega) (λe=>by have:=lM h.own _ e.symm;omega)).trans ((dm a3).trans F.blk),Tf⟩:n.heap[L]?=some (.cells (sB d P m v) 179)/\True)
 clear h F J u G ak am ap s1 Z;go_enter_defers eY.f91,ntmps72
 go_upto_region 1 with fail
 rw[aE.out];simp only[wV 22];have bi:=wW;go_region_held3 (λw'=>w'.cell? (Ti w.heap.size)=some (Tj L))
  (first|exact x8|exact x9|go_keep)
  (first|((refine step_append_lies _ (by rfl) _ _ _ (by rfl) B 3 aY (ah 0) 1 8 (ao.underlying22 A) aD.out aG.out aH.out aI.out S6 U v pre.length (pre.map gi) (by rfl) (j4 z.out.own (λg _ aO=>dm aO)) (Ti c.heap.size) 1 1 [ah x] (by rfl) (by rfl) (World.news_of_block (cs:=#[ah x]) (t:=3) (fr:=(0,0)) (heap_alloc_new c _)) (by simp[Value.oneCell']) U kj U cH (c.heap.size+1) aF ?_;intro l cap n aj p ai bj;have x8:n.cell? ⟨w.heap.size,0,none⟩=some (.pointer (some ⟨L,0,none⟩)):=p.cell (a:=(Ti w.heap.size)) (show(c.alloc (.cells #[ah x] 3)).cell? (Ti w.heap.size)=_ from(hD _ _ _ a4).trans aL) (λe=>by have:=lM ek.out.own w.heap.size e.symm;omega);let⟨D,bl⟩:=az.out l cap n p;have x9:(n.setCell (S8 L 1) (Ts l (pre.length+1) cap)).cell? (Ti w.heap.size)=some (Tj L):=(pL n a5).trans x8;have q1:=aU (o:=1) D;have bm:=b3 (o:=1) D;have aK:=al aj;have GW:=al p;have AT:=al ai;have ay:=al D;clear aj p ai D)))
 all_goals (
  have gr:c.grownBy n v.ownBlock:=⟨GW.out.os,GW.out.tape,GW.out.output,cL (by show c.heap.size<=(c.alloc (.cells #[ah x] 3)).heap.size;simp) GW.out.size,λi G aV=>(GW.out.block i (by show i<(c.alloc (.cells #[ah x] 3)).heap.size;simp;omega) aV).trans (dm G)⟩
  have af:(n.setCell (S8 L 1) (Ts l (pre.length+1) cap)).heap[L]?=some (.cells (sB d P m (Ts l (pre.length+1) cap)) 179):=cU ay.out;have H:n.grownBy (n.setCell (S8 L 1) (Ts l (pre.length+1) cap)) (some L):=e7 (e6 _ _);have av:n.ownsRow B 3 1 (Ts l (pre.length+1) cap) (pre++[x]).length ((pre++[x]).map gi):=by rw[Ug,List.map_append];exact aK.out
  have ag:=z.out.Cq ok gr (λr e=>(lM z.out.own r e).1) af H av;have aw:kh v.ownBlock (some l) w.heap.size:=by
   rcases AT.out with e|e
   .exact .inl e.symm
   .exact .inr ⟨l,S6,U⟩
  have X:cp (jK L m y v.ownBlock) w (n.setCell (S8 L 1) (Ts l (pre.length+1) cap)):=((cp.jF Y.out).step gr (λr e=>.inl (.inr (.inr (.inr e.symm))))).step H (λr e=>.inl (.inl (by cases e;rfl)));have aq:bn (some l) (n.setCell (S8 L 1) (Ts l (pre.length+1) cap)):=by
   have a1:=(br _ _ _ _ i0 Y.out aF).1;have aW:∀r,v.ownBlock=some r->r≠y/\(r<B\/some r=v.ownBlock):=λr e=>by have:=(lM z.out.own r e).1;have:=ok.sz;exact⟨U,.inr e.symm⟩
   have a2:bn (some l) n:=by
    have j:=br _ _ _ _ a1 gr aW;rcases AT.out with e|e
    .rw[e]at j;exact j.1
    .exact j.2 l U
   exact(br _ _ _ _ a2 H (λr e=>by cases e;exact⟨ok.yh.symm,.inl ok.q5⟩)).1
  generalize n.setCell (S8 L 1) (Ts l (pre.length+1) cap)=ba at *;have a8:=X.size;have aA:=al ag;have I:=al aw;have aa:=al X;have aJ:=al aq;clear ag aw X aq gr af H av;go_wp2_with (go_at_call 73;refine Calls.mono (aB.out _ _ aA.out aJ.out I.out aa.out) ?_;rintro e T ⟨v2,rfl,M,aZ,a6,ax⟩)
  have bf:=ok.gJ;have bg:=ok.sz;have aM:T.cell? (Ti w.heap.size)=some (Tj L):=ax.cell x9 (λaX=>by
   rcases aX with e|e|e|e
   .dsimp only at e;omega
   .dsimp only at e;omega
   .dsimp only at e;omega
   .have e:=bD e
    dsimp only at e;rcases AT.out with e'|e'
    .have:=lM ek.out.own l e'
     omega
    .omega)
  have Q:=M.own;have aS:(pre++[x]).length=pre.length+1:=aF;rw[aS]at Q;obtain⟨E,ad,rfl,bc,bh⟩:=M8 Q;let⟨aR,aT⟩:=M6 Q S6;refine leaves_cons (f:=94) (args:=#[Tj w.heap.size]) aF (by simp[go_sem]) ?_;refine(MK L m w.heap.size E pre.length ad d P U .returning T aM M.blk aR).mono ?_;rintro e aC V ⟨rfl,rfl,aN,K⟩;have aP:ih d P L m B (Ts E pre.length ad) pre V:=M.Cq ok (e6 T none) aF aN K aT;have a0:C (some E) V:=(aQ _ _ _ _ aZ K (λr e=>by cases e;exact⟨ok.yh.symm,.inl ok.q5⟩)).1;have a7:kh v.ownBlock (some E) w.heap.size:=I.out.trans a6 a8;have a9:cp (jK L m y v.ownBlock) w V:=(jK.step aa.out ax I.out).step K (λr e=>.inl (.inl (by cases e;rfl)));refine⟨_,results_tmp S6 _ _ _,?_⟩;exact⟨_,S6,aP,a0,a7,a9⟩)
end
section
variable{A:TJ}
structure ts(A:TJ)(ai:Type)(hM:Te)(y B:Nat) where
 Inv:TN->ai->S7->Prop
 stop:ai->TX->Ta
 next:ai->TX->ai
 keep:∀st,vs y B λg w=>Inv g st w
 call:∀st w v pre,Inv v.ownBlock st w->pre.length<=100->w.ownsRow B 3 1 v pre.length (pre.map gi)->Calls (ao A) 51 (#[v]++hM) w λe w'=>e=.returned (.bool (stop st pre))/\Inv v.ownBlock (next st pre) w'/\w.grownBy w' (some y)
section
variable{ai:Type}(stop:ai->TX->Ta)(next:ai->TX->ai)
def kF(go:Nat->TX->ai->Ta×ai)(ways:T2)(num:Ty)(p:Nat)(pre:TX)(st:ai):Nat->Ta×ai
 | 0=>(false,st)
 |j+1=>if (kF go ways num p pre st j).1 then kF go ways num p pre st j else
  if num j<=p/\ways (p-(num j).toNat)≠0 then go (p-(num j).toNat) (pre++[num j]) (kF go ways num p pre st j).2 else kF go ways num p pre st j
def na(d:h1):Nat->Nat->TX->ai->Ta×ai
 | 0,_,pre,st=>(stop st pre,next st pre)
 |r+1,p,pre,st=>kF (na d r) (λq=>hg d r q) (d.num (d.n-(r+1))) p pre st (d.len (d.n-(r+1)))
end
def CM{ai:Type}{go:Nat->TX->ai->Ta×ai}{pre:TX}{st c:ai}(h:kF go ways num p pre st j=(false,c))(d:¬(num j<=p/\ways (p-(num j).toNat)≠0)):kF go ways num p pre st (j+1)=(false,c):=by rw[kF,h,Tm aF,Tm d]
def Jo{ai:Type}{go:Nat->TX->ai->Ta×ai}{pre:TX}{st c:ai}(h:kF go ways num p pre st j=(false,c))(d:num j<=p/\ways (p-(num j).toNat)≠0):kF go ways num p pre st (j+1)=go (p-(num j).toNat) (pre++[num j]) c:=by rw[kF,h,Tm aF,Tq d]
def CN{ai:Type}{go:Nat->TX->ai->Ta×ai}{ways:T2}{num:Ty}{p:Nat}{pre:TX}{st c:ai}{j:Nat}(h:kF go ways num p pre st j=(true,c)):∀k,kF go ways num p pre st (j+k)=(true,c)
 | 0=>h
 |k+1=>by have:=CN h k;rw[<-Ul,kF,this,Tq S6]
def vn(A:TJ){ai:Type}{f:Te}{y:Nat}(E:ts A ai f y B)(d:h1)(P:jL)(L m:Nat)(r:Nat):Prop:=
 ∀(a p:Nat) (pre:TX) (st:ai) (v:S9) (w:S7),a+r=d.n->p<=999->pre.length+r<=10->ih d P L m B v pre w->E.Inv v.ownBlock st w->
  Calls (ao A) 50 #[Tj L,.agg #[ah a,ah p],.func (.func 51) #[] f] w λe w'=>∃c,e=.returned (.bool (na E.stop E.next d r p pre st).1)/\ih d P L m B c pre w'/\E.Inv c.ownBlock (na E.stop E.next d r p pre st).2 w'/\kh v.ownBlock c.ownBlock w.heap.size/\cp (jK L m y v.ownBlock) w w'
def Jm[S:Std A][eY:oA A](cG c d L a p:Nat)(f:Te)(w:S7)(R:Ending->S7->Prop)(i:w.cell? (Ti cG)=some (Tj L))(l:w.cell? (Ti c)=Tn a)(m:w.cell? (S8 c 1)=Tn p)(j:w.cell? (Ti d)=some (.func (.func 51) #[] f))(h:Calls (ao A) 50 #[Tj L,.agg #[ah a,ah p],.func (.func 51) #[] f] w λe w'=>∃b,e=.returned (.bool b)/\R (.returned (.bool b)) w'):Calls (ao A) 73 #[Tj cG,Tj c,Tj d] w R:=by
 have H:=al h;clear h;go_enter (S.f func73),ntmps73;go_wp2_with (go_at_call 50;refine H.out.mono ?_;rintro e w2 ⟨b,rfl,g⟩)
 exact g
def Js[S:Std A][eY:oA A]{ai:Type}{g:Te}{y:Nat}(E:ts A ai g y B)(d:h1)(P:jL)(L m:Nat)(ok:ow d P L m y B)(ak:d.ok):vn A E d P L m 0:=by
 intro a p pre st v w am hp hlen h l;have ao:=h.dD;obtain⟨c,f⟩:∃W,((w.alloc (.cells #[.pointer (some ⟨L,0,none⟩)] 135)).alloc (.cells #[ah a,ah p] 139)).alloc (.cells #[.func (.func 51) #[] g] 141)=W:=⟨_,S6⟩
 have o:w.grownBy c none:=by rw[<-f];exact(bT.trans bT).trans bT
 have z:c.cell? (Ti w.heap.size)=some (Tj L):=by rw[<-f];exact(hD _ _ _ (by simp only[cV];omega)).trans ((hD _ _ _ (by simp only[cV];omega)).trans (dR S6))
 have T:c.cell? (Ti (w.heap.size+1))=Tn a:=by rw[<-f];exact(hD _ _ _ (by simp only[cV];omega)).trans (dR aF)
 have C:c.cell? (Ti (w.heap.size+1+1))=some (.func (.func 51) #[] g):=by rw[<-f];exact dR aF
 have j:=h.fF ok o;have bx:c.cell? (Ti L)=some (TW P.nN P.sJ d.n P.qN):=aU j.blk;have D:c.cell? (S8 L 1)=some v:=aU j.blk;have hd:((a:Int) == (d.n:Int))=true:=by rw[beq_iff_eq];omega
 have H:=al j;have q:=al o;have K:=al f;have J:=al l;have I:=al λW (l:E.Inv v.ownBlock st W) (Y:W.ownsRow B 3 1 v pre.length (pre.map gi))=>E.call st W v pre l U Y
 clear h j o f l;go_enter (S.f func50),ntmps50;go_upto_region 1 with fail
 rw[K.out];go_quiet (fail);have i2:E.Inv v.ownBlock st (c.drewN nq).drew:=(E.keep st _ _ _ _ J.out (q.out.trans ((hl c nq).trans (gv (e6 _ _)))) aF).1;have F:=(H.out.fF ok (hl c nq)).fF ok (gv (e6 _ _));have G:cp (jK L m y v.ownBlock) w (c.drewN nq).drew:=(cp.jF q.out).step ((hl c nq).trans (gv (e6 _ _))) aF;have R:(c.drewN nq).cell? (Ti w.heap.size)=some (Tj L):=z;have V:(c.drewN nq).cell? (Ti (w.heap.size+1+1))=some (.func (.func 51) #[] g):=C;have X:(c.drewN nq).cell? (S8 L 1)=some v:=D;clear z T C bx D;have Z:some w.heap.size≠some y:=by have:=ok.sz;simp;omega
 have aa:some (w.heap.size+1+1)≠some y:=by have:=ok.sz;simp;omega
 have ad:some L≠some y:=by have:=ok.yh;simp;omega
 generalize c.drewN nq=n at *;have u:=al F;have Q:=al G;have M:=al i2;clear F G i2;go_wp2;go_region_held3 (λw'=>w'.cell? (Ti w.heap.size)=some (Tj L)/\w'.cell? (Ti (w.heap.size+1+1))=some (.func (.func 51) #[] g)/\w'.cell? (S8 L 1)=some v)
  (first|exact⟨af,ag,aj⟩|go_keep)
  (first|(go_at_call 51;refine(I.out _ M.out u.out.own).mono ?_;rintro e w3 ⟨rfl,ae,i⟩;have af:=i.cell (w:=n.drew) R Z;have ag:=i.cell (w:=n.drew) V aa;have aj:=i.cell (w:=n.drew) X ad))
 all_goals (
  go_wp2;go_ret;exact⟨v,S6,u.out.keep ok i (λr e=>.inl (by cases e;rfl)),ae,.inl S6,Q.out.step i (λr e=>.inl (.inr (.inr (.inl (by cases e;rfl)))))⟩)
end
end Go.aO
