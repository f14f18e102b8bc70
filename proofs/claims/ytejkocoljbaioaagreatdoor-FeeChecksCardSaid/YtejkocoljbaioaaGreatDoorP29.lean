/- A part. -/
import Derived.Test.YtejkocoljbaioaaGreatDoorP28
import Derived.Deep.AppendLies
import Derived.Deep.RegionHeld3
import Derived.Deep.Cut
import Derived.Deep.CutRange
import Derived.BigQuiet
set_option maxHeartbeats 8000000
set_option maxRecDepth 100000
set_option linter.all false
namespace Go.aO
open Go.Proofs Go.RowKit
variable{N:Int->Option Value}{xs:List Value}{B L T aN aP b base carry e j k n o p size:Nat}{num:Nat->Int}{ways:Nat->Nat}{a7:Nat->Nat->Int}{df:Nat->dY}{g':Option Nat}{aL w w':World}{f:World->Prop}{c:gE}{D:gd}
section
variable{A:Array Func}
structure mg(bf:World->Prop)(D:gd)(P:gl)(b:Nat)(c:gE)(aL w:World):Prop where
 jq:e2 bf D P w
 ch:w.heap[b]?=some (.cells c.a 182)
 z:w.heap[aL.heap.size]?=some (.cells iK.a 146)
 fY:cp P.X aL w
 lt:aL.heap.size+1<=b
 old:P.T<aL.heap.size/\P.B<=aL.heap.size/\P.C<aL.heap.size/\P.fm<aL.heap.size/\P.gJ<aL.heap.size
def mg.fF{d:World->Prop}{P:gl}(h:mg d D P b c aL w)(H:ky A d D P)(g:w.grownBy w' none):mg d D P b c aL w':=
 ⟨h.jq.fF H.keep g,(g.block _ (bu h.ch) aF).trans h.ch,(g.block _ (bu h.z) aF).trans h.z,h.fY.step g aF,h.lt,h.old⟩
def mg.oV{P:gl}(h:mg f D P b c aL w)(k:e2 f D P w')(g:cp P.X w w'):mg f D P b c aL w':=by
 have j:=h.lt;have l:=h.old;have d:∀i,aL.heap.size<=i->¬P.X i:=λi o d=>by rcases d with rfl|rfl|rfl<;>omega
 exact⟨k,(g.block _ (bu h.ch) (d _ U)).trans h.ch,(g.block _ (bu h.z) (d _ U)).trans h.z,h.fY.trans g,h.lt,h.old⟩
def mg.put{d:World->Prop}{P:gl}{bp:gE}(h:mg d D P b c aL w)(H:ky A d D P)(e:w'.heap[b]?=some (.cells bp.a 182))(g:w.grownBy w' (some b)):mg d D P b bp aL w':=by
 have l:=h.lt;have o:=h.old;have j:∀i,i≠b->some i≠some b:=λi f e=>f (bD e)
 exact⟨h.jq.keep H.keep g (λr e=>by cases e;omega),e,(g.block _ (bu h.z) (j _ U)).trans h.z,h.fY.step g (λr e=>.inr (by cases e;omega)),h.lt,h.old⟩
def KS[S:Std A][eY:jx A]{l:World->Prop}{P:gl}(H:ky A l D P)(left:Nat)(w:World)(h:e2 l D P w)(E:j' w P.gJ N)(j3:qy D N){v:Value}(u:N left=some v):
 Calls (ao A) 68 #[.pointer (some ⟨P.C,0,none⟩),ah left] w λe w'=>e=.returned (.agg (D.S9 left).a)/\e2 l D P w'/\cp P.X w w':=by
 obtain⟨d,g⟩:∃W,w.alloc (.cells #[ah 0,ah 0,ah 0,ah 0,ah 0] 146)=W:=⟨_,rfl⟩
 have j:w.grownBy d none:=by rw[<-g];exact bT
 have s1:d.heap.size=w.heap.size+1:=by rw[<-g];simp
 have f:d.heap[w.heap.size]?=some (.cells iK.a 146):=by rw[<-g,fM];rfl
 have r:=h.fF H.keep j;have K:=al (h.fv H);have M:d.cell? ⟨P.C,5,none⟩=some (.map (some P.gJ)):=aU r.c;have R:w.heap.size<d.heap.size:=U;obtain rfl:=j3 left v u;have Q:Sem.run (ao A) (Instr.lookup 142 (.map (some P.gJ)) (ah left) true) d=.ok (.tuple #[.agg (D.S9 left).a,.bool true]) d:=by have:=wT (ao.underlying120 A) rfl yi (E.keep j aF) left true;rw[u]at this;exact this
 have T:d.cell? ⟨w.heap.size,0,none⟩=some (ah 0):=aU f;have V:d.cell? ⟨w.heap.size,1,none⟩=some (ah 0):=aU f;have Y:d.cell? ⟨w.heap.size,2,none⟩=some (ah 0):=aU f;have Z:d.cell? ⟨w.heap.size,3,none⟩=some (ah 0):=aU f;have aa:d.cell? ⟨w.heap.size,4,none⟩=some (ah 0):=aU f;have z0:=b3 (o:=0) f;have ad:=b3 (o:=1) f;have ae:=b3 (o:=2) f;have z3:=b3 (o:=3) f;have z4:=b3 (o:=4) f;have F:=al f;have I:=al r;have G:=al j;have B:=al H;have J:=al g;clear h j r j3 H s1 f E u g;go_enter (S.f Tryz.func68),Tryz.ntmps68;go_upto_region 1 with fail
 rw[J.out];go_wp2;have LT:=K.out;obtain⟨i,p,L⟩:=xq (w:=w) (b:=w.heap.size) (W:=d) (c:=iK.a) (D.S9 left) rfl F.out bg (X:=P.X) (cp.jF G.out);have z:=I.out.keep B.out.keep L (λb e=>by cases e;omega);revert i p z;generalize ((((d.setCell ⟨w.heap.size,0,none⟩ (ah (D.S9 left).cost)).setCell ⟨w.heap.size,1,none⟩ (ah (D.S9 left).eW)).setCell ⟨w.heap.size,2,none⟩ (ah (D.S9 left).left)).setCell ⟨w.heap.size,3,none⟩ (ah (D.S9 left).aP)).setCell ⟨w.heap.size,4,none⟩ (ah (D.S9 left).next)=C;intro i p z;have q:C.grownBy (C.alloc (.cells (D.S9 left).a 146)) none:=bT;refine bodyPost_ret (results_cell_row rfl _ _ w.heap.size 146 (D.S9 left).a (0,0) _ rfl ((q.block _ (bu i) aF).trans i) (ao.underlying124 A) rfl xI) rfl ?_;exact⟨rfl,z.fF B.out.keep q,p.trans (cp.jF q)⟩
def KT[S:Std A][eY:jx A]{u:World->Prop}{P:gl}(H:ky A u D P)(left:Nat)(aw:∀l,left<l->l<=D.e->rP A u D P l)(w:World)(h:e2 u D P w)(ar:j' w P.gJ N)(j3:qy D N)(ay:N left=none):
 Calls (ao A) 68 #[.pointer (some ⟨P.C,0,none⟩),ah left] w λe w'=>e=.returned (.agg (D.S9 left).a)/\e2 u D P w'/\cp P.X w w':=by
 obtain⟨p,F⟩:∃W,w.alloc (.cells #[ah 0,ah 0,ah 0,ah 0,ah 0] 146)=W:=⟨_,rfl⟩
 obtain⟨d,G⟩:∃W,p.alloc (.cells #[ah 0,ah 0,ah 0,ah 0,ah 0] 146)=W:=⟨_,rfl⟩
 obtain⟨J,I⟩:∃W,d.alloc (.cells #[.func (.func 82) #[] #[],ah 0,ah 0,ah 0,ah 0,ah 0,.bool false] 182)=W:=⟨_,rfl⟩
 have K:w.grownBy p none:=by rw[<-F];exact bT
 have am:w.grownBy d none:=by rw[<-G];exact K.trans bT
 have ae:w.grownBy J none:=by rw[<-I];exact am.trans bT
 have ak:p.grownBy J none:=by rw[<-I,<-G];exact bT.trans bT
 have s1:p.heap.size=w.heap.size+1:=by rw[<-F];simp
 have s2:d.heap.size=w.heap.size+2:=by rw[<-G,cV,s1]
 have Z:p.heap[w.heap.size]?=some (.cells iK.a 146):=by rw[<-F,fM];rfl
 have cG:J.heap[d.heap.size]?=some (.cells lT.a 182):=by rw[<-I,jA _ _ _ rfl];rfl
 have fv:=h.fv H;have aM:=H.ok.T;have az:mg u D P d.heap.size lT w J:=⟨h.fF H.keep ae,cG,(ak.block _ (bu Z) aF).trans Z,cp.jF ae,U,U⟩
 have aZ:p.cell? ⟨P.C,5,none⟩=some (.map (some P.gJ)):=aU (h.fF H.keep K).c;have a2:Sem.run (ao A) (Instr.lookup 142 (.map (some P.gJ)) (ah left) true) p=.ok (.tuple #[.agg #[ah 0,ah 0,ah 0,ah 0,ah 0],.bool false]) p:=by have:=wT (ao.underlying120 A) rfl yi (ar.keep K aF) left true;rw[ay]at this;exact this
 have aI:=al az;have q:=al H;have aE:=al F;have aG:=al G;have aH:=al I;have aD:=al λc x w=>Cp (A:=A) d.heap.size c x w
 have aC:=al λaP (aV:left<=aP) (aR:aP<=D.e) w h=>HX (A:=A) H left aP aV aR aw w h
 clear h K am ae ak s1 s2 Z cG j3 H ar ay F G I az fv aM aw;go_enter (S.f Tryz.func68),Tryz.ntmps68;go_upto_region 1 with fail
 rw[aE.out];go_upto_region 4 with fail
 rw[aG.out];go_upto_region 5 with fail
 rw[aH.out];go_wp2;obtain⟨cnt,au⟩:∃n,n=D.e+1-left:=⟨_,rfl⟩
 have Y:=al au;clear au;go_loopw [9] (λi wr=>∃h:Nat,i=ah h/\(left<=h/\h<=left+cnt)/\mg u D P d.heap.size (hc D.a7 D.e D.carry D.S9 left (h-left)) w wr) (λi _=>left+cnt+1-(numOf i))
 case atStart=>exact⟨left,rfl,⟨bg,U⟩,by rw[Nat.sub_self];exact aI.out⟩
 case round=>
  obtain⟨h,rfl,aS,br⟩:=hrel;have a4:wr.cell? ⟨P.C,2,none⟩=some (ah D.e):=aU br.jq.c;have a1:=q.out.e;have E:=al br;clear br;by_cases a3:h<left+cnt
  .have aN:=Y.out
   have aT:h<=D.e:=U;clear aN;have B:=aC.out h aS.1 aT wr E.out.jq;cases C:(D.S' left h).some
   .rw[C]at B
    have T:=al (show hc D.a7 D.e D.carry D.S9 left (h+1-left)=hc D.a7 D.e D.carry D.S9 left (h-left) by rw[show h+1-left=(h-left)+1 by omega];exact Dd (by rw[show left+(h-left)=h by omega];exact C))
    have V:=al B;clear B C;go_wp2_with (go_at_call 84;refine V.out.mono ?_;rintro e ai ⟨rfl,M,L⟩)
    have R:=(E.out.oV M L).fF q.out (dU ai (.cells (D.S' left h).cu.a 146) none);go_roundw
    case rel=>exact⟨h+1,by go_num,U,by rw[T.out];exact R⟩
    case measure=>simp[numOf];omega
   .rw[C]at B
    have T:=al (show hc D.a7 D.e D.carry D.S9 left (h+1-left)=(hc D.a7 D.e D.carry D.S9 left (h-left)).take (D.S' left h).cu by
     have aW:(D.S' left (left+(h-left))).some=true:=by rw[show left+(h-left)=h by omega];exact C
     rw[show h+1-left=(h-left)+1 by omega,zo aW,show left+(h-left)=h by omega])
    have V:=al B;clear B C;go_wp2_with (first|(go_at_call 84;refine V.out.mono ?_;rintro e ai ⟨rfl,M,L⟩;have R:=al ((E.out.oV M L).fF q.out (dU ai (.cells (D.S' left h).cu.a 146) none));clear M L)|(go_at_call 83;refine(aD.out (hc D.a7 D.e D.carry D.S9 left (h-left)) (D.S' left h).cu _ R.out.ch).mono ?_;rintro e a5 ⟨rfl,aX,aL⟩))
    go_roundw
    case rel=>exact⟨h+1,by go_num,U,by rw[T.out];exact R.out.put q.out aX aL⟩
    case measure=>simp[numOf];omega
  .obtain rfl:h=left+cnt:=U
   have av:(hc D.a7 D.e D.carry D.S9 left (left+cnt-left)).cu=D.S9 left:=by rw[Nat.add_sub_cancel_left,Y.out,<-yL]
   have aQ:=Y.out;have t2:decide (left+cnt<=D.e)=false:=cH;have aj:=al av;clear av aQ;generalize aO:hc D.a7 D.e D.carry D.S9 left (left+cnt-left)=c at *;generalize left+cnt=h at *;have j:=E.out;have a0:wr.cell? ⟨P.C,5,none⟩=some (.map (some P.gJ)):=aU j.jq.c;have v1:wr.cell? ⟨d.heap.size,1,none⟩=some (ah c.cu.cost):=aU j.ch;have v2:wr.cell? ⟨d.heap.size,2,none⟩=some (ah c.cu.eW):=aU j.ch;have v3:wr.cell? ⟨d.heap.size,3,none⟩=some (ah c.cu.left):=aU j.ch;have v4:wr.cell? ⟨d.heap.size,4,none⟩=some (ah c.cu.aP):=aU j.ch;have v5:wr.cell? ⟨d.heap.size,5,none⟩=some (ah c.cu.next):=aU j.ch;obtain⟨b7,ap,aB⟩:=j.jq.k;have aq:j' wr.drew P.gJ b7:=ap.keep (row:=none) (gv (e6 _ _)) aF;obtain⟨g,ax,aA,z,z9⟩:=Dt (ao.underlying120 A) rfl aq (left:Int) (.agg c.cu.a);replace ax:Sem.run (ao A) (Instr.mapUpdate 142 (.map (some P.gJ)) (ah left) (.agg #[ah c.cu.cost,ah c.cu.eW,ah c.cu.left,ah c.cu.aP,ah c.cu.next])) wr.drew=.ok () g:=ax;have af:wr.grownBy g (some P.gJ):=⟨z.os,z.tape,z.output,z.size,z.block⟩
   have f:mg u D P d.heap.size c w g:=j.oV (j.jq.NC q.out.ok q.out.keep af ⟨_,aA,by have:=aB.put left;rw[<-aj.out]at this;exact this⟩) (cp.of af (λr e=>.inr (.inr (by cases e;rfl))))
   have a6:g.cell? ⟨d.heap.size,1,none⟩=some (ah c.cu.cost):=aU f.ch;have a7:g.cell? ⟨d.heap.size,2,none⟩=some (ah c.cu.eW):=aU f.ch;have a8:g.cell? ⟨d.heap.size,3,none⟩=some (ah c.cu.left):=aU f.ch;have a9:g.cell? ⟨d.heap.size,4,none⟩=some (ah c.cu.aP):=aU f.ch;have ba:g.cell? ⟨d.heap.size,5,none⟩=some (ah c.cu.next):=aU f.ch;have bb:g.cell? ⟨w.heap.size,0,none⟩=some (ah 0):=aU f.z;have bc:g.cell? ⟨w.heap.size,1,none⟩=some (ah 0):=aU f.z;have bd:g.cell? ⟨w.heap.size,2,none⟩=some (ah 0):=aU f.z;have bf:g.cell? ⟨w.heap.size,3,none⟩=some (ah 0):=aU f.z;have bh:g.cell? ⟨w.heap.size,4,none⟩=some (ah 0):=aU f.z;have z0:=b3 (o:=0) f.z;have bi:=b3 (o:=1) f.z;have bj:=b3 (o:=2) f.z;have z3:=b3 (o:=3) f.z;have z4:=b3 (o:=4) f.z;have aJ:=al f;clear f af aA z z9 aq ap aB j E aO;go_wp2;go_region
   all_goals (
    go_wp2;have Q:=aJ.out;obtain⟨aa,ad,aK⟩:=xq (w:=w) (b:=w.heap.size) (W:=g) (c:=iK.a) c.cu rfl Q.z bg (X:=P.X) Q.fY;have ag:=Q.jq.keep q.out.keep aK (λb e=>by have:=Q.old;cases e;omega);revert aa ad ag;generalize ((((g.setCell ⟨w.heap.size,0,none⟩ (ah c.cu.cost)).setCell ⟨w.heap.size,1,none⟩ (ah c.cu.eW)).setCell ⟨w.heap.size,2,none⟩ (ah c.cu.left)).setCell ⟨w.heap.size,3,none⟩ (ah c.cu.aP)).setCell ⟨w.heap.size,4,none⟩ (ah c.cu.next)=aY;intro aa ad ag;refine bodyPost_ret (results_cell_row rfl _ _ w.heap.size 146 c.cu.a (0,0) _ rfl aa (ao.underlying124 A) rfl xI) rfl ?_;exact⟨by rw[<-aj.out],ag,ad⟩)
def De[S:Std A][eY:jx A]{c:World->Prop}{P:gl}(H:ky A c D P):∀left,rP A c D P left:=by
 have key:∀n left,D.e+1-left=n->rP A c D P left:=by
  intro n;induction n using Nat.strongRecOn with
  |_ n g=>
   intro left o w h;obtain⟨N,d,j3⟩:=h.k;cases f:N left with
   |some v=>exact KS H left w h d j3 f
   |none=>exact KT H left (λl i j=>g (D.e+1-l) U l rfl) w h d j3 f
 exact λleft=>key _ left rfl
def K8:∃i,(ao A).info? 103=some i/\i.zero=some (.agg #[ah 0,ah 0,ah 0])/\i.size=3/\i.bytes=24:=⟨_,rfl,rfl,rfl,rfl⟩
def EC{e:TypeId}{v:Value}(h:w.ownsRow base e size v n xs)(p:n≠0):
 ∃g c,v=.slice (some ⟨g,0,none⟩) n c/\base<=g/\∀j u,xs[j]?=some u->w.cell? ⟨g,j,none⟩=some u:=by
 obtain⟨B,⟨_,rfl⟩|⟨g,c,cur,rfl,i,l,q,r,z,f⟩⟩:=h
 .exact absurd rfl p
 .refine⟨g,c,rfl,i,λj u o=>?_⟩
  rw[aU l,<-Array.getElem?_toList];have d:(cur.toList.take (n*size))[j]?=some u:=by rw[f];exact o
  rw[List.getElem?_take]at d;split at d
  .exact d
  .cases d
def HE[S:Std A][eY:jx A](g c:Nat)(w:World)(cT dx f0 d p f1 f q f2 l r f3:Int)(h:∀(j:Nat) u,([ah cT,ah dx,ah f0,ah d,ah p,ah f1,ah f,ah q,ah f2]++[ah l,ah r,ah f3]:List Value)[j]?=some u->w.cell? ⟨g,j,none⟩=some u)(z:0<=cT/\cT<=dx)(B:0<=d/\d<=p)(C:0<=f/\f<=q)(D:0<=l/\l<=r):
 Calls (ao A) 41 #[.slice (some ⟨g,0,none⟩) 4 c] w λe w'=>e=.returned .nilIface/\w.grownBy w' none:=by
 refine vG g 0 4 c U w (λi=>match i with|0=>cT|1=>d|2=>f|_=>l) (λi=>match i with|0=>dx|1=>p|2=>q|_=>r) (λi=>match i with|0=>f0|1=>f1|2=>f2|_=>f3) (λi o=>?_) (λi o=>?_) (λi o=>?_) (λi o=>?_)
 .rcases i with _|_|_|_|i<;>first|exact h _ _ rfl|omega
 .rcases i with _|_|_|_|i<;>first|exact h _ _ rfl|omega
 .rcases i with _|_|_|_|i<;>first|exact h _ _ rfl|omega
 .rcases i with _|_|_|_|i
  .exact z
  .exact B
  .exact C
  .exact D
  .omega
def Ra[S:Std A][eY:jx A][P:hA A](d:cC)(ok:d.ok)(p:eg)(k:Nat)(aO:k<d.kinds)(left aP:Nat)(aQ:left<=aP)(aN:aP<120)(carry:Nat)(aM:carry<=30)(w:World)(h:e' w d p)(b:Nat)(hm:w.heap[b]?=some (.cells #[ah carry,ah 30,ah 3] 103)):
 Calls (ao A) 46 #[.agg (dv d p),ah k,.agg #[ah left,ah aP],.slice (some ⟨b,0,none⟩) 1 1] w (rU d p w):=by
 have aL:=ok.kinds;have C:w.grownBy ((w.alloc (.cells (dv d p) 25)).alloc (.cells #[ah left,ah aP] 67)) none:=bT.trans bT;have av:=al (Ab (A:=A) d ok p _ (h.keep C));have Z:=(C.block b (bu hm) aF).trans hm;have H:=al C;have K:=al Z;have z:((w.alloc (.cells (dv d p) 25)).alloc (.cells #[ah left,ah aP] 67)).cell? ⟨w.heap.size+1,0,none⟩=some (ah left):=by rw[dR aF];rfl
 have B:((w.alloc (.cells (dv d p) 25)).alloc (.cells #[ah left,ah aP] 67)).cell? ⟨w.heap.size+1,1,none⟩=some (ah aP):=by rw[dR aF];rfl
 have aC:=al z;have aD:=al B;obtain⟨i0,r,ae,af,ag⟩:=K8 (A:=A);have ar:=al r;have ax:=al ae;have ay:=al af;have az:=al ag;clear C h z B hm Z r ae af ag;go_enter (S.f Tryz.func46),Tryz.ntmps46;go_wp2_with (go_at_call 39;refine av.out.mono ?_;rintro e w3 ⟨T,rfl,R,G,q⟩;have z:=q.cell aC.out aF;have B:=q.cell aD.out aF;have t0:w3.cell? ⟨T,0,none⟩=some (ah d.kinds):=(aU G).trans rfl;have aa:=(q.block b (bu K.out) aF).trans K.out;have L:=al aa;have I:=al G;have J:=al q;have aw:=al R;clear G q R aa)
 go_region
 have f:∃W,W=(w3.alloc (.cells #[ah k,ah (d.kinds-1),ah 0,ah left,ah 119,ah 2,ah aP,ah 119,ah 2] 103)).drew:=⟨_,rfl⟩
 obtain⟨f,D⟩:=f;have l:w3.grownBy f none:=by rw[D];exact gv bT
 have M:f.heap[w3.heap.size]?=some (.cells #[ah k,ah (d.kinds-1),ah 0,ah left,ah 119,ah 2,ah aP,ah 119,ah 2] 103):=by rw[D];exact fM _ _
 have ai:=(l.block b (bu L.out) aF).trans L.out;have own:f.ownsRow w3.heap.size 103 3 (.slice (some ⟨w3.heap.size,0,none⟩) 3 3) 3 [ah k,ah (d.kinds-1),ah 0,ah left,ah 119,ah 2,ah aP,ah 119,ah 2]:=
  ⟨rfl,.inr ⟨w3.heap.size,3,_,rfl,bg,M,U,kj,rfl,rfl⟩⟩
 have aj:=(l.cell z aF)
 have q1:=(l.cell B aF)
 have aR:w.heap.size+1<w3.heap.size:=by have:=J.out.size;simp at this;omega
 have aB:=al own;have aA:=al ai;have c:=al l;have aK:w3.heap.size<=f.heap.size:=l.size;rw[<-D];have au:=al (v' (A:=A));clear own ai M l D z B t0;go_wp2_with (first|(at_builtin;refine wpList_append_own_at _ rfl _ _ 156 rfl w3.heap.size 103 i0 (.agg #[ah 0,ah 0,ah 0]) 3 24 (ao.underlying161 A) ar.out ax.out ay.out az.out rfl a6 _ 3 _ rfl aB.out ⟨b,0,none⟩ 1 1 [ah carry,ah 30,ah 3] rfl rfl (λj u Y=>by rcases j with _|_|_|j<;>first|(rw[show((⟨b,0,none⟩:Addr).add _)=⟨b,_,none⟩from rfl];rw[aU aA.out];exact Y)|(simp at Y)) (λu hu=>by simp at hu;rcases hu with rfl|rfl|rfl<;>rfl) kj U aK ?_;intro aS ak ad F aJ aH;obtain⟨g,aE,rfl,aI,V⟩:=EC ad U;have am:=al (HE (A:=A) g aE ak k (d.kinds-1) 0 left 119 2 aP 119 2 carry 30 3 V U U U U);have r0:=F.cell aj (by show some (w.heap.size+1)≠some w3.heap.size;simp;omega);have r1:=F.cell q1 (by show some (w.heap.size+1)≠some w3.heap.size;simp;omega);have o:=al F;clear ad F aJ aH V aI)|(go_at_call 41;refine am.out.mono ?_;rintro e aT ⟨rfl,E⟩;have aj:=E.cell r0 aF;have q1:=E.cell r1 aF;have ap:=al E;clear E)|(go_at_call 40;refine(au.out _).mono ?_;rintro e aV ⟨rfl,X⟩;have aq:=al X;clear X))
 go_ret2
 have aG:w3.grownBy ak none:=⟨o.out.os.trans c.out.os,o.out.tape.trans c.out.tape,o.out.output.trans c.out.output,cL c.out.size o.out.size,λi r _=>(o.out.block i (gu r c.out.size) (by show some i≠some w3.heap.size;simp;omega)).trans (c.out.block i r aF)⟩
 have Q:=(aG.trans ap.out).trans aq.out;refine⟨T,rfl,?_,(Q.block T (bu I.out) aF).trans I.out,(H.out.trans J.out).trans Q⟩;have:=aw.out;have e:=H.out.size;omega
end
structure vl(a7:Nat->Nat->Int)(e carry:Nat)(g:Nat->dY)(left aP:Nat)(b:dY):Prop where
 aj:b.left=left
 aD:b.aP=aP
 le:left<=aP/\aP<=e
 gM:(aP=e/\b.next = -1/\b.cost=a7 left aP/\b.eW=1)\/∃l:Nat,b.next=l/\aP<=l/\l<=e/\l<=aP+carry/\aP<e/\¬(left=aP/\l=aP)/\b.cost=a7 left aP+(g l).cost/\b.eW=(g l).eW+1
def Gr(c:gE)(x:dY):(c.take x).some=true:=by
 unfold gE.take;split
 .rfl
 .rename_i h
  simp at h;exact h.1
def A8(c:gE)(x:dY):(c.take x).cu=x\/(c.some=true/\(c.take x).cu=c.cu):=by
 unfold gE.take;split
 .exact .inl rfl
 .rename_i h
  simp at h;exact .inr ⟨h.1,rfl⟩
def yJ{a7:Nat->Nat->Int}{e carry:Nat}{g:Nat->dY}{left aP:Nat}(f:left<=aP)(d:aP<=e):∀j,(j=0\/(aP<e/\aP+j<=min e (aP+carry)+1))->(gR a7 e g left aP j).some=true->vl a7 e carry g left aP (gR a7 e g left aP j).cu
 | 0,_,c=>by
  rw[gR]at c ⊢;split
  .rename_i he
   have:(lT.take ⟨a7 left aP,1,left,aP,-1⟩).cu=⟨a7 left aP,1,left,aP,-1⟩:=by
    rcases A8 lT ⟨a7 left aP,1,left,aP,-1⟩with h|⟨h,_⟩
    .exact h
    .cases h
   rw[this];exact⟨rfl,rfl,⟨f,d⟩,.inl ⟨he,rfl,rfl,rfl⟩⟩
  .rename_i he
   rw[if_neg he]at c;cases c
 |j+1,l,c=>by
  rcases l with l|⟨p,r⟩
  .omega
  rw[gR]at c ⊢;split
  .rename_i i
   rw[if_pos i]at c;exact yJ f d j U c
  .rename_i i
   rcases A8 (gR a7 e g left aP j) ⟨a7 left aP+(g (aP+j)).cost,(g (aP+j)).eW+1,left,aP,(aP+j:Nat)⟩with h|⟨h,o⟩
   .rw[h]
    exact⟨rfl,rfl,⟨f,d⟩,.inr ⟨aP+j,rfl,U,U,U,p,λq=>i ⟨q.1,U⟩,rfl,rfl⟩⟩
   .rw[o]
    exact yJ f d j U h
def HR{left:Nat}(d:left<=aP)(c:aP<=e)(f:(fq a7 e carry left aP).some=true):vl a7 e carry (b2 a7 e carry) left aP (fq a7 e carry left aP).cu:=by
 unfold fq oC at *;refine yJ d c _ ?_ f;split
 .right;omega
 .left;rfl
def HS{left:Nat}:(fq a7 e carry left e).some=true:=by unfold fq oC;rw[if_neg (Nat.lt_irrefl _),gR,if_pos rfl];exact Gr _ _
def zn{a7:Nat->Nat->Int}{e carry left:Nat}:∀j,left+j<=e+1->(hc a7 e carry (b2 a7 e carry) left j).some=true->∃f,vl a7 e carry (b2 a7 e carry) left f (hc a7 e carry (b2 a7 e carry) left j).cu
 | 0,_,c=>by cases c
 |j+1,i,c=>by
  cases d:(fq a7 e carry left (left+j)).some
  .rw[Dd d]at c ⊢
   exact zn j U c
  .rw[zo d]at c ⊢
   rcases A8 (hc a7 e carry (b2 a7 e carry) left j) (fq a7 e carry left (left+j)).cu with h|⟨h,g⟩
   .rw[h]
    exact⟨_,HR U U d⟩
   .rw[g]
    exact zn j U h
def H5{left:Nat}(d:left<=e):∃f,vl a7 e carry (b2 a7 e carry) left f (b2 a7 e carry left):=by
 have c:(hc a7 e carry (b2 a7 e carry) left (e+1-left)).some=true:=by rw[show e+1-left=(e-left)+1 by omega,zo (by rw[show left+(e-left)=e by omega];exact HS)];exact Gr _ _
 have:=zn (e+1-left) U c;rw[<-yL]at this;exact this
def H6{left:Nat}(g:left<=e):(b2 a7 e carry left).next = -1\/∃l:Nat,(b2 a7 e carry left).next=l/\left<l/\l<=e:=by
 obtain⟨f,h⟩:=H5 (a7:=a7) (carry:=carry) g;rcases h.gM with⟨_,c,_⟩|⟨l,c,i,d,_,_,j,_⟩
 .exact .inl c
 .have:=h.le
  exact .inr ⟨l,c,U,d⟩
def pM(df:Nat->dY):Nat->dY->List dY
 | 0,b=>[b]
 |n+1,b=>if b.next = -1 then[b]else b::pM df n (df b.next.toNat)
def Cg{b:dY}(h:b.next = -1):∀n,pM df n b = [b]
 | 0=>rfl
 |n+1=>by rw[pM,if_pos h]
def Ch{b:dY}{l:Nat}(h:b.next=l)(n:Nat):pM df (n+1) b=b::pM df n (df l):=by rw[pM,if_neg U,h];rfl
def r'(a7:Nat->Nat->Int)(e carry left:Nat):List dY:=pM (b2 a7 e carry) (e+1) (b2 a7 e carry left)
def nb(l:List dY):List Value:=l.flatMap λb=>[ah b.left,ah b.aP]
def KP(l m:List dY):nb (l++m)=nb l++nb m:=by simp[nb]
def hj(d:cC)(k l f:Nat):Int:=if f<120 then ha (d.first k) (cX d k) l f else 0
def QI{bj:Nat->Int}(c:∀d,0<=bj d/\bj d<=9)(a n:Nat):0<=ks bj a n/\ks bj a n<=n*9:=by
 induction n with
 |zero=>simp[ks]
 |succ n f=>have:=c (a+n);simp only[ks];omega
def Kv{d:cC}(ok:d.ok)(c:k<d.kinds)(l f:Nat):0<=hj d k l f/\hj d k l f<=1000000:=by
 unfold hj;split
 .have g:=ok.first k c
  have h:=QI (λx=>ql ok c x) (l / 24+1) (f / 24-l / 24);unfold ha;omega
 .simp
def QV:(List.range 41).all (λi=>decide ((hc (hj fW 0) 60 2 uZ (20+i) (60+1-(20+i))).cu=uZ (20+i)))=true:=av
def BZ(l:Nat)(c:20<=l):b2 (hj fW 0) 60 2 l=uZ l:=by
 refine H7 (bY:=20) uZ (λl h=>?_) (λl d f=>?_) l c
 .unfold uZ
  rw[if_neg U,List.getElem?_eq_none (by show 41<=l-20;omega)];rfl
 .have:=List.all_eq_true.1 QV (l-20) (List.mem_range.2 U)
  rw[show 20+(l-20)=l by omega]at this;exact of_decide_eq_true this
def Ci:(b2 (hj fW 0) 60 2 20).cost=5/\r' (hj fW 0) 60 2 20 = [⟨5,2,20,46,48⟩,⟨2,1,48,60,-1⟩]:=by have c:b2 (hj fW 0) 60 2 20=⟨5,2,20,46,48⟩:=(BZ 20 U).trans av;have d:b2 (hj fW 0) 60 2 48=⟨2,1,48,60,-1⟩:=(BZ 48 U).trans av;refine⟨by rw[c],?_⟩;unfold r';rw[c,show(60+1:Nat)=60+1 from rfl,Ch (l:=48) rfl,d,Cg rfl]
section
variable{A:Array Func}
def K':∃i,(ao A).info? 67=some i/\i.zero=some (.agg #[ah 0,ah 0])/\i.size=2/\i.bytes=16:=⟨_,rfl,rfl,rfl,rfl⟩
def j4{e:TypeId}{v:Value}(h:w.ownsRow base e size v n xs)(k:∀g,base<=g->g<w.heap.size->w'.heap[g]?=w.heap[g]?):w'.ownsRow base e size v n xs:=by
 obtain⟨i,h|⟨g,c,cur,j,d,f,l,o,p,q⟩⟩:=h
 .exact⟨i,.inl h⟩
 .exact⟨i,.inr ⟨g,c,cur,j,d,(k g d (bu f)).trans f,l,o,p,q⟩⟩
def EB{d:Nat}{e:TypeId}{v:Value}(h:w.ownsRow base e size v n xs)(k:d<=base):w.ownsRow d e size v n xs:=by
 obtain⟨f,h|⟨g,c,cur,i,r,q,j,l,o,p⟩⟩:=h
 .exact⟨f,.inl h⟩
 .exact⟨f,.inr ⟨g,c,cur,i,U,q,j,l,o,p⟩⟩
abbrev qO(d:cC)(k aP carry:Nat):gd:=⟨hj d k,aP,carry,k⟩
abbrev oD(T B:Nat):gl:=⟨B+1+1,T,B,B+1,B⟩
def Ik[S:Std A][eY:jx A][P:hA A]{d:cC}(ok:d.ok){p:eg}(c:k<d.kinds)(q:aP<120)(C:carry<=30)(j:p.below d B)(i:T<B)(r:p.off d T):ky A (gp d p T B) (qO d k aP carry) (oD T B) where
 ok:=⟨i,by show B<=B+1+1;omega,bg,by show B<=B+1;omega,by show B+1+1≠B;omega,by show B+1+1≠B+1;omega,by show B≠B+1;omega⟩
 keep:=λw w' row h g u=>(pg ok j i).keep w w' row h g u
 size:=λw h=>h.dD
 C3:=λw h l f D o=>by
  have z:=ok.kinds;have:=si (F:=A) (pg ok j i) (k:=k) c U (bj:=cX d k) (λday=>by have:=ql ok c day;omega) (rk ok j r c) l f U o w h;rw[pT c]at this;have e:hj d k l f=ha (d.first k) (cX d k) l f:=if_pos o;show Calls (ao A) 47 _ w λe w'=>e=.returned (ah (hj d k l f))/\_/\_
  rw[e];exact this
 hL:=Kv ok c
 e:=q
 carry:=by show carry<=1000;omega
def Il{d:cC}{p:eg}{w3:World}(i:rR (gp d p T w3.heap.size) w3.heap.size)(j:gp d p T w3.heap.size w3):
 e2 (gp d p T w3.heap.size) (qO d k aP carry) (oD T w3.heap.size) (((w3.alloc (.map #[] 0)).alloc (.map #[] 0)).alloc (.cells #[.pointer (some ⟨T,0,none⟩),ah k,ah aP,ah carry,.map (some w3.heap.size),.map (some (w3.heap.size+1))] 144)):=by
 have c:(((w3.alloc (.map #[] 0)).alloc (.map #[] 0)).alloc (.cells #[.pointer (some ⟨T,0,none⟩),ah k,ah aP,ah carry,.map (some w3.heap.size),.map (some (w3.heap.size+1))] 144)).heap[w3.heap.size]?=some (.map #[] 0):=by rw[dm (by simp only[cV];omega),dm (by simp only[cV];omega),fM]
 have g:(((w3.alloc (.map #[] 0)).alloc (.map #[] 0)).alloc (.cells #[.pointer (some ⟨T,0,none⟩),ah k,ah aP,ah carry,.map (some w3.heap.size),.map (some (w3.heap.size+1))] 144)).heap[w3.heap.size+1]?=some (.map #[] 0):=by rw[dm (by simp only[cV];omega),jA _ _ _ (by simp only[cV])]
 exact⟨i _ _ none j (bT.trans (bT.trans bT)) aF,jA _ _ _ (by simp only[cV]),⟨_,ij.new _ _ _ c,λl f v h=>by cases h⟩,⟨_,j'.new _ _ _ g,λl v h=>by cases h⟩⟩
structure lQ(bf:World->Prop)(D:gd)(P:gl)(aL:World)(eT jo l left:Nat)(pre:List dY)(v:Value)(w:World):Prop where
 jq:e2 bf D P w
 tO:w.heap[eT]?=some (.cells (D.S9 l).a 146)
 own:w.ownsRow jo 67 2 v (pre.length+1) (nb (pre++[D.S9 l]))
 fY:aL.grownBy w none
 lt:eT<jo/\jo<=w.heap.size
 new:aL.heap.size<=P.T/\aL.heap.size<=P.fm/\aL.heap.size<=P.gJ/\P.T<eT/\P.fm<eT/\P.gJ<eT/\P.C<eT/\P.B<=eT
 chain:∃n,D.e<=n+l/\pre++pM D.S9 n (D.S9 l)=r' D.a7 D.e D.carry left
 le:l<=D.e/\pre.length<=l
def lQ.z6{d:World->Prop}{P:gl}{c f l left:Nat}{pre:List dY}{v:Value}(h:lQ d D P aL c f l left pre v w){i:Nat}(j:c<=i):¬P.X i:=λg=>by have:=h.new;rcases g with e|e|e<;>omega
def KQ(pre:List dY)(b:dY):nb (pre++[b])=nb pre++[ah b.left,ah b.aP]:=by rw[KP];rfl
def Lv:Value->Nat
 |.slice _ n _=>n
 |_=>0
def Rr(w:World)(x y:Value)(t:TypeId):∀(j:Nat) u,[x,y][j]?=some u->(w.alloc (.cells #[x,y] t)).cell? ((⟨w.heap.size,0,none⟩:Addr).add j)=some u:=by
 intro j u c;rcases j with _|_|j
 .rw[<-c];exact dR rfl
 .rw[<-c];exact dR rfl
 .simp at c
def Rq(w:World)(n:Nat)(c:n=w.heap.size)(x y:Value)(t:TypeId):∀(j:Nat) u,[x,y][j]?=some u->(w.alloc (.cells #[x,y] t)).cell? ((⟨n,0,none⟩:Addr).add j)=some u:=by subst c;exact Rr w x y t
def lQ.R7{d:World->Prop}{P:gl}{l left:Nat}{pre:List dY}{v:Value}{p:World}(H:ky A d D P)(h:lQ d D P aL j o l left pre v w)(r:e2 d D P p)(q:cp P.X w p){c:World}(B:c.heap[j]?=some (.cells (D.S9 aN).a 146))(f:p.grownBy c (some j)):
 e2 d D P c/\c.ownsRow o 67 2 v (pre.length+1) (nb (pre++[D.S9 l]))/\aL.grownBy c none/\o<=c.heap.size:=by
 have C:=h.lt;have E:=h.new;have F:=q.size;have G:=f.size;refine⟨r.keep H.keep f (λb e=>by cases e;omega),j4 h.own (λg I u=>?_),kH (cp.new h.fY q (λi z=>by rcases z with e|e|e<;>omega)) f U,U⟩;rw[f.block g U (λe=>by have:=bD e;omega)];exact q.block g u (h.z6 U)
def lQ.put{P:gl}{c g l left:Nat}{pre:List dY}{v:Value}{d:World}(H:ky A f D P)(h:lQ f D P aL c g l left pre v w)(p:e2 f D P d)(i:cp P.X w d)(x:dY)(q:x=D.S9 aN):
 (((((d.setCell ⟨c,0,none⟩ (ah x.cost)).setCell ⟨c,1,none⟩ (ah x.eW)).setCell ⟨c,2,none⟩ (ah x.left)).setCell ⟨c,3,none⟩ (ah x.aP)).setCell ⟨c,4,none⟩ (ah x.next)).heap[c]?=some (.cells (D.S9 aN).a 146)/\
 e2 f D P (((((d.setCell ⟨c,0,none⟩ (ah x.cost)).setCell ⟨c,1,none⟩ (ah x.eW)).setCell ⟨c,2,none⟩ (ah x.left)).setCell ⟨c,3,none⟩ (ah x.aP)).setCell ⟨c,4,none⟩ (ah x.next))/\
 (((((d.setCell ⟨c,0,none⟩ (ah x.cost)).setCell ⟨c,1,none⟩ (ah x.eW)).setCell ⟨c,2,none⟩ (ah x.left)).setCell ⟨c,3,none⟩ (ah x.aP)).setCell ⟨c,4,none⟩ (ah x.next)).ownsRow g 67 2 v (pre.length+1) (nb (pre++[D.S9 l]))/\
 aL.grownBy (((((d.setCell ⟨c,0,none⟩ (ah x.cost)).setCell ⟨c,1,none⟩ (ah x.eW)).setCell ⟨c,2,none⟩ (ah x.left)).setCell ⟨c,3,none⟩ (ah x.aP)).setCell ⟨c,4,none⟩ (ah x.next)) none/\g<=d.heap.size:=by
 subst q;have j:=(i.block _ (bu h.tO) (h.z6 bg)).trans h.tO;have e:=cU (o:=4) (v:=ah (D.S9 aN).next) (cU (o:=3) (v:=ah (D.S9 aN).aP) (cU (o:=2) (v:=ah (D.S9 aN).left) (cU (o:=1) (v:=ah (D.S9 aN).eW) (cU (o:=0) (v:=ah (D.S9 aN).cost) j))));have k:=e7 (o:=4) (v:=ah (D.S9 aN).next) (e7 (o:=3) (v:=ah (D.S9 aN).aP) (e7 (o:=2) (v:=ah (D.S9 aN).left) (e7 (o:=1) (v:=ah (D.S9 aN).eW) (e7 (o:=0) (v:=ah (D.S9 aN).cost) (e6 d (some c))))));obtain⟨r,u,z,B⟩:=h.R7 H p i e k;refine⟨e,r,u,z,?_⟩;have:=h.lt;have:=i.size;omega
def lQ.cells{P:gl}{c g l left:Nat}{pre:List dY}{v:Value}{d:World}(h:lQ f D P aL c g l left pre v w)(i:cp P.X w d):d.heap[c]?=some (.cells (D.S9 l).a 146):=(i.block _ (bu h.tO) (h.z6 bg)).trans h.tO
def lQ.next{i:World->Prop}{P:gl}{d l left g g' bp:Nat}{pre:List dY}{v:Value}{c u r:World}(H:ky A i D P)(h:lQ i D P aL p d l left pre v w)(K:l<aN)(he:aN<=D.e)(F:(D.S9 l).next=aN)(G:e2 i D P c)(I:aL.grownBy c none)(Q:d<=c.heap.size)(j:c.heap[p]?=some (.cells (D.S9 aN).a 146))(f:c.grownBy u none)(o:u.grownBy r (some g))(J:d<=g)(own:r.ownsRow d 67 2 (.slice (some ⟨g',0,none⟩) n bp) n (nb (pre++[D.S9 l])++[ah (D.S9 aN).left,ah (D.S9 aN).aP]))(E:n=pre.length+1+1):
 lQ i D P aL p d aN left (pre++[D.S9 l]) (.slice (some ⟨g',0,none⟩) n bp) r:=by
 subst E;have z:=h.lt;have B:=h.new;have hle:=h.le;have L:=f.size;have M:=o.size;obtain⟨m,hm,C⟩:=h.chain;obtain⟨m,rfl⟩:∃q,m=q+1:=⟨m-1,U⟩
 refine⟨(G.fF H.keep f).keep H.keep o (λb e=>by cases e;omega),?_,?_,kH (I.trans f) o U,⟨z.1,U⟩,B,⟨m,U,?_⟩,he,cH⟩
 .exact(o.block _ (bu ((f.block _ (bu j) aF).trans j)) (λe=>by have:=bD e;omega)).trans ((f.block _ (bu j) aF).trans j)
 .rw[KQ,List.length_append]
  exact own
 .rw[<-C,Ch F,List.append_assoc]
  rfl
def Iz[S:Std A][eY:jx A][P:hA A](d:cC)(ok:d.ok)(p:eg)(k:Nat)(ae:k<d.kinds)(left aP:Nat)(af:left<=aP)(ad:aP<120)(carry:Nat)(aa:carry<=30)(w:World)(h:e' w d p):
 Calls (ao A) 28 #[.agg (dv d p),ah k,ah left,ah aP,ah carry] w λe w'=>∃v,e=.returned (.tuple #[v,ah (b2 (hj d k) aP carry left).cost,ah 0])/\w'.ownsRow w.heap.size 67 2 v (r' (hj d k) aP carry left).length (nb (r' (hj d k) aP carry left))/\w.grownBy w' none:=by
 have G:w.grownBy ((w.alloc (.cells (dv d p) 25)).alloc (.cells #[ah carry,ah 30,ah 3] 103)) none:=bT.trans bT;have hm:((w.alloc (.cells (dv d p) 25)).alloc (.cells #[ah carry,ah 30,ah 3] 103)).heap[w.heap.size+1]?=some (.cells #[ah carry,ah 30,ah 3] 103):=jA _ _ _ (by simp only[cV]);have ax:=al (Ra (A:=A) d ok p k ae left aP af ad carry aa _ (h.keep G) _ hm);have aA:=al λ(T:Nat) (w3:World) (z:((w.alloc (.cells (dv d p) 25)).alloc (.cells #[ah carry,ah 30,ah 3] 103)).heap.size<=T) (D:w3.heap[T]?=some (.cells (nD d p) 100)) (E:((w.alloc (.cells (dv d p) 25)).alloc (.cells #[ah carry,ah 30,ah 3] 103)).grownBy w3 none)=>
  have x:=sO ok (h.keep G) z D E;have H:=Ik (A:=A) (aP:=aP) (carry:=carry) ok ae ad aa x.2.2.1 x.2.2.2 x.2.1
  (⟨x.2.2.2,H,Il H.keep x.1⟩:T<w3.heap.size/\ky A (gp d p T w3.heap.size) (qO d k aP carry) (oD T w3.heap.size)/\e2 (gp d p T w3.heap.size) (qO d k aP carry) (oD T w3.heap.size) _)
 have V:=al G;have a1:=@run_makeMap (ao A);obtain⟨i0,I,aj,ak,am⟩:=K' (A:=A);have aw:=al I;have aB:=al aj;have aC:=al ak;have aD:=al am;clear G hm h I aj ak am;go_enter (S.f Tryz.func28),Tryz.ntmps28;go_wp2_with (first|(go_at_call 46;refine ax.out.mono ?_;rintro e w3 ⟨T,rfl,z,D,E⟩;have X:=al (aA.out T w3 z D E);have av:=al (V.out.trans E);have az:=al z;clear D E z)|(go_at_call 68;refine(De X.out.2.1 left _ X.out.2.2).mono ?_;rintro e f ⟨rfl,W,R⟩)|(go_at_call 48;refine(oT _ _).mono ?_;rintro e w' ⟨rfl,rfl⟩))
 obtain⟨z,H,aJ⟩:=X.out;have aR:=az.out;have aQ:=V.out.size;have ar:=R.size;have aS:w.heap.size<=T:=U;have Y:w.grownBy (((w3.alloc (.map #[] 0)).alloc (.map #[] 0)).alloc (.cells #[.pointer (some ⟨T,0,none⟩),ah k,ah aP,ah carry,.map (some w3.heap.size),.map (some (w3.heap.size+1))] 144)) none:=av.out.trans (bT.trans (bT.trans bT));have aX:w3.heap.size+3<=f.heap.size:=by simp only[cV]at ar;omega
 have Z:w.grownBy f none:=cp.new Y R (λi I=>by rcases I with e|e|e<;>(dsimp only at e;omega));have gr:f.grownBy ((f.alloc (.cells (b2 (hj d k) aP carry left).a 146)).alloc (.cells #[ah (b2 (hj d k) aP carry left).left,ah (b2 (hj d k) aP carry left).aP] 67)) none:=bT.trans bT;have ap:lQ (gp d p T w3.heap.size) (qO d k aP carry) (oD T w3.heap.size) w f.heap.size (f.heap.size+1) left left [] (.slice (some ⟨f.heap.size+1,0,none⟩) (([]:List dY).length+1) 1) ((f.alloc (.cells (b2 (hj d k) aP carry left).a 146)).alloc (.cells #[ah (b2 (hj d k) aP carry left).left,ah (b2 (hj d k) aP carry left).aP] 67)):=by
  refine⟨W.fF H.keep gr,?_,⟨rfl,.inr ⟨_,1,_,rfl,bg,jA _ _ _ (by simp only[cV]),bg,kj,rfl,rfl⟩⟩,Z.trans gr,⟨U,by simp only[cV];omega⟩,?_,⟨aP+1,by show aP<=_;omega,rfl⟩,af,Nat.zero_le _⟩
  .rw[dm (by simp only[cV];omega),fM]
  .dsimp only
   omega
 have aE:=al ap;have J:=al H;clear ap gr Z Y H aJ W R aX ar aQ aR aS z;go_loopw [18] (λQ wr=>∃pre l g c,Q=.slice (some ⟨g,0,none⟩) (pre.length+1) c/\lQ (gp d p T w3.heap.size) (qO d k aP carry) (oD T w3.heap.size) w f.heap.size (f.heap.size+1) l left pre (.slice (some ⟨g,0,none⟩) (pre.length+1) c) wr) (λQ _=>aP+5-Lv Q)
 case atStart=>exact⟨[],left,_,_,rfl,aE.out⟩
 case round=>
  obtain⟨pre,l,g,aY,rfl,br⟩:=hrel;have aq:wr.cell? ⟨f.heap.size,4,none⟩=some (ah (b2 (hj d k) aP carry l).next):=aU br.tO;have hle:l<=aP/\pre.length<=l:=br.le;have aL:f.heap.size+1<=g:=by
   obtain⟨_,⟨h,_⟩|⟨g',bp,cur,h,D,_⟩⟩:=br.own
   .cases h
   .cases h;exact D
  rcases H6 (a7:=hj d k) (carry:=carry) (show l<=aP from hle.1)with B|⟨aN,B,aO,aK⟩
  .rw[B]at aq
   have K:=al B;have q:=al br;clear B br;go_wp2;go_ret3
   obtain⟨n,a2,M⟩:=q.out.chain;rw[Cg K.out]at M;refine⟨_,rfl,?_,q.out.fY⟩;have ag:=EB q.out.own (show w.heap.size<=f.heap.size+1 by have:=q.out.new;omega);rw[M]at ag;have hlen:pre.length+1=(r' (hj d k) aP carry left).length:=by rw[<-M];simp
   rw[<-hlen];exact ag
  .rw[B]at aq
   have a3:((aN:Int) != -1)=true:=aF;have K:=al B;have q:=al br;clear B br;have au:=al λ(r:World) (C:cp (oD T w3.heap.size).X wr r)=>(q.out.cells C:r.heap[f.heap.size]?=some (.cells (b2 (hj d k) aP carry l).a 146))
   have ay:=al λ(r:World) (F:e2 (gp d p T w3.heap.size) (qO d k aP carry) (oD T w3.heap.size) r) (C:cp (oD T w3.heap.size).X wr r)=>q.out.put J.out F C (aN:=aN) (b2 (hj d k) aP carry aN) rfl
   go_wp2_with (first|(go_at_call 68;refine(De J.out aN _ q.out.jq).mono ?_;rintro e r ⟨rfl,F,C⟩;have j:=au.out r C;have ba:=aU (o:=0) j;have bb:=aU (o:=1) j;have bc:=aU (o:=2) j;have bd:=aU (o:=3) j;have bf:=aU (o:=4) j;have z0:=b3 (o:=0) j;have bh:=b3 (o:=1) j;have bi:=b3 (o:=2) j;have z3:=b3 (o:=3) j;have z4:=b3 (o:=4) j;have L:=al (ay.out r F C);clear j F C)|(at_builtin;refine wpList_append_own_at _ rfl _ _ 60 rfl (f.heap.size+1) 67 i0 (.agg #[ah 0,ah 0]) 2 16 (ao.underlying42 A) aw.out aB.out aC.out aD.out rfl a6 _ (pre.length+1) _ rfl (j4 L.out.2.2.1 (λg _ aI=>dm aI)) ⟨r.heap.size,0,none⟩ 1 1 [ah (b2 (hj d k) aP carry aN).left,ah (b2 (hj d k) aP carry aN).aP] rfl rfl (Rq _ _ aF _ _ _) (λu hu=>by simp at hu;rcases hu with rfl|rfl<;>rfl) kj U (by have:=L.out.2.2.2.2;simp only[cV,World.size_setCell];omega) ?_;intro a8 a9 ai aM a4 aZ))
   obtain⟨g',bp,rfl,a0,_⟩:=EC ai U;refine⟨⟨pre++[b2 (hj d k) aP carry l],aN,g',bp,?_,?_⟩,?_⟩
   .rw[List.length_append]
    rfl
   .obtain⟨aG,aT,a5,aV,aW⟩:=L.out
    have gM:=q.out.next (aN:=aN) (g:=g) (g':=g') (bp:=bp) (n:=pre.length+1+1) J.out aO aK K.out aT aV (by simp only[World.size_setCell];exact aW) aG (dU _ _ none) aM aL ai rfl;rw[List.length_append];exact gM
   .have aH:=q.out.le
    show aP+5-(pre.length+1+1)<aP+5-(pre.length+1);have:pre.length<=l:=aH.2;omega
def gi(n:Int):Value:=ah n
abbrev sB(d:h1)(P:jL)(m:Nat)(v:Value):Array Value:=#[.slice (some ⟨P.nN,P.sJ,none⟩) d.n P.qN,v,.map (some m)]
structure ih(d:h1)(P:jL)(L m B:Nat)(v:Value)(pre:List Int)(w:World):Prop where
 blk:w.heap[L]?=some (.cells (sB d P m v) 176)
 rows:∀i,i<d.n->w.cell? ⟨P.nN,P.sJ+i,none⟩=some (.slice (some ⟨P.o7 i,P.xl i,none⟩) (d.len i) (P.ED i))
 el:∀i,i<d.n->gn w (P.o7 i) (P.xl i) (d.len i) (d.num i)
 mp:∃M,lu w m M/\tx d M
 own:w.ownsRow B 3 1 v pre.length (pre.map gi)
 dD:B<=w.heap.size
structure ow(d:h1)(P:jL)(L m y B:Nat):Prop where
 q5:L<B
 gJ:m<B
 sz:y<B
 sx:P.nN<B
 Dq:∀i,i<d.n->P.o7 i<B
 BD:L≠m
 Ho:L≠P.nN
 Hn:∀i,i<d.n->L≠P.o7 i
 yh:y≠L
 ps:y≠m
 Sx:y≠P.nN
 Sw:∀i,i<d.n->y≠P.o7 i
def ih.ls{d:h1}{P:jL}{m:Nat}{v:Value}{pre:List Int}(h:ih d P L m B v pre w):lv w L m d P:=
 ⟨(aU h.blk).trans rfl,(aU h.blk).trans rfl,h.rows,h.el,h.mp⟩
def ih.keep{d:h1}{P:jL}{m y:Nat}{v:Value}{pre:List Int}{row:Option Nat}(h:ih d P L m B v pre w)(ok:ow d P L m y B)(g:w.grownBy w' row)(C:∀r,row=some r->r=y\/(B<=r/\some r≠v.ownBlock)):ih d P L m B v pre w':=by
 obtain⟨M,E,H⟩:=h.mp;have l:∀b,b<B->b≠y->some b≠row:=λb p o e=>by
  rcases C b e.symm with j|⟨j,_⟩
  .exact o j
  .omega
 refine⟨(g.block _ (bu h.blk) (l _ ok.q5 ok.yh.symm)).trans h.blk,λi f=>g.cell (h.rows i f) (l _ ok.sx ok.Sx.symm),λi f=>(h.el i f).keep g (l _ (ok.Dq i f) (ok.Sw i f).symm),⟨M,E.keep g (l _ ok.gJ ok.ps.symm),H⟩,?_,cL h.dD g.size⟩;obtain⟨z,⟨rfl,G⟩|⟨b,c,cur,rfl,F,u,p,o,j,D⟩⟩:=h.own
 .exact⟨z,.inl ⟨rfl,G⟩⟩
 .refine⟨z,.inr ⟨b,c,cur,rfl,F,(g.block b (bu u) (λe=>?_)).trans u,p,o,j,D⟩⟩
  rcases C b e.symm with q|⟨_,q⟩
  .have:=ok.sz;omega
  .exact q rfl
def ih.fF{d:h1}{P:jL}{m y:Nat}{v:Value}{pre:List Int}(h:ih d P L m B v pre w)(ok:ow d P L m y B)(g:w.grownBy w' none):ih d P L m B v pre w':=h.keep ok g aF
def ih.known{d:h1}{P:jL}{m y:Nat}{v:Value}{pre:List Int}(h:ih d P L m B v pre w)(ok:ow d P L m y B)(g:w.grownBy w' (some m))(l:lv w' L m d P):ih d P L m B v pre w':=by
 have c:∀b,b≠m->some b≠some m:=λb h e=>h (bD e)
 refine⟨(g.block _ (bu h.blk) (c _ ok.BD)).trans h.blk,l.rows,l.el,l.mp,?_,cL h.dD g.size⟩;exact j4 h.own λb i f=>g.block b f (c _ (by have:=ok.gJ;omega))
def ih.Cq{d:h1}{P:jL}{m y:Nat}{v o:Value}{pre l:List Int}{p:World}{b:Option Nat}(h:ih d P L m B v pre w)(ok:ow d P L m y B)(g:w.grownBy p b)(C:∀r,b=some r->B<=r)(e:w'.heap[L]?=some (.cells (sB d P m o) 176))(k:p.grownBy w' (some L))(own:p.ownsRow B 3 1 o l.length (l.map gi)):ih d P L m B o l w':=by
 obtain⟨M,z,D⟩:=h.mp;have j:∀r,r<B->some r≠b:=λr q e=>by have:=C r e.symm;omega
 have f:∀r,L≠r->some r≠some L:=λr h e=>h (bD e).symm
 refine⟨e,λi c=>k.cell (g.cell (h.rows i c) (j _ ok.sx)) (f _ ok.Ho),λi c=>((h.el i c).keep g (j _ (ok.Dq i c))).keep k (f _ (ok.Hn i c)),⟨M,(z.keep g (j _ ok.gJ)).keep k (f _ ok.BD),D⟩,j4 own λr q u=>k.block r u (f _ (by have:=ok.q5;omega)),cL h.dD (cL g.size k.size)⟩
def MK[S:Std A][eY:oA A](L m b g n cap:Nat)(d:h1)(P:jL)(p:n<1000)(u:FrameMode)(w:World)(j:w.cell? ⟨b,0,none⟩=some (.pointer (some ⟨L,0,none⟩)))(c:w.heap[L]?=some (.cells (sB d P m (.slice (some ⟨g,0,none⟩) (n+1) cap)) 176))(l:n+1<=cap):
 CallsD (ao A) 99 #[.pointer (some ⟨b,0,none⟩)] u w λe aC w'=>aC=u/\(e=.returned (.tuple #[])/\(w'.heap[L]?=some (.cells (sB d P m (.slice (some ⟨g,0,none⟩) n cap)) 176)/\w.grownBy w' (some L))):=by
 have i:w.cell? ⟨L,1,none⟩=some (.slice (some ⟨g,0,none⟩) (n+1) cap):=aU c;have q:=b3 (o:=1) c;have E:=cU (o:=1) (v:=.slice (some ⟨g,0,none⟩) n cap) c;have G:w.grownBy (w.setCell ⟨L,1,none⟩ (.slice (some ⟨g,0,none⟩) n cap)) (some L):=e7 (e6 _ _);have f:=al E;have h:=al G;clear E G c;go_enter_d (S.f Tryz.func99),Tryz.ntmps99
 go_wp2;go_region
 all_goals (go_end0;exact⟨rfl,f.out,gv h.out⟩)
def jK(L m y:Nat)(g:Option Nat)(i:Nat):Prop:=i=L\/i=m\/i=y\/some i=g
def kh(g g':Option Nat)(n:Nat):Prop:=g'=g\/∃r,g'=some r/\n<=r
def kh.trans{g c:Option Nat}(h:kh g g' n)(q:kh g' c k)(d:n<=k):kh g c n:=by
 rcases q with rfl|⟨r,rfl,f⟩
 .exact h
 .exact .inr ⟨r,rfl,U⟩
def jK.step{m y:Nat}{g:Option Nat}{a b c:World}(h:cp (jK L m y g) a b)(k:cp (jK L m y g') b c)(q:kh g g' a.heap.size):cp (jK L m y g) a c:=by
 refine⟨k.os.trans h.os,k.tape.trans h.tape,k.output.trans h.output,cL h.size k.size,λi f d=>?_⟩;rw[k.block i (gu f h.size) (λj=>?_),h.block i f d];rcases j with e|e|e|e
 .exact d (.inl e)
 .exact d (.inr (.inl e))
 .exact d (.inr (.inr (.inl e)))
 .rcases q with rfl|⟨r,rfl,l⟩
  .exact d (.inr (.inr (.inr e)))
  .have:=bD e;omega
def vs(y B:Nat)(bn:Option Nat->World->Prop):Prop:=∀g w w' row,bn g w->w.grownBy w' row->(∀r,row=some r->r≠y/\(r<B\/some r=g))->bn g w'/\∀g',w.heap.size<=g'->bn (some g') w'
def wL:∃i,(ao A).info? 3=some i/\i.zero=some (ah 0)/\i.size=1/\i.bytes=8:=⟨_,rfl,rfl,rfl,rfl⟩
def M6{g cap:Nat}{pre:List Int}{x:Int}(h:w.ownsRow B 3 1 (.slice (some ⟨g,0,none⟩) (n+1) cap) (n+1) ((pre++[x]).map gi))(d:pre.length=n):n+1<=cap/\w.ownsRow B 3 1 (.slice (some ⟨g,0,none⟩) n cap) n (pre.map gi):=by
 obtain⟨r,⟨h,_⟩|⟨b,c,cur,i,p,q,j,l,o,f⟩⟩:=h
 .cases h
 .cases i
  refine⟨j,by simpa using d,.inr ⟨_,_,cur,rfl,p,q,U,l,o,?_⟩⟩;rw[Nat.mul_one]at f ⊢;have:(cur.toList.take (n+1)).take n=((pre++[x]).map gi).take n:=by rw[f]
  rw[List.take_take,Nat.min_eq_left U,List.map_append,List.take_append_of_le_length (by simp[d])]at this;rw[this,List.take_of_length_le (by simp[d])]
def M8{v:Value}(h:w.ownsRow B 3 1 v (n+1) xs):∃g cap,v=.slice (some ⟨g,0,none⟩) (n+1) cap/\B<=g/\g<w.heap.size:=by
 obtain⟨j,⟨_,h⟩|⟨b,c,cur,d,f,i,_⟩⟩:=h
 .omega
 .exact⟨b,c,d,f,bu i⟩
def lM{v:Value}(h:w.ownsRow B 3 1 v n xs)(r:Nat)(e:v.ownBlock=some r):B<=r/\r<w.heap.size:=by
 obtain⟨g,⟨rfl,_⟩|⟨b,c,cur,rfl,d,f,_⟩⟩:=h
 .cases e
 .cases e;exact⟨d,bu f⟩
def pL(w:World){a:Addr}{v:Value}(h:b≠a.block):(w.setCell a v).cell? ⟨b,o,none⟩=w.cell? ⟨b,o,none⟩:=World.cell?_of_block (e1 h)
def DD(t:TypeId)(x:Operand):Op:=.load t x
theorem wV(t:TypeId)(x:Operand):Op.load t x=DD t x:=rfl
def wW(t:TypeId)(x:Operand):DD t x=Op.load t x:=rfl
def G5[S:Std A][eY:oA A](d:h1)(P:jL)(L m y B:Nat)(ok:ow d P L m y B)(x:Int)(v:Value)(pre:List Int)(hlen:pre.length<=100)(w:World)(h:ih d P L m B v pre w)(bn D:Option Nat->World->Prop)(br:vs y B bn)(aR:vs y B D)(i0:bn v.ownBlock w)(af:Array Value)(r:Bool)(aa:∀v1 u,ih d P L m B v1 (pre++[x]) u->bn v1.ownBlock u->kh v.ownBlock v1.ownBlock w.heap.size->cp (jK L m y v.ownBlock) w u->Calls (ao A) 81 af u λe w2=>∃v2,e=.returned (.bool r)/\ih d P L m B v2 (pre++[x]) w2/\D v2.ownBlock w2/\kh v1.ownBlock v2.ownBlock u.heap.size/\cp (jK L m y v1.ownBlock) u w2):
 Calls (ao A) 80 #[.pointer (some ⟨L,0,none⟩),ah x,.func (.func 81) #[] af] w λe w'=>∃T,e=.returned (.bool r)/\ih d P L m B T pre w'/\D T.ownBlock w'/\kh v.ownBlock T.ownBlock w.heap.size/\cp (jK L m y v.ownBlock) w w':=by
 obtain⟨aZ,H,am,ap,aq⟩:=wL (A:=A);have aE:=al H;have aH:=al am;have aI:=al ap;have aJ:=al aq;have bl:=h.dD;have bf:=ok.q5;obtain⟨c,z⟩:∃W,w.alloc (.cells #[.pointer (some ⟨L,0,none⟩)] 133)=W:=⟨_,rfl⟩
 have K:w.grownBy c none:=by rw[<-z];exact bT
 have s1:c.heap.size=w.heap.size+1:=by rw[<-z];simp
 have aM:c.cell? ⟨w.heap.size,0,none⟩=some (.pointer (some ⟨L,0,none⟩)):=by rw[<-z];exact dR rfl
 have G:=h.fF ok K;have bc:c.cell? ⟨L,1,none⟩=some v:=aU G.blk;have a4:L<c.heap.size:=U;have a5:w.heap.size<c.heap.size:=U;have a6:w.heap.size≠L:=U;have C:=al G;have ek:=al h;have Z:=al K;have aG:=al z;have aD:=al aa;have aA:=al λ(l cap:Nat) (p:World) (q:((c.alloc (.cells #[ah x] 3)).drew).grownBy p v.ownBlock)=>(⟨(q.block L (by show L<(c.alloc _).heap.size;simp;omega) (λe=>by have:=lM h.own _ e.symm;omega)).trans ((dm a4).trans G.blk),trivial⟩:p.heap[L]?=some (.cells (sB d P m v) 176)/\True)
 clear h G K z H am ap aq s1 aa;go_enter_defers eY.f91,Tryz.ntmps80
 go_upto_region 1 with fail
 rw[aG.out];simp only[wV 22];have bj:=wW;go_region_held3 (λw'=>w'.cell? ⟨w.heap.size,0,none⟩=some (.pointer (some ⟨L,0,none⟩)))
  (first|exact x8|exact x9|go_keep)
  (first|((refine step_append_lies _ (by rfl) _ _ _ (by rfl) B 3 aZ (ah 0) 1 8 (ao.underlying22 A) aE.out aH.out aI.out aJ.out rfl U v pre.length (pre.map gi) (by rfl) (j4 C.out.own (λg _ aP=>dm aP)) ⟨c.heap.size,0,none⟩ 1 1 [ah x] (by rfl) (by rfl) (World.news_of_block (cs:=#[ah x]) (t:=3) (fr:=(0,0)) (heap_alloc_new c _)) (by simp[Value.oneCell']) U kj U cH (c.heap.size+1) aF ?_;intro l cap p ak q aj bk;have x8:p.cell? ⟨w.heap.size,0,none⟩=some (.pointer (some ⟨L,0,none⟩)):=q.cell (a:=⟨w.heap.size,0,none⟩) (show(c.alloc (.cells #[ah x] 3)).cell? ⟨w.heap.size,0,none⟩=_ from(hD _ _ _ a5).trans aM) (λe=>by have:=lM ek.out.own w.heap.size e.symm;omega);obtain⟨E,bm⟩:=aA.out l cap p q;have x9:(p.setCell ⟨L,1,none⟩ (.slice (some ⟨l,0,none⟩) (pre.length+1) cap)).cell? ⟨w.heap.size,0,none⟩=some (.pointer (some ⟨L,0,none⟩)):=(pL p a6).trans x8;have q1:=aU (o:=1) E;have bo:=b3 (o:=1) E;have aL:=al ak;have GW:=al q;have AT:=al aj;have az:=al E;clear ak q aj E)))
 all_goals (
  have gr:c.grownBy p v.ownBlock:=⟨GW.out.os,GW.out.tape,GW.out.output,cL (by show c.heap.size<=(c.alloc (.cells #[ah x] 3)).heap.size;simp) GW.out.size,λi H aW=>(GW.out.block i (by show i<(c.alloc (.cells #[ah x] 3)).heap.size;simp;omega) aW).trans (dm H)⟩
  have ag:(p.setCell ⟨L,1,none⟩ (.slice (some ⟨l,0,none⟩) (pre.length+1) cap)).heap[L]?=some (.cells (sB d P m (.slice (some ⟨l,0,none⟩) (pre.length+1) cap)) 176):=cU az.out;have I:p.grownBy (p.setCell ⟨L,1,none⟩ (.slice (some ⟨l,0,none⟩) (pre.length+1) cap)) (some L):=e7 (e6 _ _);have aw:p.ownsRow B 3 1 (.slice (some ⟨l,0,none⟩) (pre.length+1) cap) (pre++[x]).length ((pre++[x]).map gi):=by rw[List.length_append,List.map_append];exact aL.out
  have ai:=C.out.Cq ok gr (λr e=>(lM C.out.own r e).1) ag I aw;have ax:kh v.ownBlock (some l) w.heap.size:=by
   rcases AT.out with e|e
   .exact .inl e.symm
   .exact .inr ⟨l,rfl,U⟩
  have Y:cp (jK L m y v.ownBlock) w (p.setCell ⟨L,1,none⟩ (.slice (some ⟨l,0,none⟩) (pre.length+1) cap)):=((cp.jF Z.out).step gr (λr e=>.inl (.inr (.inr (.inr e.symm))))).step I (λr e=>.inl (.inl (by cases e;rfl)));have ar:bn (some l) (p.setCell ⟨L,1,none⟩ (.slice (some ⟨l,0,none⟩) (pre.length+1) cap)):=by
   have a2:=(br _ _ _ _ i0 Z.out aF).1;have aX:∀r,v.ownBlock=some r->r≠y/\(r<B\/some r=v.ownBlock):=λr e=>by have:=(lM C.out.own r e).1;have:=ok.sz;exact⟨U,.inr e.symm⟩
   have a3:bn (some l) p:=by
    have j:=br _ _ _ _ a2 gr aX;rcases AT.out with e|e
    .rw[e]at j;exact j.1
    .exact j.2 l U
   exact(br _ _ _ _ a3 I (λr e=>by cases e;exact⟨ok.yh.symm,.inl ok.q5⟩)).1
  generalize p.setCell ⟨L,1,none⟩ (.slice (some ⟨l,0,none⟩) (pre.length+1) cap)=bb at *;have a9:=Y.size;have aB:=al ai;have J:=al ax;have ad:=al Y;have aK:=al ar;clear ai ax Y ar gr ag I aw;go_wp2_with (go_at_call 81;refine Calls.mono (aD.out _ _ aB.out aK.out J.out ad.out) ?_;rintro e V ⟨v2,rfl,Q,a0,a7,ay⟩)
  have bg:=ok.gJ;have bh:=ok.sz;have aN:V.cell? ⟨w.heap.size,0,none⟩=some (.pointer (some ⟨L,0,none⟩)):=ay.cell x9 (λaY=>by
   rcases aY with e|e|e|e
   .dsimp only at e;omega
   .dsimp only at e;omega
   .dsimp only at e;omega
   .have e:=bD e
    dsimp only at e;rcases AT.out with e'|e'
    .have:=lM ek.out.own l e'
     omega
    .omega)
  have R:=Q.own;have aT:(pre++[x]).length=pre.length+1:=aF;rw[aT]at R;obtain⟨F,ae,rfl,bd,bi⟩:=M8 R;obtain⟨aS,aV⟩:=M6 R rfl;refine leaves_cons (f:=99) (args:=#[.pointer (some ⟨w.heap.size,0,none⟩)]) aF (by simp[go_sem]) ?_;refine(MK L m w.heap.size F pre.length ae d P U .returning V aN Q.blk aS).mono ?_;rintro e aC X ⟨rfl,rfl,aO,M⟩;have aQ:ih d P L m B (.slice (some ⟨F,0,none⟩) pre.length ae) pre X:=Q.Cq ok (e6 V none) aF aO M aV;have a1:D (some F) X:=(aR _ _ _ _ a0 M (λr e=>by cases e;exact⟨ok.yh.symm,.inl ok.q5⟩)).1;have a8:kh v.ownBlock (some F) w.heap.size:=J.out.trans a7 a9;have ba:cp (jK L m y v.ownBlock) w X:=(jK.step ad.out ay J.out).step M (λr e=>.inl (.inl (by cases e;rfl)));refine⟨_,results_tmp rfl _ _ _,?_⟩;exact⟨_,rfl,aQ,a1,a8,ba⟩)
end
section
variable{A:Array Func}
structure ts(A:Array Func)(ai:Type)(hM:Array Value)(y B:Nat) where
 Inv:Option Nat->ai->World->Prop
 stop:ai->List Int->Bool
 next:ai->List Int->ai
 keep:∀st,vs y B λg w=>Inv g st w
 call:∀st w v pre,Inv v.ownBlock st w->pre.length<=100->w.ownsRow B 3 1 v pre.length (pre.map gi)->Calls (ao A) 66 (#[v]++hM) w λe w'=>e=.returned (.bool (stop st pre))/\Inv v.ownBlock (next st pre) w'/\w.grownBy w' (some y)
section
variable{ai:Type}(stop:ai->List Int->Bool)(next:ai->List Int->ai)
def kF(go:Nat->List Int->ai->Bool×ai)(ways:Nat->Nat)(num:Nat->Int)(p:Nat)(pre:List Int)(st:ai):Nat->Bool×ai
 | 0=>(false,st)
 |j+1=>if (kF go ways num p pre st j).1 then kF go ways num p pre st j else
  if num j<=p/\ways (p-(num j).toNat)≠0 then go (p-(num j).toNat) (pre++[num j]) (kF go ways num p pre st j).2 else kF go ways num p pre st j
def na(d:h1):Nat->Nat->List Int->ai->Bool×ai
 | 0,_,pre,st=>(stop st pre,next st pre)
 |r+1,p,pre,st=>kF (na d r) (λq=>hg d r q) (d.num (d.n-(r+1))) p pre st (d.len (d.n-(r+1)))
end
def CM{ai:Type}{go:Nat->List Int->ai->Bool×ai}{pre:List Int}{st c:ai}(h:kF go ways num p pre st j=(false,c))(d:¬(num j<=p/\ways (p-(num j).toNat)≠0)):kF go ways num p pre st (j+1)=(false,c):=by rw[kF,h,if_neg aF,if_neg d]
def Jo{ai:Type}{go:Nat->List Int->ai->Bool×ai}{pre:List Int}{st c:ai}(h:kF go ways num p pre st j=(false,c))(d:num j<=p/\ways (p-(num j).toNat)≠0):kF go ways num p pre st (j+1)=go (p-(num j).toNat) (pre++[num j]) c:=by rw[kF,h,if_neg aF,if_pos d]
def CN{ai:Type}{go:Nat->List Int->ai->Bool×ai}{ways:Nat->Nat}{num:Nat->Int}{p:Nat}{pre:List Int}{st c:ai}{j:Nat}(h:kF go ways num p pre st j=(true,c)):∀k,kF go ways num p pre st (j+k)=(true,c)
 | 0=>h
 |k+1=>by have:=CN h k;rw[<-Nat.add_assoc,kF,this,if_pos rfl]
def vn(A:Array Func){ai:Type}{f:Array Value}{y:Nat}(E:ts A ai f y B)(d:h1)(P:jL)(L m:Nat)(r:Nat):Prop:=
 ∀(a p:Nat) (pre:List Int) (st:ai) (v:Value) (w:World),a+r=d.n->p<=999->pre.length+r<=10->ih d P L m B v pre w->E.Inv v.ownBlock st w->
  Calls (ao A) 65 #[.pointer (some ⟨L,0,none⟩),.agg #[ah a,ah p],.func (.func 66) #[] f] w λe w'=>∃c,e=.returned (.bool (na E.stop E.next d r p pre st).1)/\ih d P L m B c pre w'/\E.Inv c.ownBlock (na E.stop E.next d r p pre st).2 w'/\kh v.ownBlock c.ownBlock w.heap.size/\cp (jK L m y v.ownBlock) w w'
def Jm[S:Std A][eY:oA A](cG c d L a p:Nat)(f:Array Value)(w:World)(R:Ending->World->Prop)(i:w.cell? ⟨cG,0,none⟩=some (.pointer (some ⟨L,0,none⟩)))(l:w.cell? ⟨c,0,none⟩=some (ah a))(o:w.cell? ⟨c,1,none⟩=some (ah p))(j:w.cell? ⟨d,0,none⟩=some (.func (.func 66) #[] f))(h:Calls (ao A) 65 #[.pointer (some ⟨L,0,none⟩),.agg #[ah a,ah p],.func (.func 66) #[] f] w λe w'=>∃b,e=.returned (.bool b)/\R (.returned (.bool b)) w'):Calls (ao A) 81 #[.pointer (some ⟨cG,0,none⟩),.pointer (some ⟨c,0,none⟩),.pointer (some ⟨d,0,none⟩)] w R:=by
 have H:=al h;clear h;go_enter (S.f Tryz.func81),Tryz.ntmps81;go_wp2_with (go_at_call 65;refine H.out.mono ?_;rintro e w2 ⟨b,rfl,g⟩)
 exact g
def Js[S:Std A][eY:oA A]{ai:Type}{g:Array Value}{y:Nat}(E:ts A ai g y B)(d:h1)(P:jL)(L m:Nat)(ok:ow d P L m y B)(am:d.ok):vn A E d P L m 0:=by
 intro a p pre st v w ao hp hlen h l;have ap:=h.dD;obtain⟨c,f⟩:∃W,((w.alloc (.cells #[.pointer (some ⟨L,0,none⟩)] 133)).alloc (.cells #[ah a,ah p] 137)).alloc (.cells #[.func (.func 66) #[] g] 139)=W:=⟨_,rfl⟩
 have q:w.grownBy c none:=by rw[<-f];exact(bT.trans bT).trans bT
 have C:c.cell? ⟨w.heap.size,0,none⟩=some (.pointer (some ⟨L,0,none⟩)):=by rw[<-f];exact(hD _ _ _ (by simp only[cV];omega)).trans ((hD _ _ _ (by simp only[cV];omega)).trans (dR rfl))
 have V:c.cell? ⟨w.heap.size+1,0,none⟩=some (ah a):=by rw[<-f];exact(hD _ _ _ (by simp only[cV];omega)).trans (dR aF)
 have D:c.cell? ⟨w.heap.size+1+1,0,none⟩=some (.func (.func 66) #[] g):=by rw[<-f];exact dR aF
 have j:=h.fF ok q;have bx:c.cell? ⟨L,0,none⟩=some (.slice (some ⟨P.nN,P.sJ,none⟩) d.n P.qN):=aU j.blk;have F:c.cell? ⟨L,1,none⟩=some v:=aU j.blk;have hd:((a:Int) == (d.n:Int))=true:=by rw[beq_iff_eq];omega
 have I:=al j;have u:=al q;have M:=al f;have K:=al l;have J:=al λW (l:E.Inv v.ownBlock st W) (Z:W.ownsRow B 3 1 v pre.length (pre.map gi))=>E.call st W v pre l U Z
 clear h j q f l;go_enter (S.f Tryz.func65),Tryz.ntmps65;go_upto_region 1 with fail
 rw[M.out];go_quiet (fail);have i2:E.Inv v.ownBlock st (c.drewN nq).drew:=(E.keep st _ _ _ _ K.out (u.out.trans ((hl c nq).trans (gv (e6 _ _)))) aF).1;have G:=(I.out.fF ok (hl c nq)).fF ok (gv (e6 _ _));have H:cp (jK L m y v.ownBlock) w (c.drewN nq).drew:=(cp.jF u.out).step ((hl c nq).trans (gv (e6 _ _))) aF;have T:(c.drewN nq).cell? ⟨w.heap.size,0,none⟩=some (.pointer (some ⟨L,0,none⟩)):=C;have X:(c.drewN nq).cell? ⟨w.heap.size+1+1,0,none⟩=some (.func (.func 66) #[] g):=D;have Y:(c.drewN nq).cell? ⟨L,1,none⟩=some v:=F;clear C V D bx F;have aa:some w.heap.size≠some y:=by have:=ok.sz;simp;omega
 have ad:some (w.heap.size+1+1)≠some y:=by have:=ok.sz;simp;omega
 have ae:some L≠some y:=by have:=ok.yh;simp;omega
 generalize c.drewN nq=o at *;have z:=al G;have R:=al H;have Q:=al i2;clear G H i2;go_wp2;go_region_held3 (λw'=>w'.cell? ⟨w.heap.size,0,none⟩=some (.pointer (some ⟨L,0,none⟩))/\w'.cell? ⟨w.heap.size+1+1,0,none⟩=some (.func (.func 66) #[] g)/\w'.cell? ⟨L,1,none⟩=some v)
  (first|exact⟨ag,aj,ak⟩|go_keep)
  (first|(go_at_call 66;refine(J.out _ Q.out z.out.own).mono ?_;rintro e w3 ⟨rfl,af,i⟩;have ag:=i.cell (w:=o.drew) T aa;have aj:=i.cell (w:=o.drew) X ad;have ak:=i.cell (w:=o.drew) Y ae))
 all_goals (
  go_wp2;go_ret;exact⟨v,rfl,z.out.keep ok i (λr e=>.inl (by cases e;rfl)),af,.inl rfl,R.out.step i (λr e=>.inl (.inr (.inr (.inl (by cases e;rfl)))))⟩)
end
end Go.aO
