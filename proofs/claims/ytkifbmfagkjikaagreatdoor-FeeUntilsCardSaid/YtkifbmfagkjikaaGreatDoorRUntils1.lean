/- A part of FeeUntils: no conditions. -/
import Derived.Test.YtkifbmfagkjikaaGreatDoorRUntils0
set_option maxHeartbeats 8000000
set_option maxRecDepth 100000
set_option linter.all false
namespace Go.aO
open Go.Proofs Go.RowKit
section
variable{A:Array Func}
def qx.iV{w w':World}{d:dw}{p:gz}{T:Nat}(K:qx w d p w')(a':T<w.heap.size):iZ (iV T w') d p:=by
 obtain⟨⟨gg,l,hF,_⟩,⟨z,m,y,_⟩,u⟩:=K.plain;have one:∀{q:Option Addr} {n b:Nat} {f:Nat->Int},kU w' q n f->q=some ⟨b,0,none⟩->w.heap.size<=b->kU (Go.aO.iV T w') q n f:=λ{q n b f} h e hb ak=>by obtain⟨aE,o,c,k⟩:=h ak;rw[e]at c;cases c;exact⟨b,0,e,k.lK (ma U)⟩
 refine⟨one K.raw.first l hF,λak=>?_,λi ad=>?_,one K.raw.free m y⟩
 .obtain⟨g,B,cur,e,hb,J,ax⟩:=xk K.own ak
  obtain⟨b,o,c,k⟩:=K.raw.kM ak;injection e with ay C D
  rw[ay]at c;cases c;have j:g≠T:=U;exact⟨g,0,ay,λi ad=>⟨(World.cell?_of_block (ma j)).trans (k i ad).1,(World.cell?_of_block (ma j)).trans (k i ad).2⟩⟩
 .obtain⟨b,r,I,_⟩:=u i ad
  exact one (K.raw.cQ i ad) r I
structure S'(w:World)(T:Nat)(S6:Nat->dw)(pp:Nat->gz)(B:Nat):Prop where
 small:∀i,(S6 i).small
 raw:∀i,iZ (iV T w) (S6 i) (pp i)
 cell:∀i,i<3->w.cell? ⟨B,i*4,none⟩=some (.int .i64 (S6 i).kinds)/\w.cell? ⟨B,i*4+1,none⟩=some (.slice (pp i).eh (S6 i).c' (pp i).cA)/\w.cell? ⟨B,i*4+2,none⟩=some (.slice (pp i).hH (S6 i).bk (pp i).dq)/\w.cell? ⟨B,i*4+3,none⟩=some (.slice (pp i).ei (S6 i).b' (pp i).dc)
 apart:B≠T
def S'.keep{w w':World}{T B:Nat}{c:Nat->dw}{d:Nat->gz}(h:S' w T c d B)(g:w.grownBy w' (some T)):S' w' T c d B:=by
 have hb:some B≠some T:=λe=>h.apart (bD e)
 exact⟨h.small,λi=>(h.raw i).keep (Bv g),λi ad=>⟨g.cell (h.cell i ad).1 hb,g.cell (h.cell i ad).2.1 hb,g.cell (h.cell i ad).2.2.1 hb,g.cell (h.cell i ad).2.2.2 hb⟩,h.apart⟩
def Hq.three{w w':World}{T B:Nat}{L:Value}{d:dw}{p:gz}(h:Hq w w' T L d p B)(l:d.small)(au:iZ (iV T w) d p):∃(g':Nat) (D:cC) (P:eg) (d2:dw) (c:gz),D.ok/\e' (iV T w') D P/\S' w' T (λi=>match i with|0=>d|1=>D.raw|_=>d2) (λi=>match i with|0=>p|1=>P.raw|_=>c) B/\g'<=1000/\fS w' T L g'/\w.grownBy w' (some T):=by
 obtain⟨g',D,P,d2,c,ok,s2,a',j,g,hb,ag,aA,f⟩:=h;refine⟨g',D,P,d2,c,ok,a',⟨λi=>?_,λi=>?_,λi ad=>?_,g⟩,ag,aA,f⟩
 .match i with
  | 0=>exact l
  | 1=>exact cC.rl ok
  |_+2=>exact s2
 .match i with
  | 0=>exact au.keep (Bv f)
  | 1=>exact a'.raw
  |_+2=>exact j
 .match i,ad with
  | 0,_=>exact⟨(aU (o:=0) hb).trans rfl,(aU (o:=1) hb).trans rfl,(aU (o:=2) hb).trans rfl,(aU (o:=3) hb).trans rfl⟩
  | 1,_=>exact⟨(aU (o:=4) hb).trans rfl,(aU (o:=5) hb).trans rfl,(aU (o:=6) hb).trans rfl,(aU (o:=7) hb).trans rfl⟩
  | 2,_=>exact⟨(aU (o:=8) hb).trans rfl,(aU (o:=9) hb).trans rfl,(aU (o:=10) hb).trans rfl,(aU (o:=11) hb).trans rfl⟩
def S7(a b c:Int)(j:Nat):Int:=match j with|0=>a|1=>b|_=>c
def Td{w:World}{b:Nat}{x y z:Int}{t:TypeId}(h:w.heap[b]?=some (.cells #[.int .i64 x,.int .i64 y,.int .i64 z] t)):gn w b 0 3 (S7 x y z):=by
 intro j aI;have:=aU (o:=0+j) h;rcases j with _|_|_|j
 .exact this
 .exact this
 .exact this
 .omega
def Tr[S:Std A][P:hA A][N:Hi A](dV:∀w,Calls (ao A) 5 #[] w λe w'=>e=.returned (.bool true)/\w=w')(d:dw)(p:gz)(r0:Int)(q:Option Addr)(n M:Nat)(f:Nat->Int)(kind left cm:Int)(L:Value)(w:World)(h:iZ w d p)(au:kU w q n f)(fD:∀w',w.grownBy w' none->ly w' L w'.heap.size)(cf:L.oneCell'=true):
 Calls (ao A) 3 #[.agg (eB d p),.agg #[.int .i64 r0,.slice q n M],.int .i64 kind,.int .i64 left,.int .i64 cm,L] w λe _=>e=.returned (.bool true):=by
 obtain⟨u,Q⟩:∃u,(w.alloc (.cells (eB d p) 25)).alloc (.cells #[.int .i64 r0,.slice q n M] 27)=u:=⟨_,rfl⟩
 have aO:w.grownBy u none:=by rw[<-Q];exact bT.trans bT
 have bM:u.heap.size=w.heap.size+2:=by rw[<-Q];simp
 have bB:u.heap[w.heap.size]?=some (.cells (eB d p) 25):=by rw[<-Q];exact(dm aF).trans (fM _ _)
 have bd:u.heap[w.heap.size+1]?=some (.cells #[.int .i64 r0,.slice q n M] 27):=by rw[<-Q,show w.heap.size+1=(w.alloc (.cells (eB d p) 25)).heap.size by simp];exact fM _ _
 have X:=al bB;have aB:=al bd;have bR:=al aO;have aJ:=al bM;have bQ:=al Q;have bZ:=al h;have bX:=al au;have bW:=al fD;have aG:=al (SX (A:=A) d p u (h.keep aO));have az:=al dV;clear aO bM bB bd Q h au fD dV;go_enter (S.f Tryz.func3),Tryz.ntmps3;go_upto_region 1 with fail
 have aR:=bQ.out;dsimp only[eB]at aR;rw[aR];clear aR;have aW:u.cell? ⟨w.heap.size,0,none⟩=some (.int .i64 d.kinds):=(aU (o:=0) X.out).trans rfl;have aX:u.cell? ⟨w.heap.size,1,none⟩=some (.slice p.eh d.c' p.cA):=(aU (o:=1) X.out).trans rfl;have aY:u.cell? ⟨w.heap.size,2,none⟩=some (.slice p.hH d.bk p.dq):=(aU (o:=2) X.out).trans rfl;have aZ:u.cell? ⟨w.heap.size,3,none⟩=some (.slice p.ei d.b' p.dc):=(aU (o:=3) X.out).trans rfl;by_cases af:d.small;rotate_left
 .have G:=al af
  clear af;go_wp2_with (first
   |(go_at_call 4;refine aG.out.mono ?_;rintro e w2 ⟨⟨b,rfl,hb⟩,ag⟩;have Z:b=true:=(by cases b with|true=>rfl|false=>exact absurd (hb.1 rfl) G.out);subst Z;clear ag hb)
   |(go_at_call 5;refine(az.out _).mono ?_;rintro e w' ⟨rfl,rfl⟩))
  go_ret;rfl
 have G:=al af;clear af;by_cases ak:n<=20;rotate_left
 .have ae:decide ((n:Int)>20)=true:=k4
  have aT:decide ((20:Int)<n)=true:=ae;have bF:decide (20<n)=true:=k4;go_wp2_with (first
   |(go_at_call 4;refine aG.out.mono ?_;rintro e w2 ⟨⟨b,rfl,hb⟩,ag⟩;have Z:b=false:=hb.2 G.out;subst Z;have bL:=(aU (o:=1) ((ag.block _ (by have:=aJ.out;omega) aF).trans aB.out)).trans rfl;clear ag hb)
   |(go_at_call 5;refine(az.out _).mono ?_;rintro e w' ⟨rfl,rfl⟩))
  go_ret;rfl
 have ae:decide ((n:Int)>20)=false:=nd;have aT:decide ((20:Int)<n)=false:=ae;have bF:decide (20<n)=false:=nd;go_upto_region 4 with(first
  |(go_at_call 4;refine aG.out.mono ?_;rintro e w2 ⟨⟨b,rfl,hb⟩,ag⟩;have Z:b=false:=hb.2 G.out;subst Z;have bL:=(aU (o:=1) ((ag.block _ (by have:=aJ.out;omega) aF).trans aB.out)).trans rfl;have aD:=al (bR.out.trans ag);have a2:=al ag;clear ag hb)
  |(go_at_call 6;refine(SY (A:=A) L w2 (bW.out w2 aD.out) cf).mono ?_;rintro e w3 ⟨rfl,bt,bk⟩;have b0:=al bt;have aE:=al bk;clear bt bk))
 clear aW aX aY aZ ae aT bF bL;have bh:=aD.out.trans aE.out;have R:=aJ.out;have cG:w3.heap[w.heap.size]?=some (.cells (eB d p) 25):=((a2.out.trans aE.out).block _ U aF).trans X.out;have aK:w3.heap[w.heap.size+1]?=some (.cells #[.int .i64 r0,.slice q n M] 27):=((a2.out.trans aE.out).block _ U aF).trans aB.out;have aW:w3.cell? ⟨w.heap.size,0,none⟩=some (.int .i64 d.kinds):=(aU (o:=0) cG).trans rfl;have aX:w3.cell? ⟨w.heap.size,1,none⟩=some (.slice p.eh d.c' p.cA):=(aU (o:=1) cG).trans rfl;have aY:w3.cell? ⟨w.heap.size,2,none⟩=some (.slice p.hH d.bk p.dq):=(aU (o:=2) cG).trans rfl;have aZ:w3.cell? ⟨w.heap.size,3,none⟩=some (.slice p.ei d.b' p.dc):=(aU (o:=3) cG).trans rfl;have cI:w3.cell? ⟨w.heap.size+1,0,none⟩=some (.int .i64 r0):=(aU (o:=0) aK).trans rfl;have cJ:w3.cell? ⟨w.heap.size+1,1,none⟩=some (.slice q n M):=(aU (o:=1) aK).trans rfl;have ch:=aD.out.size;generalize w2.heap.size=T at *;have a0:=al (SV bh ch);have a9:=al (bZ.out.keep a0.out);have bY:=al (bX.out.keep a0.out);clear cG aK bh R;go_wp2_with (go_at_call 7;refine(S1 (A:=A) T 0 L U d G.out p r0 q n M f ak w3 a9.out bY.out b0.out).mono ?_;rintro e cT ⟨B,rfl,bs⟩;obtain⟨ce,D,cc,d2,cz,ok,cg,ax,cN,bu,ci⟩:=bs.three G.out a9.out;have bO:=al ax;have b1:=al bu;clear bs ax bu ci cg ok)
 clear aW aX aY aZ cI cJ;generalize (λi=>match i with|0=>d|1=>D.raw|_=>d2)=c at *;generalize (λi=>match i with|0=>p|1=>cc.raw|_=>cz)=l at *;go_loopw [15] (λi wr=>∃k g:Nat,k<=3/\i=.int .i64 k/\g<=1000+5*k/\fS wr T L g/\S' wr T c l B) (λi _=>3-(TH i).toNat)
 case atStart=>exact⟨0,ce,U,by go_num,U,b1.out,bO.out⟩
 case round=>
  obtain⟨k,g,aa,rfl,ag,aA,ax⟩:=hrel;have ba:=al aA;have H:=al ax;clear aA ax;by_cases aS:k<3;rotate_left
  .have cv:decide ((k:Int)<3)=false:=nd
   have cw:decide (k<3)=false:=by simpa using aS
   go_wp2_with (go_at_call 5;refine(az.out _).mono ?_;rintro e w' ⟨rfl,rfl⟩)
   go_ret;rfl
  have cv:decide ((k:Int)<3)=true:=k4;have cw:decide (k<3)=true:=by simpa using aS
  have q1:(k:Int)<3:=U;have cO:(0:Int)<=k:=U;obtain⟨bx,c1,c2,c3⟩:=H.out.cell k aS;have a':=ba.out.lt;go_upto_region 9 with(go_at_call 8;refine(Le (A:=A) (c k) (H.out.small k) (l k) wr (H.out.raw k).un).mono ?_;rintro e E ⟨ia,rfl,bi,bl⟩;have bS:=al (bi.iV a');have a3:=al bl;clear bi bl)
  clear bx c1 c2 c3;have aL:=fM E (.cells (eB (c k) ia) 25);have aq:=dU E (.cells (eB (c k) ia) 25) none;have cK:(E.alloc (.cells (eB (c k) ia) 25)).heap.size=E.heap.size+1:=aF;dsimp only[eB]at aL aq cK;generalize World.alloc E _=aV at *;have aQ:=a3.out.trans aq;have b2:=al (show fS aV T L g from ba.out.keep λb hb=>aQ.block b hb aF);have bU:=al (bS.out.keep (Bv (wE aq (some T))));have bP:=al (H.out.keep (wE aQ (some T)));have bN:=al aL;have cM:T<E.heap.size:=by have:=a3.out.size;omega
  clear aL aq aQ;go_upto_region 10 with(first
   |(go_at_call 9;refine(PG (A:=A) T g L U 2 U aV b2.out).mono ?_;rintro e aw ⟨fG,rfl,_,bv,bm⟩;have b3:=al bv;have a4:=al bm;clear bv bm)
   |(go_at_call 9;refine(PG (A:=A) T (g+1) L U 60 U _ (b3.out.alloc _)).mono ?_;rintro e cF ⟨gK,rfl,_,bw,bn⟩;have b4:=al bw;have a5:=al bn;clear bw bn)
   |(go_at_call 9;refine(PG (A:=A) T (g+1+1) L U 119 U cF b4.out).mono ?_;rintro e ah ⟨C,rfl,_,bz,bo⟩;have b5:=al bz;have a6:=al bo;clear bz bo)
   |(go_at_call 9;refine(PG (A:=A) T (g+1+1+1) L U 20 U _ (b5.out.alloc _)).mono ?_;rintro e cH ⟨m,rfl,_,bA,bp⟩;have b7:=al bA;have a7:=al bp;clear bA bp)
   |(go_at_call 9;refine(PG (A:=A) T (g+1+1+1+1) L U 5 U cH b7.out).mono ?_;rintro e G1 ⟨r,rfl,_,bC,bq⟩;have b8:=al bC;have a8:=al bq;clear bC bq))
  have bf:=fM G1 (.cells #[.int .i64 cm,.int .i64 m,.int .i64 r] 3);have bg:=dU G1 (.cells #[.int .i64 cm,.int .i64 m,.int .i64 r] 3) none;have cL:(G1.alloc (.cells #[.int .i64 cm,.int .i64 m,.int .i64 r] 3)).heap.size=G1.heap.size+1:=aF;have bK:=b8.out.alloc (.cells #[.int .i64 cm,.int .i64 m,.int .i64 r] 3);generalize World.alloc G1 _=W at *;have aP:((ah.alloc (.cells #[.int .i64 left,.int .i64 gK,.int .i64 C] 3))).grownBy W (some T):=(a7.out.trans a8.out).trans (wE bg _);have av:(aw.alloc (.cells #[.int .i64 kind,.int .i64 0,.int .i64 fG] 3)).grownBy W (some T):=((a5.out.trans a6.out).trans bT).trans aP;have ar:aV.grownBy W (some T):=(a4.out.trans bT).trans av;have cA:=a4.out.size;have cB:=av.size;have cC:aw.heap.size+1<=ah.heap.size:=by have:=(a5.out.trans a6.out).size;simpa using this
  have cD:ah.heap.size+1<=G1.heap.size:=by have:=(a7.out.trans a8.out).size;simpa using this
  have bG:gn W aw.heap.size 0 3 (S7 kind 0 fG):=Td ((av.block _ aF (λe=>by have:=bD e;omega)).trans (fM _ _));have bI:gn W ah.heap.size 0 3 (S7 left gK C):=Td ((aP.block _ aF (λe=>by have:=bD e;omega)).trans (fM _ _));have bJ:gn W G1.heap.size 0 3 (S7 cm m r):=Td bf;have aH:=al (bP.out.keep ar);have bV:=al (bU.out.keep (Bv ar));have aj:=al ((ar.block _ U (λe=>by have:=bD e;omega)).trans bN.out);have b6:=al bK;have b9:=al bG;have ca:=al bI;have cb:=al bJ;clear bf bg cL bK aP av ar cA cB cC cD bG bI bJ;generalize aw.heap.size=bH at *;generalize ah.heap.size=aM at *;generalize G1.heap.size=aN at *;generalize E.heap.size=df at *;have I:=al (show ∀V:World,W.grownBy V none->(V.cell? ⟨df,0,none⟩=some (.int .i64 (c k).kinds)/\V.cell? ⟨df,1,none⟩=some (.slice ia.eh (c k).c' ia.cA)/\V.cell? ⟨df,2,none⟩=some (.slice ia.hH (c k).bk ia.dq)/\V.cell? ⟨df,3,none⟩=some (.slice ia.ei (c k).b' ia.dc))from λV g=>
   ⟨g.cell ((aU (o:=0) aj.out).trans rfl) aF,g.cell ((aU (o:=1) aj.out).trans rfl) aF,g.cell ((aU (o:=2) aj.out).trans rfl) aF,g.cell ((aU (o:=3) aj.out).trans rfl) aF⟩)
  have K:=al (show ∀V:World,W.grownBy V none->(V.cell? ⟨B,k*4,none⟩=some (.int .i64 (c k).kinds)/\V.cell? ⟨B,k*4+1,none⟩=some (.slice (l k).eh (c k).c' (l k).cA)/\V.cell? ⟨B,k*4+2,none⟩=some (.slice (l k).hH (c k).bk (l k).dq)/\V.cell? ⟨B,k*4+3,none⟩=some (.slice (l k).ei (c k).b' (l k).dc))from λV g=>
   have h:=aH.out.cell k aS
   ⟨g.cell h.1 aF,g.cell h.2.1 aF,g.cell h.2.2.1 aF,g.cell h.2.2.2 aF⟩)
  have J:=al (show ∀(V:World) (j:Nat),W.grownBy V none->j<3->(V.cell? ⟨bH,j,none⟩=some (.int .i64 (S7 kind 0 fG j))/\V.cell? ⟨aM,j,none⟩=some (.int .i64 (S7 left gK C j))/\V.cell? ⟨aN,j,none⟩=some (.int .i64 (S7 cm m r j)))from λV j g aI=>
   ⟨by have:=g.cell (b9.out j aI) aF;rwa [Nat.zero_add]at this,by have:=g.cell (ca.out j aI) aF;rwa [Nat.zero_add]at this,by have:=g.cell (cb.out j aI) aF;rwa [Nat.zero_add]at this⟩)
  have oy:=al (show ∀V:World,W.grownBy V none->iZ V (c k) ia from λV g=>bV.out.un.keep g);have bc:=al (show ∀V:World,W.grownBy V none->iZ V (c k) (l k)from λV g=>(aH.out.raw k).un.keep g);have bj:=(H.out.small k).fit;have a1:=al bj;clear bj;go_wp2;go_loopw [20] (λi wr=>∃j:Nat,j<=3/\i=.int .i64 j/\W.grownBy wr none) (λi _=>3-(TH i).toNat)
  case atStart=>exact⟨0,U,by go_num,e6 _ _⟩
  case round=>
   obtain⟨j,aI,rfl,br⟩:=hrel;have F:=al br;clear br;by_cases z:j<3
   .have cx:decide ((j:Int)<3)=true:=k4
    have cy:decide (j<3)=true:=by simpa using z
    have cP:(j:Int)<3:=U;have cQ:(0:Int)<=j:=U;obtain⟨R,ay,bE⟩:∃R ay,S9 (c k) (S7 kind 0 fG j) (S7 left gK C j) (S7 cm m r j)=(R,ay):=⟨_,_,rfl⟩
    have bb:=al bE;clear bE;have ae:(R !=R)=false:=aF;have aT:(ay !=ay)=false:=aF;have y:=al (show W.grownBy wr.drew none from gv F.out);obtain⟨cj,ck,cl,cn⟩:=I.out _ F.out;obtain⟨co,cp,cq⟩:=J.out _ j F.out z;go_upto_region 13 with fail
    go_region_held3 (λV=>(V.cell? ⟨df,0,none⟩=some (.int .i64 (c k).kinds)/\V.cell? ⟨df,1,none⟩=some (.slice ia.eh (c k).c' ia.cA)/\V.cell? ⟨df,2,none⟩=some (.slice ia.hH (c k).bk ia.dq)/\V.cell? ⟨df,3,none⟩=some (.slice ia.ei (c k).b' ia.dc))/\(V.cell? ⟨bH,j,none⟩=some (.int .i64 (S7 kind 0 fG j))/\V.cell? ⟨aM,j,none⟩=some (.int .i64 (S7 left gK C j))/\V.cell? ⟨aN,j,none⟩=some (.int .i64 (S7 cm m r j))))
     (first|with_reducible exact⟨I.out _ y.out,J.out _ j y.out z⟩|with_reducible exact⟨I.out _ Y.out,J.out _ j Y.out z⟩)
     (first|(go_at_call 10;refine(TG (A:=A) (c k) a1.out ia (S7 kind 0 fG j) (S7 left gK C j) (S7 cm m r j) _ (oy.out _ y.out)).mono ?_;rintro e cE ⟨rfl,ag⟩;rw[bb.out];dsimp only;have Y:=al (y.out.trans ag);clear ag))
    have ai:=al (show W.grownBy cE.drew none from gv Y.out);obtain⟨cr,cs,ct,cu⟩:=K.out _ Y.out;obtain⟨co,cp,cq⟩:=J.out _ j Y.out z;go_upto_region 14 with fail
    go_region_held3 (λV=>(V.cell? ⟨B,k*4,none⟩=some (.int .i64 (c k).kinds)/\V.cell? ⟨B,k*4+1,none⟩=some (.slice (l k).eh (c k).c' (l k).cA)/\V.cell? ⟨B,k*4+2,none⟩=some (.slice (l k).hH (c k).bk (l k).dq)/\V.cell? ⟨B,k*4+3,none⟩=some (.slice (l k).ei (c k).b' (l k).dc))/\(V.cell? ⟨bH,j,none⟩=some (.int .i64 (S7 kind 0 fG j))/\V.cell? ⟨aM,j,none⟩=some (.int .i64 (S7 left gK C j))/\V.cell? ⟨aN,j,none⟩=some (.int .i64 (S7 cm m r j))))
     (first|with_reducible exact⟨K.out _ ai.out,J.out _ j ai.out z⟩|with_reducible exact⟨K.out _ aC.out,J.out _ j aC.out z⟩)
     (first|(go_at_call 11;refine(TB (A:=A) (c k) a1.out (l k) (S7 kind 0 fG j) (S7 left gK C j) (S7 cm m r j) _ (bc.out _ ai.out)).mono ?_;rintro e cR ⟨rfl,ag⟩;rw[bb.out];dsimp only;have aC:=al (ai.out.trans ag);clear ag))
    go_wp2;exact⟨⟨j+1,U,by push_cast;rfl,aC.out⟩,by show 3-((j:Int)+1).toNat<3-(j:Int).toNat;omega⟩
   .have cx:decide ((j:Int)<3)=false:=nd
    have cy:decide (j<3)=false:=by simpa using z
    have y:=al (show W.grownBy wr.drew none from gv F.out);obtain⟨cj,ck,cl,cn⟩:=I.out _ F.out;obtain⟨cr,cs,ct,cu⟩:=K.out _ F.out;have ap:=al (H.out.small k);go_upto_region 17 with fail
    go_region_held3 (λV=>(V.cell? ⟨df,0,none⟩=some (.int .i64 (c k).kinds)/\V.cell? ⟨df,1,none⟩=some (.slice ia.eh (c k).c' ia.cA)/\V.cell? ⟨df,2,none⟩=some (.slice ia.hH (c k).bk ia.dq)/\V.cell? ⟨df,3,none⟩=some (.slice ia.ei (c k).b' ia.dc))/\(V.cell? ⟨B,k*4,none⟩=some (.int .i64 (c k).kinds)/\V.cell? ⟨B,k*4+1,none⟩=some (.slice (l k).eh (c k).c' (l k).cA)/\V.cell? ⟨B,k*4+2,none⟩=some (.slice (l k).hH (c k).bk (l k).dq)/\V.cell? ⟨B,k*4+3,none⟩=some (.slice (l k).ei (c k).b' (l k).dc)))
     (first|with_reducible exact⟨I.out _ y.out,K.out _ y.out⟩|with_reducible exact⟨I.out _ am.out,K.out _ am.out⟩)
     (first|(go_at_call 12;refine(Tw (A:=A) (c k) ia (l k) (by have:=ap.out.F;omega) (by have:=ap.out.R;omega) (by have:=ap.out.h4;omega) (λi ad=>by have:=ap.out.P i ad;omega) _ (oy.out _ y.out) (bc.out _ y.out)).mono ?_;rintro e cS ⟨rfl,ag⟩;have am:=al (y.out.trans ag);clear ag))
    go_wp2;exact⟨⟨k+1,g+1+1+1+1+1,U,by push_cast;rfl,U,b6.out.keep λb hb=>am.out.block b hb aF,aH.out.keep (wE am.out _)⟩,by show 3-((k:Int)+1).toNat<3-(k:Int).toNat;omega⟩
end
end Go.aO
