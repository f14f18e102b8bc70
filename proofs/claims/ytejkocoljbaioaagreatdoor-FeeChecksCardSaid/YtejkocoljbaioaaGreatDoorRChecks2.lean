/- A part of FeeChecks: no conditions. -/
import Derived.Test.YtejkocoljbaioaaGreatDoorRChecks1
set_option maxHeartbeats 8000000
set_option maxRecDepth 100000
set_option linter.all false
namespace Go.aO
open Go.Proofs Go.RowKit
section
variable{A:Array Func}
def Tx(s x:Tr)(j:Nat):Tr:=match j with|0=>s|_=>x
def h3.raw(s:h3):Tr:=⟨s.k,s.lm,s.cj,s.fm,s.b5⟩
def Uy{w:World}{b:Nat}{s x:Tr}(h:w.heap[b]?=some (.cells (s.v++x.v) 31))(j:Nat)(aI:j<2):
 w.cell? ⟨b,j*5,none⟩=some (ah (Tx s x j).k)/\w.cell? ⟨b,j*5+1,none⟩=some (ah (Tx s x j).a)/\w.cell? ⟨b,j*5+2,none⟩=some (ah (Tx s x j).b)/\w.cell? ⟨b,j*5+3,none⟩=some (ah (Tx s x j).c)/\w.cell? ⟨b,j*5+4,none⟩=some (ah (Tx s x j).e):=by
 rcases j with _|_|j
 .exact⟨(aU (o:=0) h).trans rfl,(aU (o:=1) h).trans rfl,(aU (o:=2) h).trans rfl,(aU (o:=3) h).trans rfl,(aU (o:=4) h).trans rfl⟩
 .exact⟨(aU (o:=5) h).trans rfl,(aU (o:=6) h).trans rfl,(aU (o:=7) h).trans rfl,(aU (o:=8) h).trans rfl,(aU (o:=9) h).trans rfl⟩
 .omega
abbrev Ts(V:World)(b o c f g:Nat)(d:dw)(p:gz):Prop:=V.cell? ⟨b,o,none⟩=some (ah d.kinds)/\V.cell? ⟨b,c,none⟩=some (.slice p.eh d.c' p.cA)/\V.cell? ⟨b,f,none⟩=some (.slice p.hH d.bk p.dq)/\V.cell? ⟨b,g,none⟩=some (.slice p.ei d.b' p.dc)
abbrev TJ(V:World)(b o c d f g:Nat)(s:Tr):Prop:=V.cell? ⟨b,o,none⟩=some (ah s.k)/\V.cell? ⟨b,c,none⟩=some (ah s.a)/\V.cell? ⟨b,d,none⟩=some (ah s.b)/\V.cell? ⟨b,f,none⟩=some (ah s.c)/\V.cell? ⟨b,g,none⟩=some (ah s.e)
abbrev TF(V:World)(bH hL S9 c j:Nat)(f1 f2 f3 f4:Nat->Int):Prop:=V.cell? ⟨bH,j,none⟩=some (ah (f1 j))/\V.cell? ⟨hL,j,none⟩=some (ah (f2 j))/\V.cell? ⟨S9,j,none⟩=some (ah (f3 j))/\V.cell? ⟨c,j,none⟩=some (ah (f4 j))
def TM{w:World}{b:Nat}{f:Nat->Int}{j:Nat}(h:gn w b 0 3 f)(aI:j<3):w.cell? ⟨b,j,none⟩=some (ah (f j)):=by have:=h j aI;rwa [Nat.zero_add]at this
def T8[S:Std A][P:hA A][N:Hi A](dV:∀w,Calls (ao A) 5 #[] w λe w'=>e=.returned (.bool true)/\w=w')(d:dw)(p:gz)(r0:Int)(q:Option Addr)(n X:Nat)(f:Nat->Int)(s:Tr)(kind day left aP:Int)(L:Value)(w:World)(h:iZ w d p)(au:kU w q n f)(fD:∀w',w.grownBy w' none->ly w' L w'.heap.size)(cr:L.oneCell'=true):
 Calls (ao A) 3 #[.agg (eB d p),.agg #[ah r0,.slice q n X],.agg s.v,ah kind,ah day,ah left,ah aP,L] w λe _=>e=.returned (.bool true):=by
 obtain⟨C,am⟩:∃C,((w.alloc (.cells (eB d p) 25)).alloc (.cells #[ah r0,.slice q n X] 27)).alloc (.cells s.v 31)=C:=⟨_,rfl⟩
 have aM:=Tw w (.cells (eB d p) 25) (.cells #[ah r0,.slice q n X] 27);have a3:w.grownBy C none:=by rw[<-am];exact aM.2.2.trans bT
 have b0:C.heap.size=w.heap.size+3:=by rw[<-am];simp
 have bB:C.heap[w.heap.size]?=some (.cells (eB d p) 25):=by rw[<-am];exact(dm cH).trans aM.1
 have bw:C.heap[w.heap.size+1]?=some (.cells #[ah r0,.slice q n X] 27):=by rw[<-am];exact(dm aF).trans aM.2.1
 have cG:C.heap[w.heap.size+1+1]?=some (.cells s.v 31):=by rw[<-am];have:=fM ((w.alloc (.cells (eB d p) 25)).alloc (.cells #[ah r0,.slice q n X] 27)) (.cells s.v 31);rwa [cV,cV]at this
 have av:=al bB;have aX:=al bw;have b3:=al cG;have b5:=al a3;have a1:=al b0;have b4:=al am;have ce:=al h;have cb:=al au;have ca:=al fD;have a0:=al (SX (A:=A) d p C (h.keep a3));have aW:=al dV;clear a3 b0 bB bw cG am h au fD dV aM;go_enter (S.f Tryz.func3),Tryz.ntmps3;go_upto_region 1 with fail
 have a8:=b4.out;dsimp only[eB,Tr.v]at a8;rw[a8];clear a8;have a9:C.cell? ⟨w.heap.size,0,none⟩=some (ah d.kinds):=(aU (o:=0) av.out).trans rfl;have ba:C.cell? ⟨w.heap.size,1,none⟩=some (.slice p.eh d.c' p.cA):=(aU (o:=1) av.out).trans rfl;have bb:C.cell? ⟨w.heap.size,2,none⟩=some (.slice p.hH d.bk p.dq):=(aU (o:=2) av.out).trans rfl;have bc:C.cell? ⟨w.heap.size,3,none⟩=some (.slice p.ei d.b' p.dc):=(aU (o:=3) av.out).trans rfl;by_cases af:d.small;rotate_left
 .have ar:=al af
  clear af;go_wp2_with (first
   |(go_at_call 4;refine a0.out.mono ?_;rintro e w2 ⟨⟨b,rfl,hb⟩,ag⟩;have aD:b=true:=(by cases b with|true=>rfl|false=>exact absurd (hb.1 rfl) ar.out);subst aD;clear ag hb)
   |(go_at_call 5;refine(aW.out _).mono ?_;rintro e w' ⟨rfl,rfl⟩))
  go_ret;rfl
 have ar:=al af;clear af;by_cases ak:n<=20;rotate_left
 .have aG:decide ((n:Int)>20)=true:=k4
  go_wp2_with (first
   |(go_at_call 4;refine a0.out.mono ?_;rintro e w2 ⟨⟨b,rfl,hb⟩,ag⟩;have aD:b=false:=hb.2 ar.out;subst aD;have bX:=(aU (o:=1) ((ag.block _ (by have:=a1.out;omega) aF).trans aX.out)).trans rfl;clear ag hb)
   |(go_at_call 5;refine(aW.out _).mono ?_;rintro e w' ⟨rfl,rfl⟩))
  go_ret;rfl
 have aG:decide ((n:Int)>20)=false:=nd;go_upto_region 4 with(first
  |(go_at_call 4;refine a0.out.mono ?_;rintro e w2 ⟨⟨b,rfl,hb⟩,ag⟩;have aD:b=false:=hb.2 ar.out;subst aD;have bX:=(aU (o:=1) ((ag.block _ (by have:=a1.out;omega) aF).trans aX.out)).trans rfl;have aY:=al (b5.out.trans ag);have aJ:=al ag;clear ag hb)
  |(go_at_call 6;refine(SY (A:=A) L w2 (ca.out w2 aY.out) cr).mono ?_;rintro e w3 ⟨rfl,bO,bJ⟩;have cf:=al bO;have E:=al bJ;clear bO bJ))
 clear a9 ba bb bc aG bX;have bG:=aY.out.trans E.out;have u:=a1.out;have cG:w3.heap[w.heap.size]?=some (.cells (eB d p) 25):=((aJ.out.trans E.out).block _ U aF).trans av.out;have a2:w3.heap[w.heap.size+1]?=some (.cells #[ah r0,.slice q n X] 27):=((aJ.out.trans E.out).block _ U aF).trans aX.out;have I:w3.heap[w.heap.size+1+1]?=some (.cells s.v 31):=((aJ.out.trans E.out).block _ U aF).trans b3.out;have a9:w3.cell? ⟨w.heap.size,0,none⟩=some (ah d.kinds):=(aU (o:=0) cG).trans rfl;have ba:w3.cell? ⟨w.heap.size,1,none⟩=some (.slice p.eh d.c' p.cA):=(aU (o:=1) cG).trans rfl;have bb:w3.cell? ⟨w.heap.size,2,none⟩=some (.slice p.hH d.bk p.dq):=(aU (o:=2) cG).trans rfl;have bc:w3.cell? ⟨w.heap.size,3,none⟩=some (.slice p.ei d.b' p.dc):=(aU (o:=3) cG).trans rfl;have cL:w3.cell? ⟨w.heap.size+1,0,none⟩=some (ah r0):=(aU (o:=0) a2).trans rfl;have cM:w3.cell? ⟨w.heap.size+1,1,none⟩=some (.slice q n X):=(aU (o:=1) a2).trans rfl;have cu:=aY.out.size;have cQ:=aJ.out.size;generalize w2.heap.size=T at *;have bi:=al I;have cz:w.heap.size+1+1≠T:=U;have bf:=al (SV bG cu);have bl:=al (ce.out.keep bf.out);have cc:=al (cb.out.keep bf.out);clear cG a2 I bG u;go_upto_region 5 with(go_at_call 7;refine(S1 (A:=A) T 0 L U d ar.out p r0 q n X f ak w3 bl.out cc.out cf.out).mono ?_;rintro e ai ⟨B,rfl,bN⟩;obtain⟨a4,D,aL,d2,cD,ok,ct,ax,cR,bP,bM⟩:=bN.three ar.out bl.out;have bg:=al ax;have cg:=al bP;have cp:=al ok;have b6:=al bM;clear bN ax bP bM ct ok)
 clear a9 ba bb bc cL cM;have I:=λ(V:World) (g:ai.grownBy V (some T))=>((b6.out.trans g).block (w.heap.size+1+1) (bu bi.out) (λe=>cz (bD e))).trans bi.out
 have az:=al (show ∀V:World,ai.grownBy V (some T)->TJ V (w.heap.size+1+1) 0 1 2 3 4 s/\Ts V B 4 5 6 7 D.raw aL.raw from λV g=>⟨Tr.cells (I V g),(bg.out.keep g).cell 1 U⟩);have l:=al (show ai.grownBy ai.drew (some T)from gv (e6 _ _));have bv:=al (show fS ai.drew T L a4 from cg.out.of rfl);clear I;generalize (λi=>match i with|0=>d|1=>D.raw|_=>d2)=c at *;generalize (λi=>match i with|0=>p|1=>aL.raw|_=>cD)=r at *;go_region_held3 (λV=>TJ V (w.heap.size+1+1) 0 1 2 3 4 s/\Ts V B 4 5 6 7 D.raw aL.raw)
  (first|with_reducible exact az.out _ l.out|with_reducible exact az.out _ F.out|with_reducible exact az.out _ (F.out.trans bT)|with_reducible exact az.out _ (F.out.trans (gv bT)))
  (first|(go_at_call 8;refine(Us (A:=A) T a4 L U D cp.out aL 10 U _ bv.out).mono ?_;rintro e M ⟨x,rfl,_,bQ,bK⟩;have bn:=al bQ;have F:=al (l.out.trans bK);clear bQ bK))
 have bC:World.alloc M (.cells #[ah s.k,ah s.a,ah s.b,ah s.c,ah s.e,ah x.k,ah x.lm,ah x.cj,ah x.fm,ah x.b5] 31)=M.alloc (.cells (s.v++x.raw.v) 31):=rfl;rw[bC];have bz:=fM M (.cells (s.v++x.raw.v) 31);have bE:=F.out.trans (dU M (.cells (s.v++x.raw.v) 31) (some T));have t6:=bn.out.alloc (.cells (s.v++x.raw.v) 31);have cv:M.heap.size≠T:=by have:=bn.out.lt;omega
 generalize World.alloc M _=cK at *;generalize M.heap.size=aB at *;have b2:=al (bg.out.keep bE);have b1:=al bz;have cq:=al t6;clear bz bE t6 bC l az bv;go_wp2;go_loopw [20] (λi wr=>∃k g:Nat,k<=3/\i=ah k/\g<=1100+6*k/\fS wr T L g/\TC wr T c r B/\wr.heap[aB]?=some (.cells (s.v++x.raw.v) 31)) (λi _=>3-(TH i).toNat)
 case atStart=>exact⟨0,a4+7,U,by go_num,U,cq.out,b2.out,b1.out⟩
 case round=>
  obtain⟨k,g,aa,rfl,ag,aA,ax,hb⟩:=hrel;have bm:=al aA;have H:=al ax;have bh:=al hb;clear aA ax hb;by_cases aS:k<3;rotate_left
  .have cA:decide ((k:Int)<3)=false:=nd
   go_wp2_with (go_at_call 5;refine(aW.out _).mono ?_;rintro e w' ⟨rfl,rfl⟩)
   go_ret;rfl
  have cA:decide ((k:Int)<3)=true:=k4;have q1:(k:Int)<3:=U;have cT:(0:Int)<=k:=U;obtain⟨bx,c1,c2,c3⟩:=H.out.cell k aS;have cs:=bm.out.lt;go_upto_region 10 with(go_at_call 9;refine(Le (A:=A) (c k) (H.out.small k) (r k) wr (H.out.raw k).un).mono ?_;rintro e G ⟨ia,rfl,bI,bL⟩;have b9:=al (bI.iV cs);have aw:=al bL;clear bI bL)
  clear bx c1 c2 c3;have I:=fM G (.cells (eB (c k) ia) 25);have aR:=dU G (.cells (eB (c k) ia) 25) none;dsimp only[eB]at I aR;generalize World.alloc G _=W at *;have aC:=aw.out.trans aR;have cy:G.heap.size≠T:=by have:=aw.out.size;omega
  generalize G.heap.size=df at *;have ck:=al (show fS W T L g from bm.out.keep λb hb=>aC.block b hb aF);have bs:=al (show ∀V:World,W.grownBy V (some T)->Ts V df 0 1 2 3 (c k) ia/\Ts V B (k*4) (k*4+1) (k*4+2) (k*4+3) (c k) (r k)from λV g=>
   have h:=(g.block df (bu I) (λe=>cy (bD e))).trans I
   ⟨⟨(aU (o:=0) h).trans rfl,(aU (o:=1) h).trans rfl,(aU (o:=2) h).trans rfl,(aU (o:=3) h).trans rfl⟩,(H.out.keep ((wE aC _).trans g)).cell k aS⟩)
  have bt:=al (show ∀V:World,W.grownBy V (some T)->V.heap[aB]?=some (.cells (s.v++x.raw.v) 31)from λV g=>(((wE aC _).trans g).block aB (bu bh.out) (λe=>cv (bD e))).trans bh.out);have br:=al (show ∀V:World,W.grownBy V (some T)->TC V T c r B from λV g=>H.out.keep ((wE aC _).trans g));have oy:=al (show ∀V:World,W.grownBy V (some T)->iZ V (c k) ia from λV g=>(b9.out.keep (Bv ((wE aR _).trans g))).un);have Tr:=al (show ∀V:World,W.grownBy V (some T)->iZ V (c k) (r k)from λV g=>((br.out V g).raw k).un);have Q:=al (H.out.small k).fit;have aK:=al (H.out.small k);clear I aR aC;generalize hW:wr=cN at *;clear hW;go_wp2;go_loopw [22] (λi wr=>∃j:Nat,j<=2/\i=ah j/\W.grownBy wr none) (λi _=>2-(TH i).toNat)
  case atStart=>exact⟨0,U,by go_num,e6 _ _⟩
  case round=>
   obtain⟨j,aI,rfl,aE⟩:=hrel;have aZ:=al aE;clear aE;by_cases cw:j<2
   .have cB:decide ((j:Int)<2)=true:=k4
    have cE:(j:Int)<2:=U;have cF:(0:Int)<=j:=U;obtain⟨u,Y⟩:∃u,TG (c k) (Tx s x.raw j)=u:=⟨_,rfl⟩
    have R:=al Y;clear Y;have aG:(u !=u)=false:=aF;have l:=al (show W.grownBy wr.drew none from gv aZ.out);have gO:=al (show ∀V:World,W.grownBy V none->(Ts V df 0 1 2 3 (c k) ia/\Ts V B (k*4) (k*4+1) (k*4+2) (k*4+3) (c k) (r k))/\TJ V aB (j*5) (j*5+1) (j*5+2) (j*5+3) (j*5+4) (Tx s x.raw j)from λV g=>⟨bs.out V (wE g _),Uy (bt.out V (wE g _)) j cw⟩);go_upto_region 13 with fail
    go_region_held3 (λV=>(Ts V df 0 1 2 3 (c k) ia/\Ts V B (k*4) (k*4+1) (k*4+2) (k*4+3) (c k) (r k))/\TJ V aB (j*5) (j*5+1) (j*5+2) (j*5+3) (j*5+4) (Tx s x.raw j))
     (first|with_reducible exact gO.out _ l.out|with_reducible exact gO.out _ aq.out|with_reducible exact gO.out _ ay.out)
     (first|(go_at_call 10;refine(T7 (A:=A) (c k) Q.out ia (Tx s x.raw j) _ (oy.out _ (wE l.out _))).mono ?_;rintro e bY ⟨rfl,ag⟩;rw[R.out];have aq:=al (l.out.trans ag);clear ag)|(go_at_call 11;refine(Ul (A:=A) (c k) Q.out (r k) (Tx s x.raw j) _ (Tr.out _ (wE aq.out _))).mono ?_;rintro e ap ⟨rfl,ag⟩;rw[R.out];have ay:=al (aq.out.trans ag);clear ag))
    go_wp2;exact⟨⟨j+1,U,by push_cast;rfl,ay.out⟩,by show 2-((j:Int)+1).toNat<2-(j:Int).toNat;omega⟩
   have cB:decide ((j:Int)<2)=false:=nd;have bo:=al (show fS wr T L g from ck.out.keep λb hb=>aZ.out.block b hb aF);have cP:=bo.out.lt;go_upto_region 17 with(first
    |(go_at_call 12;refine(PG (A:=A) T g L U 2 U wr bo.out).mono ?_;rintro e G ⟨fG,rfl,_,aA,ag⟩;have ch:=al aA;have aw:=al ag;clear aA ag)
    |(go_at_call 12;refine(PG (A:=A) T (g+1) L U 4 U _ (ch.out.alloc _)).mono ?_;rintro e bY ⟨gK,rfl,_,aA,ag⟩;have ci:=al aA;have aq:=al ag;clear aA ag)
    |(go_at_call 12;refine(PG (A:=A) T (g+1+1) L U 4 U bY ci.out).mono ?_;rintro e ap ⟨Z,rfl,_,aA,ag⟩;have cj:=al aA;have ay:=al ag;clear aA ag)
    |(go_at_call 12;refine(PG (A:=A) T (g+1+1+1) L U 50 U _ (cj.out.alloc _)).mono ?_;rintro e aH ⟨ae,rfl,_,aA,ag⟩;have cm:=al aA;have bk:=al ag;clear aA ag)
    |(go_at_call 13;refine(Bc (A:=A) T (g+1+1+1+1) L U 40 119 U _ (cm.out.alloc _)).mono ?_;rintro e G1 ⟨J,rfl,_,_,aA,ag⟩;have cn:=al aA;have b7:=al ag;clear aA ag)
    |(go_at_call 12;refine(PG (A:=A) T (g+1+1+1+1+1) L U 119 U G1 cn.out).mono ?_;rintro e wc ⟨K,rfl,_,aA,ag⟩;have co:=al aA;have b8:=al ag;clear aA ag))
   have bA:=fM wc (.cells #[ah aP,ah J,ah K] 3);have bF:=dU wc (.cells #[ah aP,ah J,ah K] 3) (some T);have bW:=co.out.alloc (.cells #[ah aP,ah J,ah K] 3);generalize World.alloc wc _=z at *;have gr:(aH.alloc (.cells #[ah left,ah ae,ah left] 3)).grownBy z (some T):=(b7.out.trans b8.out).trans bF;have a6:(ap.alloc (.cells #[ah day,ah gK,ah Z] 3)).grownBy z (some T):=(bk.out.trans bT).trans gr;have a5:(G.alloc (.cells #[ah kind,ah 0,ah fG] 3)).grownBy z (some T):=((aq.out.trans ay.out).trans bT).trans a6;have a7:W.grownBy z (some T):=(wE aZ.out _).trans ((aw.out.trans bT).trans a5);have cI:=aw.out.size;have cJ:G.heap.size+1<=ap.heap.size:=by have:=(aq.out.trans ay.out).size;simpa using this
   have qf:ap.heap.size+1<=aH.heap.size:=by have:=bk.out.size;simpa using this
   have bU:gn z G.heap.size 0 3 (Tq kind 0 fG):=TN ((a5.block _ aF (λe=>by have:=bD e;omega)).trans (fM _ _));have bZ:gn z ap.heap.size 0 3 (Tq day gK Z):=TN ((a6.block _ aF (λe=>by have:=bD e;omega)).trans (fM _ _));have bV:gn z aH.heap.size 0 3 (Tq left ae left):=TN ((gr.block _ aF (λe=>by have:=bD e;omega)).trans (fM _ _));have bS:gn z wc.heap.size 0 3 (Tq aP J K):=TN bA;have cl:=al bW;have bq:=al (show ∀(V:World) (j:Nat),z.grownBy V none->j<3->(Ts V df 0 1 2 3 (c k) ia/\Ts V B (k*4) (k*4+1) (k*4+2) (k*4+3) (c k) (r k))/\TF V G.heap.size ap.heap.size aH.heap.size wc.heap.size j (Tq kind 0 fG) (Tq day gK Z) (Tq left ae left) (Tq aP J K)from λV j g aI=>
    ⟨bs.out V (a7.trans (wE g _)),TM (bU.keep g aF) aI,TM (bZ.keep g aF) aI,TM (bV.keep g aF) aI,TM (bS.keep g aF) aI⟩)
   have aV:=al a7;clear bA bF bW gr a6 a5 a7 cI cJ qf bU bZ bV bS;generalize G.heap.size=bH at *;generalize ap.heap.size=hL at *;generalize aH.heap.size=S9 at *;generalize wc.heap.size=aQ at *;have aN:=al (show ∀V:World,z.grownBy V none->iZ V (c k) ia from λV g=>oy.out V (aV.out.trans (wE g _)));have aO:=al (show ∀V:World,z.grownBy V none->iZ V (c k) (r k)from λV g=>Tr.out V (aV.out.trans (wE g _)));generalize hW:wr=cO at *;clear hW;go_wp2;go_loopw [27] (λi wr=>∃j:Nat,j<=3/\i=ah j/\z.grownBy wr none) (λi _=>3-(TH i).toNat)
   case atStart=>exact⟨0,U,by go_num,e6 _ _⟩
   case round=>
    obtain⟨y,cS,rfl,aE⟩:=hrel;have l:=al (show z.grownBy wr.drew none from gv aE);clear aE;by_cases cx:y<3
    .have cC:decide ((y:Int)<3)=true:=k4
     have cE:(y:Int)<3:=U;have cF:(0:Int)<=y:=U;obtain⟨u,aT,Y⟩:∃u aT,TA (c k) (Tq kind 0 fG y) (Tq day gK Z y)=(u,aT):=⟨_,_,rfl⟩
     obtain⟨cU,ic,bR⟩:∃u aT,Tz (c k) (Tq kind 0 fG y) (Tq left ae left y) (Tq aP J K y)=(u,aT):=⟨_,_,rfl⟩
     have R:=al Y;have bp:=al bR;clear Y bR;have aG:(u !=u)=false:=aF;have gO:=al (λV g=>bq.out V y g cx);go_upto_region 20 with fail
     go_region_held3 (λV=>(Ts V df 0 1 2 3 (c k) ia/\Ts V B (k*4) (k*4+1) (k*4+2) (k*4+3) (c k) (r k))/\TF V bH hL S9 aQ y (Tq kind 0 fG) (Tq day gK Z) (Tq left ae left) (Tq aP J K))
      (first|with_reducible exact gO.out _ l.out|with_reducible exact gO.out _ E.out)
      (first|(go_at_call 14;refine(Uk (A:=A) (c k) Q.out ia _ _ _ (aN.out _ l.out)).mono ?_;rintro e w3 ⟨rfl,ag⟩;rw[R.out];dsimp only;have E:=al (l.out.trans ag);clear ag))
     clear l;have l:=al (show z.grownBy w3.drew none from gv E.out);go_upto_region 21 with fail
     go_region_held3 (λV=>(Ts V df 0 1 2 3 (c k) ia/\Ts V B (k*4) (k*4+1) (k*4+2) (k*4+3) (c k) (r k))/\TF V bH hL S9 aQ y (Tq kind 0 fG) (Tq day gK Z) (Tq left ae left) (Tq aP J K))
      (first|with_reducible exact gO.out _ l.out|with_reducible exact gO.out _ aj.out)
      (first|(go_at_call 15;refine(Up (A:=A) (c k) Q.out (r k) _ _ _ (aO.out _ l.out)).mono ?_;rintro e ai ⟨rfl,ag⟩;rw[R.out];dsimp only;have aj:=al (l.out.trans ag);clear ag))
     clear l;have l:=al (show z.grownBy ai.drew none from gv aj.out);go_upto_region 22 with fail
     go_region_held3 (λV=>(Ts V df 0 1 2 3 (c k) ia/\Ts V B (k*4) (k*4+1) (k*4+2) (k*4+3) (c k) (r k))/\TF V bH hL S9 aQ y (Tq kind 0 fG) (Tq day gK Z) (Tq left ae left) (Tq aP J K))
      (first|with_reducible exact gO.out _ l.out|with_reducible exact gO.out _ F.out)
      (first|(go_at_call 16;refine(Uc (A:=A) (c k) Q.out ia _ _ _ _ (aN.out _ l.out)).mono ?_;rintro e M ⟨rfl,ag⟩;rw[bp.out];dsimp only;have F:=al (l.out.trans ag);clear ag))
     clear l;have l:=al (show z.grownBy M.drew none from gv F.out);go_upto_region 23 with fail
     go_region_held3 (λV=>(Ts V df 0 1 2 3 (c k) ia/\Ts V B (k*4) (k*4+1) (k*4+2) (k*4+3) (c k) (r k))/\TF V bH hL S9 aQ y (Tq kind 0 fG) (Tq day gK Z) (Tq left ae left) (Tq aP J K))
      (first|with_reducible exact gO.out _ l.out|with_reducible exact gO.out _ bj.out)
      (first|(go_at_call 17;refine(Un (A:=A) (c k) Q.out (r k) _ _ _ _ (aO.out _ l.out)).mono ?_;rintro e cK ⟨rfl,ag⟩;rw[bp.out];dsimp only;have bj:=al (l.out.trans ag);clear ag))
     go_wp2;exact⟨⟨y+1,U,by push_cast;rfl,bj.out⟩,by show 3-((y:Int)+1).toNat<3-(y:Int).toNat;omega⟩
    have cC:decide ((y:Int)<3)=false:=nd;obtain⟨u,Y⟩:∃u,jY (c k)=u:=⟨_,rfl⟩
    have R:=al Y;clear Y;have aG:(u !=u)=false:=aF;have gO:=al (λV g=>(bq.out V 0 g U).1);go_upto_region 26 with fail
    go_region_held3 (λV=>Ts V df 0 1 2 3 (c k) ia/\Ts V B (k*4) (k*4+1) (k*4+2) (k*4+3) (c k) (r k))
     (first|with_reducible exact gO.out _ l.out|with_reducible exact gO.out _ E.out|with_reducible exact gO.out _ aj.out|with_reducible exact gO.out _ F.out)
     (first|(go_at_call 18;refine(ID (A:=A) (c k) Q.out ia _ (aN.out _ l.out)).mono ?_;rintro e w3 ⟨rfl,ag⟩;rw[R.out];have E:=al (l.out.trans ag);clear ag)|(go_at_call 19;refine(S0 (A:=A) (c k) Q.out (r k) _ (aO.out _ E.out)).mono ?_;rintro e ai ⟨rfl,ag⟩;rw[R.out];have aj:=al (E.out.trans ag);clear ag)|(go_at_call 20;refine(Ue (A:=A) (c k) ia (r k) (by have:=aK.out.F;omega) (by have:=aK.out.R;omega) (by have:=aK.out.h4;omega) (λi ad=>by have:=aK.out.P i ad;omega) _ (aN.out _ aj.out) (aO.out _ aj.out)).mono ?_;rintro e M ⟨rfl,ag⟩;have F:=al (aj.out.trans ag);clear ag))
    go_wp2;have bd:=aV.out.trans (wE F.out (some T));exact⟨⟨k+1,g+1+1+1+1+1+1,U,by push_cast;rfl,U,cl.out.keep λb hb=>F.out.block b hb aF,br.out _ bd,bt.out _ bd⟩,by show 3-((k:Int)+1).toNat<3-(k:Int).toNat;omega⟩
end
end Go.aO
