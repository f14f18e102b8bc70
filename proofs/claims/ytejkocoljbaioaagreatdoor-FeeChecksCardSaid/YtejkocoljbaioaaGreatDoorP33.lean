/- A part. -/
import Derived.Test.YtejkocoljbaioaaGreatDoorP32
import Derived.Maps.AppendAt
set_option maxHeartbeats 8000000
set_option maxRecDepth 100000
set_option linter.all false
namespace Go.aO
open Go.Proofs Go.RowKit
variable{T b n o:Nat}{f:Nat->Int}{q:Option Addr}{v:Value}{W aL w w' w3:World}{d:dw}{p:gz}
section
variable{A:Array Func}
def iV(T:Nat)(w:World):World:={w with heap:=w.heap.setIfInBounds T (.cells #[] 0)}
def ma(h:b≠T):(iV T w).heap[b]?=w.heap[b]?:=h7 (λe=>h e.symm)
def vd:(iV T w).heap.size=w.heap.size:=by simp[iV]
def Se(h:(iV T w).cell? ⟨b,o,none⟩=some v):b≠T:=by
 rintro rfl;unfold World.cell? at h;dsimp only at h;split at h
 .rename_i c e g hd
  have d:=bu hd;rw[vd]at d;rw[show(iV b w).heap[b]?=_ from iO d]at hd;cases hd;simp at h
 .cases h
def Bu(h:(iV T w).cell? ⟨b,o,none⟩=some v):w.cell? ⟨b,o,none⟩=some v:=
 (World.cell?_of_block (ma (Se h)).symm).trans h
def Bv(g:w.grownBy w' (some T)):(iV T w).grownBy (iV T w') none:=
 ⟨g.os,g.tape,g.output,by rw[vd,vd];exact g.size,λi c _=>by
  rw[vd]at c;have:=g.size;rcases Classical.em (i=T)with rfl|h
  .rw[show(iV i w').heap[i]?=_ from iO U,show(iV i w).heap[i]?=_ from iO c]
  .rw[ma h,ma h]
   exact g.block i c (λe=>h (bD e))⟩
def wE(g:w.grownBy w' none)(T:Option Nat):w.grownBy w' T:=⟨g.os,g.tape,g.output,g.size,λi c _=>g.block i c aF⟩
def SV(g:w.grownBy w' none)(h:w.heap.size<=T):w.grownBy (iV T w') none:=
 ⟨g.os,g.tape,g.output,by rw[vd];exact g.size,λi c d=>by rw[ma U];exact g.block i c d⟩
def kU.un(h:kU (iV T w) q n f):kU w q n f:=λd=>by obtain⟨b,o,e,k⟩:=h d;exact⟨b,o,e,λj c=>Bu (k j c)⟩
def iZ.un(h:iZ (iV T w) d p):iZ w d p where
 first:=h.first.un
 kM f:=by obtain⟨b,o,e,k⟩:=h.kM f;exact⟨b,o,e,λi c=>⟨Bu (k i c).1,Bu (k i c).2⟩⟩
 cQ i c:=(h.cQ i c).un
 free:=h.free.un
def e'.iV{D:cC}{P:eg}(h:e' w D P)(o:P.off D T):e' (iV T w) D P where
 first:=h.first.lK (ma o.F)
 bV i c:=(World.cell?_of_block (ma o.R)).trans (h.bV i c)
 rows i c:=(World.cell?_of_block (ma o.R)).trans (h.rows i c)
 cQ i c:=(h.cQ i c).lK (ma (o.P i c))
 free d:=by obtain⟨b,f,e,k⟩:=h.free d;exact⟨b,f,e,k.lK (ma (o.h4 b f d e))⟩
def dw.plus(d:dw)(r:Int)(n:Nat)(f:Nat->Int):dw:={d with bk:=d.bk+1,bV:=λi=>if i=d.bk then r else d.bV i,eP:=λi=>if i=d.bk then n else d.eP i,cQ:=λi=>if i=d.bk then f else d.cQ i}
def gz.plus(p:gz)(d:dw)(g:Nat)(c:Nat)(q:Option Addr)(f:Nat):gz:={p with hH:=some ⟨g,0,none⟩,dq:=c,fh:=λi=>if i=d.bk then q else p.fh i,cq:=λi=>if i=d.bk then f else p.cq i}
def qx.plus{g c u:Nat}{cur:Array Value}{r:Int}(K:qx aL d p w3)(V:∀x,x<w3.heap.size->aL.heap.size<=x->(Value.slice p.hH d.bk p.dq).ownBlock≠some x->W.heap[x]?=w3.heap[x]?)(l:W.heap[g]?=some (.cells cur 27))(w:cur.toList.take ((d.bk+1)*2)=iR d (λi=>((p.fh i).map (·.block)).getD 0) p.cq d.bk++[ah r,.slice q n u])(X:kU W q n f):
 iZ W (d.plus r n f) (p.plus d g c q u):=by
 obtain⟨⟨Q,J,hF,Y⟩,⟨R,L,S,Z⟩,M⟩:=K.plain;have I:∀{b m:Nat} {z:Nat->Int},gn w3 b 0 m z->aL.heap.size<=b->(Value.slice p.hH d.bk p.dq).ownBlock≠some b->gn W b 0 m z:=λ{b m z} h H l=>by intro j T;have w:=h j T;exact(World.cell?_of_block (V b (lD w) H l)).trans w
 refine⟨λD=>?_,λ_=>?_,λi C=>?_,λD=>?_⟩
 .obtain⟨b,o,e,k⟩:=K.raw.first D
  rw[J]at e;cases e;exact⟨Q,0,J,I k hF Y⟩
 .refine⟨g,0,rfl,λi C=>?_⟩
  have P:=Aw d (λi=>((p.fh i).map (·.block)).getD 0) p.cq d.bk;have C:i<d.bk+1:=C;by_cases B:i=d.bk
  .subst B
   have F:(iR d (λi=>((p.fh i).map (·.block)).getD 0) p.cq d.bk++[ah r,.slice q n u])[d.bk*2]?=some (ah r):=by rw[jb U,P,Nat.sub_self];rfl
   have G:(iR d (λi=>((p.fh i).map (·.block)).getD 0) p.cq d.bk++[ah r,.slice q n u])[d.bk*2+1]?=some (.slice q n u):=by rw[jb U,P,Nat.add_sub_cancel_left];rfl
   refine⟨(nQ l w F).trans ?_,?_⟩
   .simp[dw.plus]
   .rw[Nat.add_assoc]
    refine(nQ l w G).trans ?_;simp[dw.plus,gz.plus]
  .obtain⟨b,E,_,_⟩:=M i U
   have e:=xy d (λi=>((p.fh i).map (·.block)).getD 0) p.cq d.bk i U;have F:(iR d (λi=>((p.fh i).map (·.block)).getD 0) p.cq d.bk++[ah r,.slice q n u])[i*2]?=some (ah (d.bV i)):=by rw[jz U];exact e.1
   have G:(iR d (λi=>((p.fh i).map (·.block)).getD 0) p.cq d.bk++[ah r,.slice q n u])[i*2+1]?=some (.slice (p.fh i) (d.eP i) (p.cq i)):=by rw[jz U,e.2,E];rfl
   refine⟨(nQ l w F).trans ?_,?_⟩
   .simp[dw.plus,B]
   .rw[Nat.add_assoc]
    refine(nQ l w G).trans ?_;simp[dw.plus,gz.plus,B]
 .have C:i<d.bk+1:=C
  by_cases B:i=d.bk
  .simpa [dw.plus,gz.plus,B]using X
  .obtain⟨b,E,H,l⟩:=M i U
   have k:=K.raw.cQ i U;show kU W (if i=d.bk then q else p.fh i) (if i=d.bk then n else d.eP i) (if i=d.bk then f else d.cQ i);simp only[if_neg B];intro D;obtain⟨aa,o,e,k⟩:=k D;rw[E]at e;cases e;exact⟨b,0,E,I k H l⟩
 .obtain⟨b,o,e,k⟩:=K.raw.free D
  rw[L]at e;cases e;exact⟨R,0,L,I k S Z⟩
def qx.days{m a c:Nat}{z:Nat->Int}(K:qx aL d p w3)(q:∀x,x<w3.heap.size->aL.heap.size<=x->W.heap[x]?=w3.heap[x]?)(H:gn W a 0 m z):iZ W {d with b':=m,free:=z} {p with ei:=some ⟨a,0,none⟩,dc:=c}:=by
 obtain⟨⟨u,C,hF,Q⟩,_,G⟩:=K.plain;refine⟨λf=>?_,λf=>?_,λi h f=>?_,λ_=>⟨a,0,rfl,H⟩⟩
 .obtain⟨b,o,e,k⟩:=K.raw.first f
  rw[C]at e;cases e;exact⟨u,0,C,λj l=>(World.cell?_of_block (q u (lD (k j l)) hF)).trans (k j l)⟩
 .obtain⟨g,J,cur,e,E,r,P⟩:=xk K.own f
  obtain⟨b,o,w,k⟩:=K.raw.kM f;injection e with B L M
  rw[B]at w;cases w;exact⟨g,0,B,λi h=>⟨(World.cell?_of_block (q g (bu r) E)).trans (k i h).1,(World.cell?_of_block (q g (bu r) E)).trans (k i h).2⟩⟩
 .obtain⟨b,D,F,r⟩:=G i h
  obtain⟨I,o,e,k⟩:=K.raw.cQ i h f;rw[D]at e;cases e;exact⟨b,0,D,λj l=>(World.cell?_of_block (q b (lD (k j l)) F)).trans (k j l)⟩
def Hq(w w':World)(T:Nat)(L:Value)(d:dw)(p:gz)(B:Nat):Prop:=∃(g':Nat) (D:cC) (P:eg) (d2:dw) (c:gz),D.ok/\d2.small/\e' (iV T w') D P/\iZ (iV T w') d2 c/\B≠T/\
 w'.heap[B]?=some (.cells (eB d p++eB D.raw P.raw++eB d2 c) 25)/\g'<=1000/\fS w' T L g'/\w.grownBy w' (some T)
def S1[S:Std A](T g:Nat)(L:Value)(cJ:g<=10)(d:dw)(bH:d.small)(p:gz)(r:Int)(q:Option Addr)(n H:Nat)(f:Nat->Int)(cM:n<=20)(w:World)(h:iZ (iV T w) d p)(aj:kU (iV T w) q n f)(aw:fS w T L g):
 Calls (ao A) 7 #[.agg (eB d p),.agg #[ah r,.slice q n H],.pointer (some ⟨T,0,none⟩)] w λe w'=>∃B:Nat,e=.returned (.slice (some ⟨B,0,none⟩) 3 3)/\Hq w w' T L d p B:=by
 have cH:=aw.lt;obtain⟨K,Z⟩:∃K,(w.alloc (.cells (eB d p) 25)).alloc (.cells #[ah r,.slice q n H] 27)=K:=⟨_,rfl⟩
 have aM:w.grownBy K none:=by rw[<-Z];exact bT.trans bT
 have bL:K.heap.size=w.heap.size+2:=by rw[<-Z];simp
 have a8:K.heap[w.heap.size]?=some (.cells (eB d p) 25):=by rw[<-Z];exact(dm aF).trans (fM _ _)
 have a9:K.heap[w.heap.size+1]?=some (.cells #[ah r,.slice q n H] 27):=by rw[<-Z,show w.heap.size+1=(w.alloc (.cells (eB d p) 25)).heap.size by simp];exact fM _ _
 have bN:=al a8;have bO:=al a9;have b6:=al (show fS K T L g from aw.keep λb aQ=>aM.block b aQ aF);have a5:=al aM;have aJ:=al bL;have bR:=al Z;have b4:=al h;have b2:=al aj;have b0:=al aw.nm;clear aM bL a8 a9 Z h aj aw;go_enter (S.f Tryz.func7),Tryz.ntmps7;go_upto_region 1 with fail
 have aO:=bR.out;dsimp only[eB]at aO;rw[aO];clear aO;go_upto_region 3 with(first
  |(go_at_call 32;refine(Q6 (A:=A) T g L U K b6.out).mono ?_;rintro e w2 ⟨D,P,ag,ok,rfl,bj,bv,cK,bx,bq⟩;have aC:=al bq;have b7:=al bx;have a7:=al bj;have b1:=al bv;have G:=al ok;clear bq bx bj bv ok)
  |(go_at_call 9;refine(Le (A:=A) D.raw (cC.rl G.out) P.raw _ ((a7.out.keep bT).raw)).mono ?_;rintro e w3 ⟨j,rfl,bi,br⟩;have aD:=al br;have bZ:=al bi;clear br bi))
 have bI:w.heap.size+2<=w2.heap.size:=by have:=aC.out.size;have:=aJ.out;omega
 have bJ:w2.heap.size+1<=w3.heap.size:=by have:=aD.out.size;simpa using this
 have aL:=fM w3 (.cells (eB D.raw j) 25);have aN:=dU w3 (.cells (eB D.raw j) 25) none;dsimp only[eB]at aL aN;generalize aP:World.alloc w3 _=Q at *;have bK:Q.heap.size=w3.heap.size+1:=by rw[<-aP];simp
 have aX:∀x,x<w3.heap.size->Q.heap[x]?=w3.heap[x]?:=λx aW=>by rw[<-aP];exact dm aW
 have au:=(dU w2 (.cells (eB D.raw P.raw) 25) none).trans (aD.out.trans aN);have ba:Q.heap[w2.heap.size]?=some (.cells (eB D.raw P.raw) 25):=(aX _ U).trans ((aD.out.block _ aF aF).trans (fM _ _));have t4:fS Q T L ag:=b7.out.keep λb aQ=>au.block b aQ aF
 have bg:K.grownBy Q (some T):=aC.out.trans (wE au _);have R:=al (And.intro bI (And.intro bJ bK));have aH:=al aX;have bP:=al ba;have bQ:=al aL;have b8:=al t4;have bU:=al bg;have bW:=al au;clear bI bJ bK aP aX ba aL t4 bg au aN;go_upto_if 14 with(go_at_call 33;refine(E1 (A:=A) T ag L U 2 U Q b8.out).mono ?_;rintro e c ⟨ch,rfl,bz,bs⟩;have b9:=al bz;have ap:=al bs;clear bz bs)
 have ax:∀x,x<Q.heap.size->x≠T->c.heap[x]?=Q.heap[x]?:=λx u C=>ap.out.block x u (λe=>C (bD e))
 have cG:=ap.out.size;have bd:c.heap[w3.heap.size]?=some (.cells (eB D.raw j) 25):=(ax _ (by have:=R.out;omega) (by have:=R.out;omega)).trans bQ.out;have bc:c.heap[w2.heap.size]?=some (.cells (eB D.raw P.raw) 25):=(ax _ (by have:=R.out;omega) (by have:=R.out;omega)).trans bP.out;have ar:=bU.out.trans ap.out;have c3:c.heap[w.heap.size]?=some (.cells (eB d p) 25):=(ar.block _ (by have:=aJ.out;omega) (λe=>by have:=bD e;omega)).trans bN.out;have bb:c.heap[w.heap.size+1]?=some (.cells #[ah r,.slice q n H] 27):=(ar.block _ (by have:=aJ.out;omega) (λe=>by have:=bD e;omega)).trans bO.out;have aE:=al ax;have az:=al bd;have a1:=al bc;have ay:=al c3;have a0:=al bb;have bV:=al ((wE a5.out (some T)).trans ar);clear ax ar;obtain⟨wk,aV⟩:∃wk,w2.alloc (.cells (eB D.raw P.raw) 25)=wk:=⟨_,rfl⟩
 have aZ:wk.heap.size=w2.heap.size+1:=by rw[<-aV];simp
 have aq:=al (show qx wk D.raw j w3 by rw[<-aV];exact bZ.out);have aK:=al aZ;have cN:=G.out.bk;have a4:=al (show ∀W:World,(∀x,x<w3.heap.size->x≠T->x<wk.heap.size->W.heap[x]?=c.heap[x]?)->W.heap[T]?=c.heap[T]?->W.os=c.os/\W.tape=c.tape/\W.output=c.output/\c.heap.size<=W.heap.size->w.grownBy W (some T)/\fS W T L (ag+1)/\e' (iV T W) D P from λW u C F=>by
  have x:=R.out;have aZ:=aK.out;have ai:w2.grownBy c (some T):=(wE bW.out _).trans ap.out;have bh:w2.grownBy W (some T):=⟨F.1.trans ai.os,F.2.1.trans ai.tape,F.2.2.1.trans ai.output,cL ai.size F.2.2.2,λi cj aj=>(u i U (λe=>aj (by rw[e])) U).trans (ai.block i cj aj)⟩
  have GW:w.grownBy W (some T):=((wE a5.out (some T)).trans aC.out).trans bh;obtain⟨s,cl,cm⟩:=b9.out.blk;exact⟨GW,⟨⟨s,C.trans cl,cm⟩,b0.out.keep GW⟩,(a7.out.iV b1.out).keep (Bv bh)⟩)
 clear bd bc c3 bb aZ aV;cases ch
 case false=>
  have aW:=R.out;have bG:iZ c d p:=(b4.out.keep (Bv bV.out)).un;have bS:=al bG.free;have cI:=bH.h4;have cp:c.cell? ⟨w.heap.size,3,none⟩=some (.slice p.ei d.b' p.dc):=(aU (o:=3) ay.out).trans rfl;clear bG;go_upto_region 6 with(go_at_call 34;refine(wP (A:=A) p.ei d.b' p.dc d.free U c bS.out).mono ?_;rintro e l ⟨E,⟨bp,rfl⟩,bk,bl,bm,aS⟩;have aA:=al (And.intro bk (And.intro bl bm));have aa:=al aS;have J:=(aS.block _ U aF).trans az.out;have aY:=aU (o:=3) J;have f3:=b3 (o:=3) J;have aB:=al J;clear bk bl bm aS J)
  clear cp aY f3;have d8:(l.setCell ⟨w3.heap.size,3,none⟩ (.slice (some ⟨E,0,none⟩) d.b' bp)).heap[w3.heap.size]?=some (.cells (eB {D.raw with b':=d.b',free:=d.free} {j with ei:=some ⟨E,0,none⟩,dc:=bp}) 25):=cU aB.out;have av:=aa.out.size;have cb:∀x,x<c.heap.size->x≠w3.heap.size->(l.setCell ⟨w3.heap.size,3,none⟩ (.slice (some ⟨E,0,none⟩) d.b' bp)).heap[x]?=c.heap[x]?:=λx u C=>(e1 (by show x≠w3.heap.size;exact C)).trans (aa.out.block x u aF)
  have d3:=(cb w.heap.size U U).trans ay.out;have d7:=(cb w2.heap.size U U).trans a1.out;have am:(l.setCell ⟨w3.heap.size,3,none⟩ (.slice (some ⟨E,0,none⟩) d.b' bp)).heap.size=l.heap.size:=aF;have bF:gn (l.setCell ⟨w3.heap.size,3,none⟩ (.slice (some ⟨E,0,none⟩) d.b' bp)) E 0 d.b' d.free:=aA.out.2.2.lK (e1 (by show E≠w3.heap.size;have:=aA.out.1;omega));have ak:(l.setCell ⟨w3.heap.size,3,none⟩ (.slice (some ⟨E,0,none⟩) d.b' bp)).os=c.os/\(l.setCell ⟨w3.heap.size,3,none⟩ (.slice (some ⟨E,0,none⟩) d.b' bp)).tape=c.tape/\(l.setCell ⟨w3.heap.size,3,none⟩ (.slice (some ⟨E,0,none⟩) d.b' bp)).output=c.output:=⟨aa.out.os,aa.out.tape,aa.out.output⟩
  generalize World.setCell l _ _=af at *;have cq:=(aU (o:=0) d3).trans rfl;have cr:=(aU (o:=1) d3).trans rfl;have ct:=(aU (o:=2) d3).trans rfl;have cu:=(aU (o:=3) d3).trans rfl;have cx:=(aU (o:=0) d7).trans rfl;have cy:=(aU (o:=1) d7).trans rfl;have cz:=(aU (o:=2) d7).trans rfl;have cA:=(aU (o:=3) d7).trans rfl;have cB:=(aU (o:=0) d8).trans rfl;have cD:=(aU (o:=1) d8).trans rfl;have cE:=(aU (o:=2) d8).trans rfl;have cF:=(aU (o:=3) d8).trans rfl;have ae:=al am;have aG:=al cb;have cf:=al bF;have V:=al ak;clear am cb bF ak d3 d7 d8;go_wp2;go_ret;have Y:∀(o:Obj) x,x<c.heap.size->x≠w3.heap.size->(af.alloc o).heap[x]?=c.heap[x]?:=λo x u C=>(dm (by have:=ae.out;omega)).trans (aG.out x u C)
  have M:=λo:Obj=>a4.out (af.alloc o) (λx u C _=>Y o x U U) (Y o T U U) ⟨V.out.1,V.out.2.1,V.out.2.2,by have:=ae.out;simp only[cV];omega⟩
  refine⟨_,rfl,ag+1,D,P,{D.raw with b':=d.b',free:=d.free},{j with ei:=some ⟨E,0,none⟩,dc:=bp},G.out,⟨(cC.rl G.out).F,(cC.rl G.out).R,bH.h4,(cC.rl G.out).P⟩,(M _).2.2,?_,?_,fM _ _,U,(M _).2.1,(M _).1⟩
  .refine aq.out.days (λx u C=>?_) ?_
   .have:=aK.out
    rw[ma U];exact(Y _ x U U).trans ((aE.out x U U).trans (aH.out x u))
   .have:=aA.out.1
    exact(cf.out.keep (dU _ _ none) aF).lK (ma U)
  .have:=ae.out;omega
 case true=>
  have aW:=R.out;have cO:=aK.out;obtain⟨cn,bt,bB,bC,bE⟩:=zz (A:=A);have bY:=al bt;have ca:=al bB;have cc:=al bC;have ce:=al bE;have cg:=al (show(c.alloc (.cells #[ah r,.slice q n H] 27)).ownsRow wk.heap.size 27 2 (.slice j.hH D.bk j.dq) D.bk (iR D.raw (λi=>((j.fh i).map (·.block)).getD 0) j.cq D.bk)from j4 aq.out.own (λx u C=>(dm U).trans ((aE.out x U U).trans (aH.out x C))));have aI:=al (show ∀r,(Value.slice j.hH D.bk j.dq).ownBlock=some r->wk.heap.size<=r/\r<w3.heap.size from λr e=>rh aq.out.own r e);have co:c.cell? ⟨w3.heap.size,2,none⟩=some (.slice j.hH D.bk j.dq):=(aU (o:=2) az.out).trans rfl;have cv:c.cell? ⟨w.heap.size+1,0,none⟩=some (ah r):=(aU (o:=0) a0.out).trans rfl;have cw:c.cell? ⟨w.heap.size+1,1,none⟩=some (.slice q n H):=(aU (o:=1) a0.out).trans rfl;clear bt bB bC bE;go_upto_region 6 with(at_builtin;refine wpList_append_own_at _ rfl _ _ 23 rfl wk.heap.size 27 cn (.agg #[ah 0,.slice none 0 0]) 2 32 (ao.underlying23 A) bY.out ca.out cc.out ce.out rfl a6 _ D.bk _ rfl cg.out ⟨c.heap.size,0,none⟩ 1 1 [ah r,.slice q n H] rfl rfl (World.news_of_block (cs:=#[ah r,.slice q n H]) (t:=27) (fr:=(0,0)) (heap_alloc_new c _)) (by simp[Value.oneCell']) kj U (by simp only[cV];omega) ?_;intro cQ l bw aT ck bn;obtain⟨z,I,cur,rfl,ci,bo,bA⟩:=xk bw U;have J:l.heap[w3.heap.size]?=some (.cells (eB D.raw j) 25):=(aT.block _ (by simp only[cV];omega) (λe=>by have:=(aI.out _ e.symm).2;omega)).trans ((dm U).trans az.out);have aY:=aU (o:=2) J;have f3:=b3 (o:=2) J;have ad:=al aT;have bM:=al bn;have a3:=al (And.intro bo bA);have aB:=al J;clear bw aT ck bn ci bo bA J)
  clear co cv cw aY f3;have X:=aI.out;have aR:z≠w3.heap.size/\z≠w.heap.size/\z≠w2.heap.size/\z≠T:=by
   rcases bM.out with h|h
   .have:=X z h.symm;omega
   .have h:some z=some (c.alloc _).heap.size:=h
    have h:=bD h;rw[cV]at h;omega
  have d8:(l.setCell ⟨w3.heap.size,2,none⟩ (.slice (some ⟨z,0,none⟩) (D.bk+1) I)).heap[w3.heap.size]?=some (.cells (eB (D.raw.plus r n f) (j.plus D.raw z I q H)) 25):=cU aB.out;have av:=ad.out.size;have cb:∀x,x<c.heap.size->x≠w3.heap.size->(Value.slice j.hH D.bk j.dq).ownBlock≠some x->(l.setCell ⟨w3.heap.size,2,none⟩ (.slice (some ⟨z,0,none⟩) (D.bk+1) I)).heap[x]?=c.heap[x]?:=λx u C F=>(e1 (by show x≠w3.heap.size;exact C)).trans ((ad.out.block x (by simp only[cV];omega) (λe=>F e.symm)).trans (dm u))
  have d3:=(cb w.heap.size U U (λe=>by have:=X _ e;omega)).trans ay.out;have d7:=(cb w2.heap.size U U (λe=>by have:=X _ e;omega)).trans a1.out;have am:(l.setCell ⟨w3.heap.size,2,none⟩ (.slice (some ⟨z,0,none⟩) (D.bk+1) I)).heap.size=l.heap.size:=aF;have bf:(l.setCell ⟨w3.heap.size,2,none⟩ (.slice (some ⟨z,0,none⟩) (D.bk+1) I)).heap[z]?=some (.cells cur 27):=(e1 (by show z≠w3.heap.size;exact aR.1)).trans a3.out.1;have ak:(l.setCell ⟨w3.heap.size,2,none⟩ (.slice (some ⟨z,0,none⟩) (D.bk+1) I)).os=c.os/\(l.setCell ⟨w3.heap.size,2,none⟩ (.slice (some ⟨z,0,none⟩) (D.bk+1) I)).tape=c.tape/\(l.setCell ⟨w3.heap.size,2,none⟩ (.slice (some ⟨z,0,none⟩) (D.bk+1) I)).output=c.output:=⟨ad.out.os,ad.out.tape,ad.out.output⟩
  generalize World.setCell l _ _=af at *;have cq:=(aU (o:=0) d3).trans rfl;have cr:=(aU (o:=1) d3).trans rfl;have ct:=(aU (o:=2) d3).trans rfl;have cu:=(aU (o:=3) d3).trans rfl;have cx:=(aU (o:=0) d7).trans rfl;have cy:=(aU (o:=1) d7).trans rfl;have cz:=(aU (o:=2) d7).trans rfl;have cA:=(aU (o:=3) d7).trans rfl;have cB:=(aU (o:=0) d8).trans rfl;have cD:=(aU (o:=1) d8).trans rfl;have cE:=(aU (o:=2) d8).trans rfl;have cF:=(aU (o:=3) d8).trans rfl;have ae:=al am;have aG:=al cb;have a2:=al bf;have V:=al ak;have b5:=al av;have bX:=al aR;clear am cb bf ak d3 d7 d8 X aR av;go_wp2;go_ret;have av:c.heap.size+1<=l.heap.size:=by have:=b5.out;simpa using this
  have cP:=ae.out;have X:=aI.out;have Y:∀(o:Obj) x,x<c.heap.size->x≠w3.heap.size->(Value.slice j.hH D.bk j.dq).ownBlock≠some x->(af.alloc o).heap[x]?=c.heap[x]?:=λo x u C F=>(dm U).trans (aG.out x u C F)
  have M:=λo:Obj=>a4.out (af.alloc o) (λx u C F=>Y o x U U (λe=>by have:=X _ e;omega)) (Y o T U U (λe=>by have:=X _ e;omega)) ⟨V.out.1,V.out.2.1,V.out.2.2,by simp only[cV];omega⟩
  refine⟨_,rfl,ag+1,D,P,D.raw.plus r n f,j.plus D.raw z I q H,G.out,⟨(cC.rl G.out).F,by show D.bk+1<=20;omega,(cC.rl G.out).h4,λi _=>?_⟩,(M _).2.2,?_,?_,fM _ _,U,(M _).2.1,(M _).1⟩
  .show(if i=D.bk then n else D.kinds)<=20
   have:=G.out.kinds;split<;>omega
  .refine aq.out.plus (λx u C F=>?_) ?_ a3.out.2 (b2.out.keep (Bv (M _).1))
   .rw[ma U]
    exact(Y _ x U U F).trans ((aE.out x U U).trans (aH.out x u))
   .rw[ma bX.out.2.2.2]
    exact(dm (bu a2.out)).trans a2.out
  .omega
end
end Go.aO
