/- A part. -/
import Derived.Test.YtoebddanaobpaaaGreatDoorP32
import Derived.Maps.AppendAt
set_option maxHeartbeats 8000000
set_option maxRecDepth 100000
set_option linter.all false
namespace Go.aO
open Go.Proofs Tryz Go.RowKit
variable{T b n o:Nat}{W aL w w' w3:S7}{v:S9}{q:TV}{f:Ty}{d:dw}{p:gz}
section
variable{A:TJ}
def iV(T:Nat)(w:S7):S7:={w with heap:=w.heap.setIfInBounds T (.cells #[] 0)}
def ma(h:b≠T):(iV T w).heap[b]?=w.heap[b]?:=h7 (λe=>h e.symm)
def vd:(iV T w).heap.size=w.heap.size:=by simp[iV]
def Se(h:(iV T w).cell? (S8 b o)=some v):b≠T:=by
 rintro rfl;unfold World.cell? at h;dsimp only at h;split at h
 .rename_i c e g hd
  have d:=bu hd;rw[vd]at d;rw[show(iV b w).heap[b]?=_ from iO d]at hd;cases hd;simp at h
 .cases h
def Bu(h:(iV T w).cell? (S8 b o)=some v):w.cell? (S8 b o)=some v:=
 (World.cell?_of_block (ma (Se h)).symm).trans h
def Bv(g:w.grownBy w' (some T)):(iV T w).grownBy (iV T w') none:=
 ⟨g.os,g.tape,g.output,by rw[vd,vd];exact g.size,λi c _=>by
  rw[vd]at c;have:=g.size;rcases Classical.em (i=T)with rfl|h
  .rw[show(iV i w').heap[i]?=_ from iO U,show(iV i w).heap[i]?=_ from iO c]
  .rw[ma h,ma h]
   exact g.block i c (λe=>h (bD e))⟩
def wE(g:w.grownBy w' none)(T:TN):w.grownBy w' T:=⟨g.os,g.tape,g.output,g.size,λi c _=>g.block i c aF⟩
def SV(g:w.grownBy w' none)(h:w.heap.size<=T):w.grownBy (iV T w') none:=
 ⟨g.os,g.tape,g.output,by rw[vd];exact g.size,λi c d=>by rw[ma U];exact g.block i c d⟩
def kU.un(h:kU (iV T w) q n f):kU w q n f:=λd=>by let⟨b,o,e,k⟩:=h d;exact⟨b,o,e,λj c=>Bu (k j c)⟩
def iZ.un(h:iZ (iV T w) d p):iZ w d p where
 first:=h.first.un
 kM f:=by let⟨b,o,e,k⟩:=h.kM f;exact⟨b,o,e,λi c=>⟨Bu (k i c).1,Bu (k i c).2⟩⟩
 cQ i c:=(h.cQ i c).un
 free:=h.free.un
def kU.iV(h:gn w b 0 n f)(c:b≠T):kU (iV T w) (some (Ti b)) n f:=λ_=>⟨b,0,S6,h.lK (ma c)⟩
def e'.iV{D:cC}{P:eg}(h:e' w D P)(o:P.off D T):e' (iV T w) D P where
 first:=h.first.lK (ma o.F)
 bV i c:=(World.cell?_of_block (ma o.R)).trans (h.bV i c)
 rows i c:=(World.cell?_of_block (ma o.R)).trans (h.rows i c)
 cQ i c:=(h.cQ i c).lK (ma (o.P i c))
 free d:=by let⟨b,f,e,k⟩:=h.free d;exact⟨b,f,e,k.lK (ma (o.h4 b f d e))⟩
def dw.plus(d:dw)(r:Int)(n:Nat)(f:Ty):dw:={d with bk:=d.bk+1,bV:=λi=>if i=d.bk then r else d.bV i,eP:=λi=>if i=d.bk then n else d.eP i,cQ:=λi=>if i=d.bk then f else d.cQ i}
def gz.plus(p:gz)(d:dw)(g:Nat)(c:Nat)(q:TV)(f:Nat):gz:={p with hH:=some (Ti g),dq:=c,fh:=λi=>if i=d.bk then q else p.fh i,cq:=λi=>if i=d.bk then f else p.cq i}
def qx.plus{g c u:Nat}{cur:Te}{r:Int}(K:qx aL d p w3)(T:∀x,x<w3.heap.size->aL.heap.size<=x->(Value.slice p.hH d.bk p.dq).ownBlock≠some x->W.heap[x]?=w3.heap[x]?)(l:W.heap[g]?=some (.cells cur 27))(w:cur.toList.take ((d.bk+1)*2)=iR d (λi=>((p.fh i).map (·.block)).getD 0) p.cq d.bk++[ah r,.slice q n u])(V:kU W q n f):
 iZ W (d.plus r n f) (p.plus d g c q u):=by
 let⟨⟨P,I,hF,X⟩,⟨Q,J,R,Y⟩,L⟩:=K.plain;have H:∀{b m:Nat} {z:Ty},gn w3 b 0 m z->aL.heap.size<=b->(Value.slice p.hH d.bk p.dq).ownBlock≠some b->gn W b 0 m z:=λ{b m z} h G l=>by intro j S;have w:=h j S;exact(World.cell?_of_block (T b (lD w) G l)).trans w
 refine⟨λC=>?_,λ_=>?_,λi B=>?_,λC=>?_⟩
 .let⟨b,o,e,k⟩:=K.raw.first C
  rw[I]at e;cases e;exact⟨P,0,I,H k hF X⟩
 .refine⟨g,0,S6,λi B=>?_⟩
  have M:=Aw d (λi=>((p.fh i).map (·.block)).getD 0) p.cq d.bk;have B:i<d.bk+1:=B;by_cases y:i=d.bk
  .subst y
   have E:(iR d (λi=>((p.fh i).map (·.block)).getD 0) p.cq d.bk++[ah r,.slice q n u])[d.bk*2]?=some (ah r):=by rw[jb U,M,Nat.sub_self];rfl
   have F:(iR d (λi=>((p.fh i).map (·.block)).getD 0) p.cq d.bk++[ah r,.slice q n u])[d.bk*2+1]?=some (.slice q n u):=by rw[jb U,M,Nat.add_sub_cancel_left];rfl
   refine⟨(nQ l w E).trans ?_,?_⟩
   .simp[dw.plus]
   .rw[Ul]
    refine(nQ l w F).trans ?_;simp[dw.plus,gz.plus]
  .let⟨b,D,_,_⟩:=L i U
   have e:=xy d (λi=>((p.fh i).map (·.block)).getD 0) p.cq d.bk i U;have E:(iR d (λi=>((p.fh i).map (·.block)).getD 0) p.cq d.bk++[ah r,.slice q n u])[i*2]?=some (ah (d.bV i)):=by rw[jz U];exact e.1
   have F:(iR d (λi=>((p.fh i).map (·.block)).getD 0) p.cq d.bk++[ah r,.slice q n u])[i*2+1]?=some (.slice (p.fh i) (d.eP i) (p.cq i)):=by rw[jz U,e.2,D];rfl
   refine⟨(nQ l w E).trans ?_,?_⟩
   .simp[dw.plus,y]
   .rw[Ul]
    refine(nQ l w F).trans ?_;simp[dw.plus,gz.plus,y]
 .have B:i<d.bk+1:=B
  by_cases y:i=d.bk
  .simpa [dw.plus,gz.plus,y]using V
  .let⟨b,D,G,l⟩:=L i U
   have k:=K.raw.cQ i U;show kU W (if i=d.bk then q else p.fh i) (if i=d.bk then n else d.eP i) (if i=d.bk then f else d.cQ i);simp only[Tm y];intro C;let⟨Z,o,e,k⟩:=k C;rw[D]at e;cases e;exact⟨b,0,D,H k G l⟩
 .let⟨b,o,e,k⟩:=K.raw.free C
  rw[J]at e;cases e;exact⟨Q,0,J,H k R Y⟩
def qx.days{m a c:Nat}{z:Ty}(K:qx aL d p w3)(n:∀x,x<w3.heap.size->aL.heap.size<=x->W.heap[x]?=w3.heap[x]?)(F:gn W a 0 m z):iZ W {d with b':=m,free:=z} {p with ei:=some (Ti a),dc:=c}:=by
 let⟨⟨r,y,hF,M⟩,_,E⟩:=K.plain;refine⟨λf=>?_,λf=>?_,λi h f=>?_,λ_=>⟨a,0,S6,F⟩⟩
 .let⟨b,o,e,k⟩:=K.raw.first f
  rw[y]at e;cases e;exact⟨r,0,y,λj l=>(World.cell?_of_block (n r (lD (k j l)) hF)).trans (k j l)⟩
 .let⟨g,H,cur,e,C,q,L⟩:=xk K.own f
  let⟨b,o,u,k⟩:=K.raw.kM f;injection e with w I J
  rw[w]at u;cases u;exact⟨g,0,w,λi h=>⟨(World.cell?_of_block (n g (bu q) C)).trans (k i h).1,(World.cell?_of_block (n g (bu q) C)).trans (k i h).2⟩⟩
 .let⟨b,B,D,q⟩:=E i h
  let⟨G,o,e,k⟩:=K.raw.cQ i h f;rw[B]at e;cases e;exact⟨b,0,B,λj l=>(World.cell?_of_block (n b (lD (k j l)) D)).trans (k j l)⟩
def Hq(w w':S7)(T:Nat)(L:S9)(d:dw)(p:gz)(B:Nat):Prop:=∃(g':Nat) (D:cC) (P:eg) (d2:dw) (c:gz),D.ok/\d2.small/\e' (iV T w') D P/\iZ (iV T w') d2 c/\B≠T/\
 w'.heap[B]?=some (.cells (eB d p++eB D.raw P.raw++eB d2 c) 25)/\g'<=1000/\fS w' T L g'/\w.grownBy w' (some T)
def S1[S:Std A](T g:Nat)(L:S9)(cH:g<=10)(d:dw)(bF:d.small)(p:gz)(r:Int)(q:TV)(n F:Nat)(f:Ty)(cJ:n<=20)(w:S7)(h:iZ (iV T w) d p)(ag:kU (iV T w) q n f)(au:fS w T L g):
 Calls (ao A) 7 #[.agg (eB d p),.agg #[ah r,.slice q n F],Tj T] w λe w'=>∃B:Nat,e=.returned (Ts B 3 3)/\Hq w w' T L d p B:=by
 have cF:=au.lt;obtain⟨I,X⟩:∃I,(w.alloc (.cells (eB d p) 25)).alloc (.cells #[ah r,.slice q n F] 27)=I:=⟨_,S6⟩
 have aK:w.grownBy I none:=by rw[<-X];exact bT.trans bT
 have bJ:I.heap.size=w.heap.size+2:=by rw[<-X];simp
 have a5:I.heap[w.heap.size]?=some (.cells (eB d p) 25):=by rw[<-X];exact(dm aF).trans (fM _ _)
 have a7:I.heap[w.heap.size+1]?=some (.cells #[ah r,.slice q n F] 27):=by rw[<-X,show w.heap.size+1=(w.alloc (.cells (eB d p) 25)).heap.size by simp];exact fM _ _
 have bL:=al a5;have bM:=al a7;have b4:=al (show fS I T L g from au.keep λb aO=>aK.block b aO aF);have a3:=al aK;have aH:=al bJ;have bP:=al X;have b1:=al h;have b0:=al ag;have bY:=al au.nm;clear aK bJ a5 a7 X h ag au;go_enter (S.f func7),ntmps7;go_upto_region 1 with fail
 have aM:=bP.out;dsimp only[eB]at aM;rw[aM];clear aM;go_upto_region 3 with(first
  |(go_at_call 25;refine(Q6 (A:=A) T g L U I b4.out).mono ?_;rintro e w2 ⟨D,P,ae,ok,rfl,bh,bs,cI,bv,bn⟩;have aA:=al bn;have b5:=al bv;have a4:=al bh;have bZ:=al bs;have E:=al ok;clear bn bv bh bs ok)
  |(go_at_call 8;refine(Le (A:=A) D.raw (cC.rl E.out) P.raw _ ((a4.out.keep bT).raw)).mono ?_;rintro e w3 ⟨j,rfl,bg,bo⟩;have aB:=al bo;have bX:=al bg;clear bo bg))
 have bG:w.heap.size+2<=w2.heap.size:=by have:=aA.out.size;have:=aH.out;omega
 have bH:w2.heap.size+1<=w3.heap.size:=by have:=aB.out.size;simpa using this
 have aJ:=fM w3 (.cells (eB D.raw j) 25);have aL:=dU w3 (.cells (eB D.raw j) 25) none;dsimp only[eB]at aJ aL;generalize aN:World.alloc w3 _=K at *;have bI:K.heap.size=w3.heap.size+1:=by rw[<-aN];simp
 have aV:∀x,x<w3.heap.size->K.heap[x]?=w3.heap[x]?:=λx aT=>by rw[<-aN];exact dm aT
 have aq:=(dU w2 (.cells (eB D.raw P.raw) 25) none).trans (aB.out.trans aL);have a8:K.heap[w2.heap.size]?=some (.cells (eB D.raw P.raw) 25):=(aV _ U).trans ((aB.out.block _ aF aF).trans (fM _ _));have t4:fS K T L ae:=b5.out.keep λb aO=>aq.block b aO aF
 have bd:I.grownBy K (some T):=aA.out.trans (wE aq _);have M:=al (Ud bG (Ud bH bI));have aE:=al aV;have bN:=al a8;have bO:=al aJ;have b6:=al t4;have bR:=al bd;have bU:=al aq;clear bG bH bI aN aV a8 aJ t4 bd aq aL;go_upto_if 14 with(go_at_call 26;refine(E1 (A:=A) T ae L U 2 U K b6.out).mono ?_;rintro e c ⟨cf,rfl,bw,bq⟩;have b7:=al bw;have ak:=al bq;clear bw bq)
 have av:∀x,x<K.heap.size->x≠T->c.heap[x]?=K.heap[x]?:=λx m y=>ak.out.block x m (λe=>y (bD e))
 have cE:=ak.out.size;have bb:c.heap[w3.heap.size]?=some (.cells (eB D.raw j) 25):=(av _ (by have:=M.out;omega) (by have:=M.out;omega)).trans bO.out;have ba:c.heap[w2.heap.size]?=some (.cells (eB D.raw P.raw) 25):=(av _ (by have:=M.out;omega) (by have:=M.out;omega)).trans bN.out;have ap:=bR.out.trans ak.out;have c3:c.heap[w.heap.size]?=some (.cells (eB d p) 25):=(ap.block _ (by have:=aH.out;omega) (λe=>by have:=bD e;omega)).trans bL.out;have a9:c.heap[w.heap.size+1]?=some (.cells #[ah r,.slice q n F] 27):=(ap.block _ (by have:=aH.out;omega) (λe=>by have:=bD e;omega)).trans bM.out;have aC:=al av;have ax:=al bb;have aZ:=al ba;have aw:=al c3;have aY:=al a9;have bS:=al ((wE a3.out (some T)).trans ap);clear av ap;obtain⟨wk,aS⟩:∃wk,w2.alloc (.cells (eB D.raw P.raw) 25)=wk:=⟨_,S6⟩
 have aX:wk.heap.size=w2.heap.size+1:=by rw[<-aS];simp
 have am:=al (show qx wk D.raw j w3 by rw[<-aS];exact bX.out);have aI:=al aX;have cK:=E.out.bk;have a2:=al (show ∀W:S7,(∀x,x<w3.heap.size->x≠T->x<wk.heap.size->W.heap[x]?=c.heap[x]?)->W.heap[T]?=c.heap[T]?->W.os=c.os/\W.tape=c.tape/\W.output=c.output/\c.heap.size<=W.heap.size->w.grownBy W (some T)/\fS W T L (ae+1)/\e' (iV T W) D P from λW m y C=>by
  have x:=M.out;have aX:=aI.out;have af:w2.grownBy c (some T):=(wE bU.out _).trans ak.out;have bf:w2.grownBy W (some T):=⟨C.1.trans af.os,C.2.1.trans af.tape,C.2.2.1.trans af.output,cL af.size C.2.2.2,λi ch ag=>(m i U (λe=>ag (by rw[e])) U).trans (af.block i ch ag)⟩
  have GW:w.grownBy W (some T):=((wE a3.out (some T)).trans aA.out).trans bf;let⟨s,cj,ck⟩:=b7.out.blk;exact⟨GW,⟨⟨s,y.trans cj,ck⟩,bY.out.keep GW⟩,(a4.out.iV bZ.out).keep (Bv bf)⟩)
 clear bb ba c3 a9 aX aS;cases cf
 case false=>
  have aT:=M.out;have bE:iZ c d p:=(b1.out.keep (Bv bS.out)).un;have bQ:=al bE.free;have cG:=bF.h4;have cn:c.cell? (S8 w.heap.size 3)=some (.slice p.ei d.b' p.dc):=(aU (o:=3) aw.out).trans S6;clear bE;go_upto_region 6 with(go_at_call 27;refine(wP (A:=A) p.ei d.b' p.dc d.free U c bQ.out).mono ?_;rintro e l ⟨z,⟨bp,rfl⟩,bi,bj,bk,aQ⟩;have ay:=al (Ud bi (Ud bj bk));have Y:=al aQ;have H:=(aQ.block _ U aF).trans ax.out;have aW:=aU (o:=3) H;have f3:=b3 (o:=3) H;have az:=al H;clear bi bj bk aQ H)
  clear cn aW f3;have d8:(l.setCell (S8 w3.heap.size 3) (Ts z d.b' bp)).heap[w3.heap.size]?=some (.cells (eB {D.raw with b':=d.b',free:=d.free} {j with ei:=some (Ti z),dc:=bp}) 25):=cU az.out;have ar:=Y.out.size;have cb:∀x,x<c.heap.size->x≠w3.heap.size->(l.setCell (S8 w3.heap.size 3) (Ts z d.b' bp)).heap[x]?=c.heap[x]?:=λx m y=>(e1 (by show x≠w3.heap.size;exact y)).trans (Y.out.block x m aF)
  have d3:=(cb w.heap.size U U).trans aw.out;have d7:=(cb w2.heap.size U U).trans aZ.out;have aj:(l.setCell (S8 w3.heap.size 3) (Ts z d.b' bp)).heap.size=l.heap.size:=aF;have bC:gn (l.setCell (S8 w3.heap.size 3) (Ts z d.b' bp)) z 0 d.b' d.free:=ay.out.2.2.lK (e1 (by show z≠w3.heap.size;have:=ay.out.1;omega));have ai:(l.setCell (S8 w3.heap.size 3) (Ts z d.b' bp)).os=c.os/\(l.setCell (S8 w3.heap.size 3) (Ts z d.b' bp)).tape=c.tape/\(l.setCell (S8 w3.heap.size 3) (Ts z d.b' bp)).output=c.output:=⟨Y.out.os,Y.out.tape,Y.out.output⟩
  generalize World.setCell l _ _=ad at *;have co:=(aU (o:=0) d3).trans S6;have cp:=(aU (o:=1) d3).trans S6;have cq:=(aU (o:=2) d3).trans S6;have cr:=(aU (o:=3) d3).trans S6;have cv:=(aU (o:=0) d7).trans S6;have cw:=(aU (o:=1) d7).trans S6;have cx:=(aU (o:=2) d7).trans S6;have cy:=(aU (o:=3) d7).trans S6;have cz:=(aU (o:=0) d8).trans S6;have cA:=(aU (o:=1) d8).trans S6;have cB:=(aU (o:=2) d8).trans S6;have cD:=(aU (o:=3) d8).trans S6;have aa:=al aj;have aD:=al cb;have cc:=al bC;have Q:=al ai;clear aj cb bC ai d3 d7 d8;go_wp2;go_ret;have V:∀(o:Obj) x,x<c.heap.size->x≠w3.heap.size->(ad.alloc o).heap[x]?=c.heap[x]?:=λo x m y=>(dm (by have:=aa.out;omega)).trans (aD.out x m y)
  have J:=λo:Obj=>a2.out (ad.alloc o) (λx m y _=>V o x U U) (V o T U U) ⟨Q.out.1,Q.out.2.1,Q.out.2.2,by have:=aa.out;simp only[cV];omega⟩
  refine⟨_,S6,ae+1,D,P,{D.raw with b':=d.b',free:=d.free},{j with ei:=some (Ti z),dc:=bp},E.out,⟨(cC.rl E.out).F,(cC.rl E.out).R,bF.h4,(cC.rl E.out).P⟩,(J _).2.2,?_,?_,fM _ _,U,(J _).2.1,(J _).1⟩
  .refine am.out.days (λx m y=>?_) ?_
   .have:=aI.out
    rw[ma U];exact(V _ x U U).trans ((aC.out x U U).trans (aE.out x m))
   .have:=ay.out.1
    exact(cc.out.keep (dU _ _ none) aF).lK (ma U)
  .have:=aa.out;omega
 case true=>
  have aT:=M.out;have cM:=aI.out;let⟨cl,br,bz,bA,bB⟩:=zz (A:=A);have bW:=al br;have b8:=al bz;have b9:=al bA;have ca:=al bB;have ce:=al (show(c.alloc (.cells #[ah r,.slice q n F] 27)).ownsRow wk.heap.size 27 2 (.slice j.hH D.bk j.dq) D.bk (iR D.raw (λi=>((j.fh i).map (·.block)).getD 0) j.cq D.bk)from j4 am.out.own (λx m y=>(dm U).trans ((aC.out x U U).trans (aE.out x y))));have aG:=al (show ∀r,(Value.slice j.hH D.bk j.dq).ownBlock=some r->wk.heap.size<=r/\r<w3.heap.size from λr e=>rh am.out.own r e);have cm:c.cell? (S8 w3.heap.size 2)=some (.slice j.hH D.bk j.dq):=(aU (o:=2) ax.out).trans S6;have ct:c.cell? (Ti (w.heap.size+1))=Tn r:=(aU (o:=0) aY.out).trans S6;have cu:c.cell? (S8 (w.heap.size+1) 1)=some (.slice q n F):=(aU (o:=1) aY.out).trans S6;clear br bz bA bB;go_upto_region 6 with(at_builtin;refine wpList_append_own_at _ S6 _ _ 23 S6 wk.heap.size 27 cl (.agg #[ah 0,.slice none 0 0]) 2 32 (ao.underlying23 A) bW.out b8.out b9.out ca.out S6 a6 _ D.bk _ S6 ce.out (Ti c.heap.size) 1 1 [ah r,.slice q n F] S6 S6 (World.news_of_block (cs:=#[ah r,.slice q n F]) (t:=27) (fr:=(0,0)) (heap_alloc_new c _)) (by simp[Value.oneCell']) kj U (by simp only[cV];omega) ?_;intro cO l bt aR ci bl;obtain⟨u,G,cur,rfl,cg,bm,bx⟩:=xk bt U;have H:l.heap[w3.heap.size]?=some (.cells (eB D.raw j) 25):=(aR.block _ (by simp only[cV];omega) (λe=>by have:=(aG.out _ e.symm).2;omega)).trans ((dm U).trans ax.out);have aW:=aU (o:=2) H;have f3:=b3 (o:=2) H;have Z:=al aR;have bK:=al bl;have a1:=al (Ud bm bx);have az:=al H;clear bt aR ci bl cg bm bx H)
  clear cm ct cu aW f3;have R:=aG.out;have aP:u≠w3.heap.size/\u≠w.heap.size/\u≠w2.heap.size/\u≠T:=by
   rcases bK.out with h|h
   .have:=R u h.symm;omega
   .have h:some u=some (c.alloc _).heap.size:=h
    have h:=bD h;rw[cV]at h;omega
  have d8:(l.setCell (S8 w3.heap.size 2) (Ts u (D.bk+1) G)).heap[w3.heap.size]?=some (.cells (eB (D.raw.plus r n f) (j.plus D.raw u G q F)) 25):=cU az.out;have ar:=Z.out.size;have cb:∀x,x<c.heap.size->x≠w3.heap.size->(Value.slice j.hH D.bk j.dq).ownBlock≠some x->(l.setCell (S8 w3.heap.size 2) (Ts u (D.bk+1) G)).heap[x]?=c.heap[x]?:=λx m y C=>(e1 (by show x≠w3.heap.size;exact y)).trans ((Z.out.block x (by simp only[cV];omega) (λe=>C e.symm)).trans (dm m))
  have d3:=(cb w.heap.size U U (λe=>by have:=R _ e;omega)).trans aw.out;have d7:=(cb w2.heap.size U U (λe=>by have:=R _ e;omega)).trans aZ.out;have aj:(l.setCell (S8 w3.heap.size 2) (Ts u (D.bk+1) G)).heap.size=l.heap.size:=aF;have bc:(l.setCell (S8 w3.heap.size 2) (Ts u (D.bk+1) G)).heap[u]?=some (.cells cur 27):=(e1 (by show u≠w3.heap.size;exact aP.1)).trans a1.out.1;have ai:(l.setCell (S8 w3.heap.size 2) (Ts u (D.bk+1) G)).os=c.os/\(l.setCell (S8 w3.heap.size 2) (Ts u (D.bk+1) G)).tape=c.tape/\(l.setCell (S8 w3.heap.size 2) (Ts u (D.bk+1) G)).output=c.output:=⟨Z.out.os,Z.out.tape,Z.out.output⟩
  generalize World.setCell l _ _=ad at *;have co:=(aU (o:=0) d3).trans S6;have cp:=(aU (o:=1) d3).trans S6;have cq:=(aU (o:=2) d3).trans S6;have cr:=(aU (o:=3) d3).trans S6;have cv:=(aU (o:=0) d7).trans S6;have cw:=(aU (o:=1) d7).trans S6;have cx:=(aU (o:=2) d7).trans S6;have cy:=(aU (o:=3) d7).trans S6;have cz:=(aU (o:=0) d8).trans S6;have cA:=(aU (o:=1) d8).trans S6;have cB:=(aU (o:=2) d8).trans S6;have cD:=(aU (o:=3) d8).trans S6;have aa:=al aj;have aD:=al cb;have a0:=al bc;have Q:=al ai;have b2:=al ar;have bV:=al aP;clear aj cb bc ai d3 d7 d8 R aP ar;go_wp2;go_ret;have ar:c.heap.size+1<=l.heap.size:=by have:=b2.out;simpa using this
  have cN:=aa.out;have R:=aG.out;have V:∀(o:Obj) x,x<c.heap.size->x≠w3.heap.size->(Value.slice j.hH D.bk j.dq).ownBlock≠some x->(ad.alloc o).heap[x]?=c.heap[x]?:=λo x m y C=>(dm U).trans (aD.out x m y C)
  have J:=λo:Obj=>a2.out (ad.alloc o) (λx m y C=>V o x U U (λe=>by have:=R _ e;omega)) (V o T U U (λe=>by have:=R _ e;omega)) ⟨Q.out.1,Q.out.2.1,Q.out.2.2,by simp only[cV];omega⟩
  refine⟨_,S6,ae+1,D,P,D.raw.plus r n f,j.plus D.raw u G q F,E.out,⟨(cC.rl E.out).F,by show D.bk+1<=20;omega,(cC.rl E.out).h4,λi _=>?_⟩,(J _).2.2,?_,?_,fM _ _,U,(J _).2.1,(J _).1⟩
  .show(if i=D.bk then n else D.kinds)<=20
   have:=E.out.kinds;split<;>omega
  .refine am.out.plus (λx m y C=>?_) ?_ a1.out.2 (b0.out.keep (Bv (J _).1))
   .rw[ma U]
    exact(V _ x U U C).trans ((aC.out x U U).trans (aE.out x m))
   .rw[ma bV.out.2.2.2]
    exact(dm (bu a0.out)).trans a0.out
  .omega
end
end Go.aO
